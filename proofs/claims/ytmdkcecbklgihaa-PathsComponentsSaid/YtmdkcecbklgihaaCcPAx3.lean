/- Printed by a program of this session (wip/tools/patch_print.py and pr.py, over the kit's print): each Go function as a plain Lean function, and that the Go code comes to just its answers. Conditions: those that each theorem names. -/
import Derived.Test.YtmdkcecbklgihaaCcPAx0
import Derived.Test.YtmdkcecbklgihaaCcPAx1
namespace Go.Proofs.Ytmdkcecbklgihaa.PA
open Go.RowKit Go.Proofs.YtmdkcecbklgihaaW.PrintWords Go.Proofs.YtmdkcecbklgihaaW.PrintLast Go.Proofs.YtmdkcecbklgihaaW.PrintMore
attribute [local go_sem] max2_int min2_int max_two min_two max_three min_three max_four min_four
set_option linter.unusedVariables false
set_option linter.unusedSimpArgs false
def metric_Limit.f (a0:Nat):Option (Int):=(metric_within.f a0 4742290407621132288).bind fun t137 => (some t137)
set_option maxHeartbeats 8000000 in
set_option maxRecDepth 100000 in
theorem metric_Limit.calls (a0:Nat) (r:Int) (w:World) (h:metric_Limit.f a0 = some r) :
  Calls Try.prog 49 #[.float .f64 a0] w fun e w' => e = .returned (.int .i64 r) ∧ Drawn0 w w':=by
 have H:((metric_within.f a0 4742290407621132288).bind fun t137 => (some t137)) = some r:=h
 clear h
 replace H:=Option.bind_eq_some_iff.mp H
 obtain ⟨t137,A20,H⟩:=H
 replace H:(some t137) = some r:=H
 have A2:=Aside0.mk A20
 clear A20
 obtain rfl:=Option.some.inj H
 go_enter Try.func49,Try.ntmps49
 go_wp2_with (first | ((with_reducible refine gate_callee (f:=60) rfl ?_);refine goesL_ (some 4) rfl rfl Try.func60 (by kernel_rfl) rfl #[.float .f64 a0,.float .f64 4742290407621132288] rfl (by (try simp only [List.map_toArray,List.map_cons,List.map_nil]);first | done | rfl | (simp only [List.length_drop,List.length_take];rfl)) ?_;(with_reducible refine (metric_within.calls a0 4742290407621132288 t137 _ A2.out).mono ?_);rintro e w' ⟨rfl,⟨nd,rfl⟩⟩;refine ⟨_,rfl,?_⟩))
 go_ret
 exact ⟨by first | rfl | (simp;done) | (simp [*];done),by repeat (first | exact Drawn0.refl _ | apply Drawn0.step)⟩
def math_Inf.f (a0:Int):Option (Nat):=if a0 ≥ 0 then (some 9218868437227405312) else (some 18442240474082181120)
set_option maxHeartbeats 8000000 in
set_option maxRecDepth 100000 in
theorem math_Inf.calls (a0:Int) (r:Nat) (w:World) (h:math_Inf.f a0 = some r) :
  Calls Try.prog 53 #[.int .i64 a0] w fun e w' => e = .returned (.float .f64 r) ∧ Drawn0 w w':=by
 have hX56:=run_Float64frombits Try.func56 (by kernel_rfl) (by kernel_rfl) (by kernel_rfl) (by kernel_rfl)
 have H:(if a0 ≥ 0 then (some 9218868437227405312) else (some 18442240474082181120)) = some r:=h
 clear h
 by_cases c2:a0 ≥ 0
 ·rw [if_pos c2] at H
  have c2b0:decide (0 ≤ a0) = true:=decide_eq_true c2
  clear c2
  obtain rfl:=Option.some.inj H
  go_enter Try.func53,Try.ntmps53
  go_wp2
  go_ret
  exact ⟨by first | rfl | (simp;done) | (simp [*];done),by repeat (first | exact Drawn0.refl _ | apply Drawn0.step)⟩
 rw [if_neg c2] at H
 have c2b0:decide (0 ≤ a0) = false:=decide_eq_false c2
 clear c2
 obtain rfl:=Option.some.inj H
 go_enter Try.func53,Try.ntmps53
 go_wp2
 go_ret
 exact ⟨by first | rfl | (simp;done) | (simp [*];done),by repeat (first | exact Drawn0.refl _ | apply Drawn0.step)⟩
def bits_Mul64.f (a0:Int) (a1:Int):Option (Int × Int):=some (IntKind.u64.wrap ((IntKind.u64.wrap ((IntKind.u64.wrap ((a0 / 4294967296) * (a1 / 4294967296))) + ((IntKind.u64.wrap ((IntKind.u64.wrap ((a0 / 4294967296) * (Go.bits .and .u64 a1 4294967295))) + ((IntKind.u64.wrap ((Go.bits .and .u64 a0 4294967295) * (Go.bits .and .u64 a1 4294967295))) / 4294967296))) / 4294967296))) + ((IntKind.u64.wrap ((Go.bits .and .u64 (IntKind.u64.wrap ((IntKind.u64.wrap ((a0 / 4294967296) * (Go.bits .and .u64 a1 4294967295))) + ((IntKind.u64.wrap ((Go.bits .and .u64 a0 4294967295) * (Go.bits .and .u64 a1 4294967295))) / 4294967296))) 4294967295) + (IntKind.u64.wrap ((Go.bits .and .u64 a0 4294967295) * (a1 / 4294967296))))) / 4294967296)),IntKind.u64.wrap (a0 * a1))
set_option maxHeartbeats 8000000 in
set_option maxRecDepth 100000 in
theorem bits_Mul64.calls (a0:Int) (a1:Int) (r1:Int) (r2:Int) (w:World) (h:bits_Mul64.f a0 a1 = some (r1,r2)) :
  Calls Try.prog 96 #[.int .u64 a0,.int .u64 a1] w fun e w' => e = .returned (.tuple #[.int .u64 r1,.int .u64 r2]) ∧ Drawn0 w w':=by
 have H:(some (IntKind.u64.wrap ((IntKind.u64.wrap ((IntKind.u64.wrap ((a0 / 4294967296) * (a1 / 4294967296))) + ((IntKind.u64.wrap ((IntKind.u64.wrap ((a0 / 4294967296) * (Go.bits .and .u64 a1 4294967295))) + ((IntKind.u64.wrap ((Go.bits .and .u64 a0 4294967295) * (Go.bits .and .u64 a1 4294967295))) / 4294967296))) / 4294967296))) + ((IntKind.u64.wrap ((Go.bits .and .u64 (IntKind.u64.wrap ((IntKind.u64.wrap ((a0 / 4294967296) * (Go.bits .and .u64 a1 4294967295))) + ((IntKind.u64.wrap ((Go.bits .and .u64 a0 4294967295) * (Go.bits .and .u64 a1 4294967295))) / 4294967296))) 4294967295) + (IntKind.u64.wrap ((Go.bits .and .u64 a0 4294967295) * (a1 / 4294967296))))) / 4294967296)),IntKind.u64.wrap (a0 * a1))) = some (r1,r2):=h
 clear h
 simp only [Option.some.injEq,Prod.mk.injEq] at H
 obtain ⟨rfl,rfl⟩:=H
 go_enter Try.func96,Try.ntmps96
 go_wp2
 go_ret2
 exact ⟨by first | rfl | (simp;done) | (simp [*];done),by repeat (first | exact Drawn0.refl _ | apply Drawn0.step)⟩
def bits_Mul.f (a0:Int) (a1:Int):Option (Int × Int):=(bits_Mul64.f a0 a1).bind fun bt138 => (some (bt138.1,bt138.2))
set_option maxHeartbeats 8000000 in
set_option maxRecDepth 100000 in
theorem bits_Mul.calls (a0:Int) (a1:Int) (r1:Int) (r2:Int) (w:World) (h:bits_Mul.f a0 a1 = some (r1,r2)) :
  Calls Try.prog 83 #[.int .u64 a0,.int .u64 a1] w fun e w' => e = .returned (.tuple #[.int .u64 r1,.int .u64 r2]) ∧ Drawn0 w w':=by
 have H:((bits_Mul64.f a0 a1).bind fun bt138 => (some (bt138.1,bt138.2))) = some (r1,r2):=h
 clear h
 replace H:=Option.bind_eq_some_iff.mp H
 obtain ⟨⟨t138,t139⟩,A30,H⟩:=H
 replace H:(some (t138,t139)) = some (r1,r2):=H
 have A3:=Aside0.mk A30
 clear A30
 simp only [Option.some.injEq,Prod.mk.injEq] at H
 obtain ⟨rfl,rfl⟩:=H
 go_enter Try.func83,Try.ntmps83
 go_wp2_with (first | ((with_reducible refine gate_callee (f:=96) rfl ?_);refine goesL_ (some 25) rfl rfl Try.func96 (by kernel_rfl) rfl #[.int .u64 a0,.int .u64 a1] rfl (by (try simp only [List.map_toArray,List.map_cons,List.map_nil]);first | done | rfl | (simp only [List.length_drop,List.length_take];rfl)) ?_;(with_reducible refine (bits_Mul64.calls a0 a1 t138 t139 _ A3.out).mono ?_);rintro e w' ⟨rfl,⟨nd,rfl⟩⟩;refine ⟨_,rfl,?_⟩))
 go_ret2
 exact ⟨by first | rfl | (simp;done) | (simp [*];done),by repeat (first | exact Drawn0.refl _ | apply Drawn0.step)⟩
def metric_Add.f (a0:Nat) (a1:Nat) (a2:Nat):Option (Nat):=(floatBits .add .f64 a0 a1).bind fun t144 => ((math_IsNaN.f t144).bind fun t145 => (if t145 = true then (some 9221120237041090560) else (if ((FloatKind.f64.format.order t144 a2 == some .lt) = true) then (if (FloatKind.f64.format.order t144 0 == some .eq) = true then (some 0) else (some t144)) else ((math_Inf.f 1).bind fun t146 => (some t146)))))
set_option maxHeartbeats 8000000 in
set_option maxRecDepth 100000 in
theorem metric_Add.calls (a0:Nat) (a1:Nat) (a2:Nat) (r:Nat) (w:World) (h:metric_Add.f a0 a1 a2 = some r) :
  Calls Try.prog 51 #[.float .f64 a0,.float .f64 a1,.float .f64 a2] w fun e w' => e = .returned (.float .f64 r) ∧ Drawn0 w w':=by
 have hX56:=run_Float64frombits Try.func56 (by kernel_rfl) (by kernel_rfl) (by kernel_rfl) (by kernel_rfl)
 have H:((floatBits .add .f64 a0 a1).bind fun t144 => ((math_IsNaN.f t144).bind fun t145 => (if t145 = true then (some 9221120237041090560) else (if ((FloatKind.f64.format.order t144 a2 == some .lt) = true) then (if (FloatKind.f64.format.order t144 0 == some .eq) = true then (some 0) else (some t144)) else ((math_Inf.f 1).bind fun t146 => (some t146)))))) = some r:=h
 clear h
 replace H:=Option.bind_eq_some_iff.mp H
 obtain ⟨t144,A40,H⟩:=H
 replace H:((math_IsNaN.f t144).bind fun t145 => (if t145 = true then (some 9221120237041090560) else (if ((FloatKind.f64.format.order t144 a2 == some .lt) = true) then (if (FloatKind.f64.format.order t144 0 == some .eq) = true then (some 0) else (some t144)) else ((math_Inf.f 1).bind fun t146 => (some t146))))) = some r:=H
 have A4f:∀ W_:World,(binOp .add 26 (.float .f64 a0) (.float .f64 a1)).run Try.prog W_ = .ok (.float .f64 t144) W_:=fun W_ => run_float_arith W_ .add 26 .f64 _ _ _ A40
 have A4:=Aside0.mk A40
 clear A40
 replace H:=Option.bind_eq_some_iff.mp H
 obtain ⟨t145,A50,H⟩:=H
 replace H:(if t145 = true then (some 9221120237041090560) else (if ((FloatKind.f64.format.order t144 a2 == some .lt) = true) then (if (FloatKind.f64.format.order t144 0 == some .eq) = true then (some 0) else (some t144)) else ((math_Inf.f 1).bind fun t146 => (some t146)))) = some r:=H
 have A5:=Aside0.mk A50
 clear A50
 by_cases c6:t145 = true
 ·subst c6
  have H1:(some 9221120237041090560) = some r:=by rw [if_pos rfl] at H;exact H
  clear H
  have H:=H1
  clear H1
  obtain rfl:=Option.some.inj H
  go_enter Try.func51,Try.ntmps51
  go_wp2_with (first | ((with_reducible refine gate_callee (f:=43) rfl ?_);refine goesL_ (some 13) rfl rfl Try.func43 (by kernel_rfl) rfl #[.float .f64 t144] rfl (by (try simp only [List.map_toArray,List.map_cons,List.map_nil]);first | done | rfl | (simp only [List.length_drop,List.length_take];rfl)) ?_;(with_reducible refine (math_IsNaN.calls t144 true _ A5.out).mono ?_);rintro e w' ⟨rfl,⟨nd,rfl⟩⟩;refine ⟨_,rfl,?_⟩))
  go_ret
  exact ⟨by first | rfl | (simp;done) | (simp [*];done),by repeat (first | exact Drawn0.refl _ | apply Drawn0.step)⟩
 replace c6:=Bool.eq_false_iff.mpr c6
 subst c6
 have H1:(if ((FloatKind.f64.format.order t144 a2 == some .lt) = true) then (if (FloatKind.f64.format.order t144 0 == some .eq) = true then (some 0) else (some t144)) else ((math_Inf.f 1).bind fun t146 => (some t146))) = some r:=by rw [if_neg (show ¬ (false = true) by decide)] at H;exact H
 clear H
 have H:=H1
 clear H1
 by_cases c7:((FloatKind.f64.format.order t144 a2 == some .lt) = true)
 ·rw [if_pos c7] at H
  have c7b0:(FloatKind.f64.format.order t144 a2 == some .lt) = true:=c7
  (try (have c7b1:decide (FloatKind.f64.format.order t144 a2 = some .lt) = true:=by simpa using c7))
  (try (have c7b2:(FloatKind.f64.format.order t144 a2 == some .lt) = true:=by simpa using c7))
  clear c7
  by_cases c8:(FloatKind.f64.format.order t144 0 == some .eq) = true
  ·rw [if_pos c8] at H
   have c8b0:(FloatKind.f64.format.order t144 0 == some .eq) = true:=c8
   (try (have c8b1:decide (FloatKind.f64.format.order t144 0 = some .eq) = true:=by simpa using c8))
   (try (have c8b2:(FloatKind.f64.format.order t144 0 == some .eq) = true:=by simpa using c8))
   clear c8
   obtain rfl:=Option.some.inj H
   go_enter Try.func51,Try.ntmps51
   go_wp2_with (first | ((with_reducible refine gate_callee (f:=43) rfl ?_);refine goesL_ (some 13) rfl rfl Try.func43 (by kernel_rfl) rfl #[.float .f64 t144] rfl (by (try simp only [List.map_toArray,List.map_cons,List.map_nil]);first | done | rfl | (simp only [List.length_drop,List.length_take];rfl)) ?_;(with_reducible refine (math_IsNaN.calls t144 false _ A5.out).mono ?_);rintro e w' ⟨rfl,⟨nd,rfl⟩⟩;refine ⟨_,rfl,?_⟩))
   go_ret
   exact ⟨by first | rfl | (simp;done) | (simp [*];done),by repeat (first | exact Drawn0.refl _ | apply Drawn0.step)⟩
  rw [if_neg c8] at H
  have c8b0:(FloatKind.f64.format.order t144 0 == some .eq) = false:=by simpa using c8
  (try (have c8b1:decide (FloatKind.f64.format.order t144 0 = some .eq) = false:=by simpa using c8))
  (try (have c8b2:(FloatKind.f64.format.order t144 0 == some .eq) = false:=by simpa using c8))
  (try (have c8b3:¬ (FloatKind.f64.format.order t144 0 = some .eq):=by simpa using c8))
  clear c8
  obtain rfl:=Option.some.inj H
  go_enter Try.func51,Try.ntmps51
  go_wp2_with (first | ((with_reducible refine gate_callee (f:=43) rfl ?_);refine goesL_ (some 13) rfl rfl Try.func43 (by kernel_rfl) rfl #[.float .f64 t144] rfl (by (try simp only [List.map_toArray,List.map_cons,List.map_nil]);first | done | rfl | (simp only [List.length_drop,List.length_take];rfl)) ?_;(with_reducible refine (math_IsNaN.calls t144 false _ A5.out).mono ?_);rintro e w' ⟨rfl,⟨nd,rfl⟩⟩;refine ⟨_,rfl,?_⟩))
  go_ret
  exact ⟨by first | rfl | (simp;done) | (simp [*];done),by repeat (first | exact Drawn0.refl _ | apply Drawn0.step)⟩
 rw [if_neg c7] at H
 have c7b0:(FloatKind.f64.format.order t144 a2 == some .lt) = false:=by simpa using c7
 (try (have c7b1:decide (FloatKind.f64.format.order t144 a2 = some .lt) = false:=by simpa using c7))
 (try (have c7b2:(FloatKind.f64.format.order t144 a2 == some .lt) = false:=by simpa using c7))
 (try (have c7b3:¬ (FloatKind.f64.format.order t144 a2 = some .lt):=by simpa using c7))
 clear c7
 replace H:=Option.bind_eq_some_iff.mp H
 obtain ⟨t146,A90,H⟩:=H
 replace H:(some t146) = some r:=H
 have A9:=Aside0.mk A90
 clear A90
 obtain rfl:=Option.some.inj H
 go_enter Try.func51,Try.ntmps51
 go_wp2_with (first | ((with_reducible refine gate_callee (f:=43) rfl ?_);refine goesL_ (some 13) rfl rfl Try.func43 (by kernel_rfl) rfl #[.float .f64 t144] rfl (by (try simp only [List.map_toArray,List.map_cons,List.map_nil]);first | done | rfl | (simp only [List.length_drop,List.length_take];rfl)) ?_;(with_reducible refine (math_IsNaN.calls t144 false _ A5.out).mono ?_);rintro e w' ⟨rfl,⟨nd,rfl⟩⟩;refine ⟨_,rfl,?_⟩) | ((with_reducible refine gate_callee (f:=53) rfl ?_);refine goesL_ (some 20) rfl rfl Try.func53 (by kernel_rfl) rfl #[.int .i64 1] rfl (by (try simp only [List.map_toArray,List.map_cons,List.map_nil]);first | done | rfl | (simp only [List.length_drop,List.length_take];rfl)) ?_;(with_reducible refine (math_Inf.calls 1 t146 _ A9.out).mono ?_);rintro e w' ⟨rfl,⟨nd,rfl⟩⟩;refine ⟨_,rfl,?_⟩))
 go_ret
 exact ⟨by first | rfl | (simp;done) | (simp [*];done),by repeat (first | exact Drawn0.refl _ | apply Drawn0.step)⟩
def beaconref02_CheckId.f (a0:Int):Option (Int):=if a0 < 1 then (some 20) else (if a0 > 2147483647 then (some 20) else (some 0))
set_option maxHeartbeats 8000000 in
set_option maxRecDepth 100000 in
theorem beaconref02_CheckId.calls (a0:Int) (r:Int) (w:World) (h:beaconref02_CheckId.f a0 = some r) :
  Calls Try.prog 39 #[.int .i64 a0] w fun e w' => e = .returned (.int .i64 r) ∧ Drawn0 w w':=by
 have H:(if a0 < 1 then (some 20) else (if a0 > 2147483647 then (some 20) else (some 0))) = some r:=h
 clear h
 by_cases c2:a0 < 1
 ·rw [if_pos c2] at H
  have c2b0:decide (a0 < 1) = true:=decide_eq_true c2
  clear c2
  obtain rfl:=Option.some.inj H
  go_enter Try.func39,Try.ntmps39
  go_wp2
  go_ret
  exact ⟨by first | rfl | (simp;done) | (simp [*];done),by repeat (first | exact Drawn0.refl _ | apply Drawn0.step)⟩
 rw [if_neg c2] at H
 have c2b0:decide (a0 < 1) = false:=decide_eq_false c2
 clear c2
 by_cases c3:a0 > 2147483647
 ·rw [if_pos c3] at H
  have c3b0:decide (2147483647 < a0) = true:=decide_eq_true c3
  clear c3
  obtain rfl:=Option.some.inj H
  go_enter Try.func39,Try.ntmps39
  go_wp2
  go_ret
  exact ⟨by first | rfl | (simp;done) | (simp [*];done),by repeat (first | exact Drawn0.refl _ | apply Drawn0.step)⟩
 rw [if_neg c3] at H
 have c3b0:decide (2147483647 < a0) = false:=decide_eq_false c3
 clear c3
 obtain rfl:=Option.some.inj H
 go_enter Try.func39,Try.ntmps39
 go_wp2
 go_ret
 exact ⟨by first | rfl | (simp;done) | (simp [*];done),by repeat (first | exact Drawn0.refl _ | apply Drawn0.step)⟩
def beaconref07_Place.l0:Nat → Int → Int → List (S40) → List (S74) → Option (Int)
 | 0,_,_,_,_ => none
 | k + 1,x1,x5,x148000,x148001 => if x5 < (x148000.length:Int) then (if 0 ≤ x5 then (if ((rd_T40 x148000 x5).f0) = x1 then (some x5) else (beaconref07_Place.l0 k x1 (wrap64 (x5 + 1)) x148000 x148001)) else (none)) else (some (-1))
def beaconref07_Place.f (k:Nat) (l0_0:List (S40)) (l0_1:List (S74)) (a1:Int):Option (Int):=beaconref07_Place.l0 k a1 0 l0_0 l0_1
theorem beaconref07_Place.mono_l:∀ k,(∀ y0 y1 y2 y3,LeO (beaconref07_Place.l0 k y0 y1 y2 y3) (beaconref07_Place.l0 (k + 1) y0 y1 y2 y3))
 | 0 => fun _ _ _ _ r h => by simp [beaconref07_Place.l0] at h
 | k + 1 => by
  have ih0:=beaconref07_Place.mono_l k
  intro y0 y1 y2 y3
  unfold beaconref07_Place.l0
  repeat' first
  | (with_reducible exact ih0 _ _ _ _)
  | (with_reducible exact LeO.refl _)
  | (with_reducible exact LeO.none _)
  | (with_reducible refine LeO.ite ?_ ?_)
  | (with_reducible refine LeO.bind ?_ (fun _ => ?_))
  | exact ih0 _ _ _ _
  | exact LeO.none _
  | refine LeO.ite ?_ ?_
  | refine LeO.bind ?_ (fun _ => ?_)
theorem beaconref07_Place.mono:∀ a0 a1 a2 k,LeO (beaconref07_Place.f k a0 a1 a2) (beaconref07_Place.f (k + 1) a0 a1 a2):=by
 intro a0 a1 a2 k
 have ih0:=beaconref07_Place.mono_l k
 unfold beaconref07_Place.f
 repeat' first
   | (with_reducible exact ih0 _ _ _ _)
   | (with_reducible exact LeO.refl _)
   | (with_reducible exact LeO.none _)
   | (with_reducible refine LeO.ite ?_ ?_)
   | (with_reducible refine LeO.bind ?_ (fun _ => ?_))
   | exact ih0 _ _ _ _
   | exact LeO.none _
   | refine LeO.ite ?_ ?_
   | refine LeO.bind ?_ (fun _ => ?_)
set_option maxHeartbeats 8000000 in
set_option maxRecDepth 100000 in
theorem beaconref07_Place.calls (k:Nat) (A0_0:Option Addr) (c0_0:Nat) (l0_0:List (S40)) (A0_1:Option Addr) (c0_1:Nat) (l0_1:List (S74)) (a1:Int) (r:Int) (w:World) (hr0_0:Kd.C k40 w A0_0 l0_0.length l0_0) (hc0_0:l0_0.length ≤ c0_0) (hr0_1:Kd.C k74 w A0_1 l0_1.length l0_1) (hc0_1:l0_1.length ≤ c0_1) (h:beaconref07_Place.f k l0_0 l0_1 a1 = some r) :
  Calls Try.prog 40 #[.agg #[.slice A0_0 l0_0.length c0_0,.slice A0_1 l0_1.length c0_1],.int .i64 a1] w fun e w' => e = .returned (.int .i64 r) ∧ Below w.heap.size w w':=by
 have hu25:=Try.underlying25
 have HR0_0:=Aside0.mk hr0_0
 have HC0_0:=Aside0.mk hc0_0
 clear hr0_0 hc0_0
 have HR0_1:=Aside0.mk hr0_1
 have HC0_1:=Aside0.mk hc0_1
 clear hr0_1 hc0_1
 have HB:=Aside0.mk (Below.refl w.heap.size w)
 have H:(beaconref07_Place.l0 k a1 0 l0_0 l0_1) = some r:=h
 clear h
 have H':=Aside0.mk H
 clear H
 go_enter Try.func40,Try.ntmps40
 go_wp2_with (first | ((with_reducible refine gate_dst (N:=2) rfl ?_);refine box_event ?hg (N:=2) ?hd (cs:=#[.slice A0_0 l0_0.length c0_0,.slice A0_1 l0_1.length c0_1]) (t:=25) ?hr ?_;(case hd => rfl);(case hg => rfl);(case hr => first | (go_simp;done) | (go_simp;rfl));intro gb147 hg w3 hbox hb;have n0_:=Aside0.mk (below_step (by repeat (first | (with_reducible first | exact HB.out | apply below_alloc | apply pw_below_drewN | apply below_drew1) | exact HB.out)) hb);have n1_:=Aside0.mk (hbox);have n2_:=Aside0.mk ((by rw [hg];exact (below_size (by repeat (first | (with_reducible first | exact HB.out | apply below_alloc | apply pw_below_drewN | apply below_drew1) | exact HB.out))):w.heap.size ≤ gb147));have n3_:=Aside0.mk ((by rw [hg];exact (below_size (by repeat (first | (with_reducible first | exact HB.out | apply below_alloc | apply pw_below_drewN | apply below_drew1) | exact HB.out))):w.heap.size ≤ gb147));clear HB;have HB:=n0_;have BK147:=n1_;have GW147:=n2_;have GE147:=n3_;clear n0_ n1_ n2_ n3_;clear hb hbox hg))
 go_loopg [5] k (fun kq v5 w' => ∃ (x5_1:Int),v5 = .int .i64 x5_1 ∧ Aside0 (beaconref07_Place.l0 kq a1 x5_1 l0_0 l0_1 = some r) ∧ Aside0 (kq ≤ k) ∧ Aside0 (w'.heap[gb147]? = some (.cells #[(.slice A0_0 l0_0.length c0_0),(.slice A0_1 l0_1.length c0_1)] 25 (0,0))) ∧ Aside0 (Below w.heap.size w w'))
 case atStart => exact ⟨(0),(by first | rfl | (simp;done) | (simp [*];done)),H',⟨Nat.le_refl _⟩,⟨by (with_reducible repeat (first | refine blk_drewN ?_ _ | refine blk_drew ?_ | refine blk_alloc ?_ _));exact BK147.out⟩,⟨by repeat (first | (with_reducible first | exact HB.out | apply below_alloc | apply pw_below_drewN | apply below_drew1 | refine below_set ?_ GE147.out) | exact HB.out)⟩⟩
 case round =>
  clear H'
  obtain ⟨x5_1,rfl,HA,HK1,BK147,HB⟩:=hrel
  cases gk with
  | zero => exact absurd HA.out (by simp [beaconref07_Place.l0])
  | succ k1 =>
   have H:=HA.out
   clear HA
   simp only [beaconref07_Place.l0] at H
   by_cases c4:x5_1 < (l0_0.length:Int)
   rotate_left
   ·rw [if_neg c4] at H
    have c4b0:decide (x5_1 < (l0_0.length:Int)) = false:=decide_eq_false c4
    clear c4
    obtain rfl:=Option.some.inj H
    have hcz9_0:wr.cell? ⟨gb147,0,none⟩ = some (.slice A0_0 l0_0.length c0_0):=(blk_cell BK147.out 0).trans rfl
    have hcz9_1:wr.cell? ⟨gb147,1,none⟩ = some (.slice A0_1 l0_1.length c0_1):=(blk_cell BK147.out 1).trans rfl
    have hfz9_0:=blk_frozen BK147.out 0
    have hfz9_1:=blk_frozen BK147.out 1
    go_wp2
    go_ret
    exact ⟨by first | rfl | (simp [errW_none,errW_some] <;> rfl) | (simp [*,errW_none,errW_some] <;> rfl),by repeat (first | (with_reducible first | exact HB.out | apply below_alloc | apply pw_below_drewN | apply below_drew1 | refine below_set ?_ GE147.out) | exact HB.out)⟩
   rw [if_pos c4] at H
   have c4b0:decide (x5_1 < (l0_0.length:Int)) = true:=decide_eq_true c4
   clear c4
   by_cases c5:0 ≤ x5_1
   rotate_left
   ·rw [if_neg c5] at H
    exact absurd H (by simp)
   rw [if_pos c5] at H
   have c5b0:decide (0 ≤ x5_1) = true:=decide_eq_true c5
   clear c5
   by_cases c6:((rd_T40 l0_0 x5_1).f0) = a1
   ·rw [if_pos c6] at H
    have c6b0:(((rd_T40 l0_0 x5_1).f0) == a1) = true:=beq_iff_eq.mpr c6
    have c6b1:(((rd_T40 l0_0 x5_1).f0) != a1) = false:=bne_eq_false_iff_eq.mpr c6
    clear c6
    obtain rfl:=Option.some.inj H
    have hcz7_0:wr.cell? ⟨gb147,0,none⟩ = some (.slice A0_0 l0_0.length c0_0):=(blk_cell BK147.out 0).trans rfl
    have hcz7_1:wr.cell? ⟨gb147,1,none⟩ = some (.slice A0_1 l0_1.length c0_1):=(blk_cell BK147.out 1).trans rfl
    have hfz7_0:=blk_frozen BK147.out 0
    have hfz7_1:=blk_frozen BK147.out 1
    have p148:0 ≤ (x5_1:Int):=of_decide_eq_true (by first | (with_reducible assumption) | assumption)
    have q148:x5_1 < (l0_0.length:Int):=of_decide_eq_true (by first | (with_reducible assumption) | assumption)
    obtain ⟨ad148,e148,hx148_0,hx148_1,hx148_2⟩:=at_T40 HR0_0.out x5_1 p148 q148
    cases e148
    replace hx148_0:=(HB.out.cell (World.block_lt_of_cell? w _ hx148_0)).trans hx148_0
    replace hx148_1:=(HB.out.cell (World.block_lt_of_cell? w _ hx148_1)).trans hx148_1
    replace hx148_2:=(HB.out.cell (World.block_lt_of_cell? w _ hx148_2)).trans hx148_2
    replace p148:=eq_true p148
    replace q148:=eq_true q148
    go_wp2
    go_ret
    exact ⟨by first | rfl | (simp [errW_none,errW_some] <;> rfl) | (simp [*,errW_none,errW_some] <;> rfl),by repeat (first | (with_reducible first | exact HB.out | apply below_alloc | apply pw_below_drewN | apply below_drew1 | refine below_set ?_ GE147.out) | exact HB.out)⟩
   rw [if_neg c6] at H
   have c6b0:(((rd_T40 l0_0 x5_1).f0) == a1) = false:=beq_eq_false_iff_ne.mpr c6
   have c6b1:(((rd_T40 l0_0 x5_1).f0) != a1) = true:=bne_iff_ne.mpr c6
   have H':=Aside0.mk H
   clear H
   have hcz8_0:wr.cell? ⟨gb147,0,none⟩ = some (.slice A0_0 l0_0.length c0_0):=(blk_cell BK147.out 0).trans rfl
   have hcz8_1:wr.cell? ⟨gb147,1,none⟩ = some (.slice A0_1 l0_1.length c0_1):=(blk_cell BK147.out 1).trans rfl
   have hfz8_0:=blk_frozen BK147.out 0
   have hfz8_1:=blk_frozen BK147.out 1
   have p148:0 ≤ (x5_1:Int):=of_decide_eq_true (by first | (with_reducible assumption) | assumption)
   have q148:x5_1 < (l0_0.length:Int):=of_decide_eq_true (by first | (with_reducible assumption) | assumption)
   obtain ⟨ad148,e148,hx148_0,hx148_1,hx148_2⟩:=at_T40 HR0_0.out x5_1 p148 q148
   cases e148
   replace hx148_0:=(HB.out.cell (World.block_lt_of_cell? w _ hx148_0)).trans hx148_0
   replace hx148_1:=(HB.out.cell (World.block_lt_of_cell? w _ hx148_1)).trans hx148_1
   replace hx148_2:=(HB.out.cell (World.block_lt_of_cell? w _ hx148_2)).trans hx148_2
   replace p148:=eq_true p148
   replace q148:=eq_true q148
   go_wp2
   go_roundg k1
   case measure => have:=HK1.out;omega
   case rel => exact ⟨(wrap64 (x5_1 + 1)),(by first | rfl | (simp;done) | (simp [*];done)),H',⟨by have:=HK1.out;omega⟩,⟨by (with_reducible repeat (first | refine blk_drewN ?_ _ | refine blk_drew ?_ | refine blk_alloc ?_ _));exact BK147.out⟩,⟨by repeat (first | (with_reducible first | exact HB.out | apply below_alloc | apply pw_below_drewN | apply below_drew1 | refine below_set ?_ GE147.out) | exact HB.out)⟩⟩
def beaconref01_nan.f (a0:Nat):Option (Bool):=some (FloatKind.f64.format.order a0 a0 != some .eq)
set_option maxHeartbeats 8000000 in
set_option maxRecDepth 100000 in
theorem beaconref01_nan.calls (a0:Nat) (r:Bool) (w:World) (h:beaconref01_nan.f a0 = some r) :
  Calls Try.prog 62 #[.float .f64 a0] w fun e w' => e = .returned (.bool r) ∧ Drawn0 w w':=by
 have H:(some (FloatKind.f64.format.order a0 a0 != some .eq)) = some r:=h
 clear h
 obtain rfl:=Option.some.inj H
 go_enter Try.func62,Try.ntmps62
 go_wp2
 go_ret
 exact ⟨by first | rfl | (simp;done) | (simp [*];done),by repeat (first | exact Drawn0.refl _ | apply Drawn0.step)⟩
def beaconref01_inf.f (a0:Nat):Option (Bool):=if (FloatKind.f64.format.order a0 9218868437227405311 == some .gt) = true then (some true) else (some (FloatKind.f64.format.order a0 18442240474082181119 == some .lt))
set_option maxHeartbeats 8000000 in
set_option maxRecDepth 100000 in
theorem beaconref01_inf.calls (a0:Nat) (r:Bool) (w:World) (h:beaconref01_inf.f a0 = some r) :
  Calls Try.prog 64 #[.float .f64 a0] w fun e w' => e = .returned (.bool r) ∧ Drawn0 w w':=by
 have H:(if (FloatKind.f64.format.order a0 9218868437227405311 == some .gt) = true then (some true) else (some (FloatKind.f64.format.order a0 18442240474082181119 == some .lt))) = some r:=h
 clear h
 by_cases c2:(FloatKind.f64.format.order a0 9218868437227405311 == some .gt) = true
 ·rw [if_pos c2] at H
  have c2b0:(FloatKind.f64.format.order a0 9218868437227405311 == some .gt) = true:=c2
  (try (have c2b1:decide (FloatKind.f64.format.order a0 9218868437227405311 = some .gt) = true:=by simpa using c2))
  (try (have c2b2:(FloatKind.f64.format.order a0 9218868437227405311 == some .gt) = true:=by simpa using c2))
  clear c2
  obtain rfl:=Option.some.inj H
  go_enter Try.func64,Try.ntmps64
  go_wp2
  go_ret
  exact ⟨by first | rfl | (simp;done) | (simp [*];done),by repeat (first | exact Drawn0.refl _ | apply Drawn0.step)⟩
 rw [if_neg c2] at H
 have c2b0:(FloatKind.f64.format.order a0 9218868437227405311 == some .gt) = false:=by simpa using c2
 (try (have c2b1:decide (FloatKind.f64.format.order a0 9218868437227405311 = some .gt) = false:=by simpa using c2))
 (try (have c2b2:(FloatKind.f64.format.order a0 9218868437227405311 == some .gt) = false:=by simpa using c2))
 (try (have c2b3:¬ (FloatKind.f64.format.order a0 9218868437227405311 = some .gt):=by simpa using c2))
 clear c2
 obtain rfl:=Option.some.inj H
 go_enter Try.func64,Try.ntmps64
 go_wp2
 go_ret
 exact ⟨by first | rfl | (simp;done) | (simp [*];done),by repeat (first | exact Drawn0.refl _ | apply Drawn0.step)⟩
def beaconref01_sign.f (a0:Nat):Option (Bool):=some (((a0:Int) / 9223372036854775808) == 1)
set_option maxHeartbeats 8000000 in
set_option maxRecDepth 100000 in
theorem beaconref01_sign.calls (a0:Nat) (r:Bool) (w:World) (h:beaconref01_sign.f a0 = some r) :
  Calls Try.prog 65 #[.float .f64 a0] w fun e w' => e = .returned (.bool r) ∧ Drawn0 w w':=by
 have hX23:=run_Float64bits Try.func23 (by kernel_rfl) (by kernel_rfl) (by kernel_rfl) (by kernel_rfl)
 have H:(some (((a0:Int) / 9223372036854775808) == 1)) = some r:=h
 clear h
 obtain rfl:=Option.some.inj H
 go_enter Try.func65,Try.ntmps65
 go_wp2
 go_ret
 exact ⟨by first | rfl | (simp;done) | (simp [*];done),by repeat (first | exact Drawn0.refl _ | apply Drawn0.step)⟩
def beaconref01_quarter.f (a0:Nat):Option (Bool):=(floatBits .mul .f64 a0 4616189618054758400).bind fun t149 => ((math_Trunc.f t149).bind fun t150 => (some (FloatKind.f64.format.order t150 t149 == some .eq)))
set_option maxHeartbeats 8000000 in
set_option maxRecDepth 100000 in
theorem beaconref01_quarter.calls (a0:Nat) (r:Bool) (w:World) (h:beaconref01_quarter.f a0 = some r) :
  Calls Try.prog 66 #[.float .f64 a0] w fun e w' => e = .returned (.bool r) ∧ Drawn0 w w':=by
 have H:((floatBits .mul .f64 a0 4616189618054758400).bind fun t149 => ((math_Trunc.f t149).bind fun t150 => (some (FloatKind.f64.format.order t150 t149 == some .eq)))) = some r:=h
 clear h
 replace H:=Option.bind_eq_some_iff.mp H
 obtain ⟨t149,A20,H⟩:=H
 replace H:((math_Trunc.f t149).bind fun t150 => (some (FloatKind.f64.format.order t150 t149 == some .eq))) = some r:=H
 have A2f:∀ W_:World,(binOp .mul 26 (.float .f64 a0) (.float .f64 4616189618054758400)).run Try.prog W_ = .ok (.float .f64 t149) W_:=fun W_ => run_float_arith W_ .mul 26 .f64 _ _ _ A20
 have A2:=Aside0.mk A20
 clear A20
 replace H:=Option.bind_eq_some_iff.mp H
 obtain ⟨t150,A30,H⟩:=H
 replace H:(some (FloatKind.f64.format.order t150 t149 == some .eq)) = some r:=H
 have A3:=Aside0.mk A30
 clear A30
 obtain rfl:=Option.some.inj H
 go_enter Try.func66,Try.ntmps66
 go_wp2_with (first | ((with_reducible refine gate_callee (f:=84) rfl ?_);refine goesL_ (some 5) rfl rfl Try.func84 (by kernel_rfl) rfl #[.float .f64 t149] rfl (by (try simp only [List.map_toArray,List.map_cons,List.map_nil]);first | done | rfl | (simp only [List.length_drop,List.length_take];rfl)) ?_;(with_reducible refine (math_Trunc.calls t149 t150 _ A3.out).mono ?_);rintro e w' ⟨rfl,⟨nd,rfl⟩⟩;refine ⟨_,rfl,?_⟩))
 go_ret
 exact ⟨by first | rfl | (simp;done) | (simp [*];done),by repeat (first | exact Drawn0.refl _ | apply Drawn0.step)⟩
def beaconref01_bounded.f (a0:Nat) (a1:Nat):Option (Int):=(beaconref01_nan.f a0).bind fun t151 => (if t151 = true then (some 10) else ((beaconref01_inf.f a0).bind fun t152 => (if t152 = true then (some 11) else ((beaconref01_sign.f a0).bind fun t153 => (if t153 = true then (some 12) else (if (FloatKind.f64.format.order a0 4607182418800017408 == some .lt) = true then (some 13) else (if (FloatKind.f64.format.order a0 a1 == some .gt) = true then (some 14) else ((beaconref01_quarter.f a0).bind fun t154 => (if t154 = true then (some 0) else (some 15))))))))))
set_option maxHeartbeats 8000000 in
set_option maxRecDepth 100000 in
theorem beaconref01_bounded.calls (a0:Nat) (a1:Nat) (r:Int) (w:World) (h:beaconref01_bounded.f a0 a1 = some r) :
  Calls Try.prog 55 #[.float .f64 a0,.float .f64 a1] w fun e w' => e = .returned (.int .i64 r) ∧ Drawn0 w w':=by
 have H:((beaconref01_nan.f a0).bind fun t151 => (if t151 = true then (some 10) else ((beaconref01_inf.f a0).bind fun t152 => (if t152 = true then (some 11) else ((beaconref01_sign.f a0).bind fun t153 => (if t153 = true then (some 12) else (if (FloatKind.f64.format.order a0 4607182418800017408 == some .lt) = true then (some 13) else (if (FloatKind.f64.format.order a0 a1 == some .gt) = true then (some 14) else ((beaconref01_quarter.f a0).bind fun t154 => (if t154 = true then (some 0) else (some 15))))))))))) = some r:=h
 clear h
 replace H:=Option.bind_eq_some_iff.mp H
 obtain ⟨t151,A30,H⟩:=H
 replace H:(if t151 = true then (some 10) else ((beaconref01_inf.f a0).bind fun t152 => (if t152 = true then (some 11) else ((beaconref01_sign.f a0).bind fun t153 => (if t153 = true then (some 12) else (if (FloatKind.f64.format.order a0 4607182418800017408 == some .lt) = true then (some 13) else (if (FloatKind.f64.format.order a0 a1 == some .gt) = true then (some 14) else ((beaconref01_quarter.f a0).bind fun t154 => (if t154 = true then (some 0) else (some 15)))))))))) = some r:=H
 have A3:=Aside0.mk A30
 clear A30
 by_cases c4:t151 = true
 ·subst c4
  have H1:(some 10) = some r:=by rw [if_pos rfl] at H;exact H
  clear H
  have H:=H1
  clear H1
  obtain rfl:=Option.some.inj H
  go_enter Try.func55,Try.ntmps55
  go_wp2_with (first | ((with_reducible refine gate_callee (f:=62) rfl ?_);refine goesL_ (some 6) rfl rfl Try.func62 (by kernel_rfl) rfl #[.float .f64 a0] rfl (by (try simp only [List.map_toArray,List.map_cons,List.map_nil]);first | done | rfl | (simp only [List.length_drop,List.length_take];rfl)) ?_;(with_reducible refine (beaconref01_nan.calls a0 true _ A3.out).mono ?_);rintro e w' ⟨rfl,⟨nd,rfl⟩⟩;refine ⟨_,rfl,?_⟩))
  go_ret
  exact ⟨by first | rfl | (simp;done) | (simp [*];done),by repeat (first | exact Drawn0.refl _ | apply Drawn0.step)⟩
 replace c4:=Bool.eq_false_iff.mpr c4
 subst c4
 have H1:((beaconref01_inf.f a0).bind fun t152 => (if t152 = true then (some 11) else ((beaconref01_sign.f a0).bind fun t153 => (if t153 = true then (some 12) else (if (FloatKind.f64.format.order a0 4607182418800017408 == some .lt) = true then (some 13) else (if (FloatKind.f64.format.order a0 a1 == some .gt) = true then (some 14) else ((beaconref01_quarter.f a0).bind fun t154 => (if t154 = true then (some 0) else (some 15))))))))) = some r:=by rw [if_neg (show ¬ (false = true) by decide)] at H;exact H
 clear H
 have H:=H1
 clear H1
 replace H:=Option.bind_eq_some_iff.mp H
 obtain ⟨t152,A50,H⟩:=H
 replace H:(if t152 = true then (some 11) else ((beaconref01_sign.f a0).bind fun t153 => (if t153 = true then (some 12) else (if (FloatKind.f64.format.order a0 4607182418800017408 == some .lt) = true then (some 13) else (if (FloatKind.f64.format.order a0 a1 == some .gt) = true then (some 14) else ((beaconref01_quarter.f a0).bind fun t154 => (if t154 = true then (some 0) else (some 15)))))))) = some r:=H
 have A5:=Aside0.mk A50
 clear A50
 by_cases c6:t152 = true
 ·subst c6
  have H1:(some 11) = some r:=by rw [if_pos rfl] at H;exact H
  clear H
  have H:=H1
  clear H1
  obtain rfl:=Option.some.inj H
  go_enter Try.func55,Try.ntmps55
  go_wp2_with (first | ((with_reducible refine gate_callee (f:=62) rfl ?_);refine goesL_ (some 6) rfl rfl Try.func62 (by kernel_rfl) rfl #[.float .f64 a0] rfl (by (try simp only [List.map_toArray,List.map_cons,List.map_nil]);first | done | rfl | (simp only [List.length_drop,List.length_take];rfl)) ?_;(with_reducible refine (beaconref01_nan.calls a0 false _ A3.out).mono ?_);rintro e w' ⟨rfl,⟨nd,rfl⟩⟩;refine ⟨_,rfl,?_⟩) | ((with_reducible refine gate_callee (f:=64) rfl ?_);refine goesL_ (some 8) rfl rfl Try.func64 (by kernel_rfl) rfl #[.float .f64 a0] rfl (by (try simp only [List.map_toArray,List.map_cons,List.map_nil]);first | done | rfl | (simp only [List.length_drop,List.length_take];rfl)) ?_;(with_reducible refine (beaconref01_inf.calls a0 true _ A5.out).mono ?_);rintro e w' ⟨rfl,⟨nd,rfl⟩⟩;refine ⟨_,rfl,?_⟩))
  go_ret
  exact ⟨by first | rfl | (simp;done) | (simp [*];done),by repeat (first | exact Drawn0.refl _ | apply Drawn0.step)⟩
 replace c6:=Bool.eq_false_iff.mpr c6
 subst c6
 have H1:((beaconref01_sign.f a0).bind fun t153 => (if t153 = true then (some 12) else (if (FloatKind.f64.format.order a0 4607182418800017408 == some .lt) = true then (some 13) else (if (FloatKind.f64.format.order a0 a1 == some .gt) = true then (some 14) else ((beaconref01_quarter.f a0).bind fun t154 => (if t154 = true then (some 0) else (some 15))))))) = some r:=by rw [if_neg (show ¬ (false = true) by decide)] at H;exact H
 clear H
 have H:=H1
 clear H1
 replace H:=Option.bind_eq_some_iff.mp H
 obtain ⟨t153,A70,H⟩:=H
 replace H:(if t153 = true then (some 12) else (if (FloatKind.f64.format.order a0 4607182418800017408 == some .lt) = true then (some 13) else (if (FloatKind.f64.format.order a0 a1 == some .gt) = true then (some 14) else ((beaconref01_quarter.f a0).bind fun t154 => (if t154 = true then (some 0) else (some 15)))))) = some r:=H
 have A7:=Aside0.mk A70
 clear A70
 by_cases c8:t153 = true
 ·subst c8
  have H1:(some 12) = some r:=by rw [if_pos rfl] at H;exact H
  clear H
  have H:=H1
  clear H1
  obtain rfl:=Option.some.inj H
  go_enter Try.func55,Try.ntmps55
  go_wp2_with (first | ((with_reducible refine gate_callee (f:=62) rfl ?_);refine goesL_ (some 6) rfl rfl Try.func62 (by kernel_rfl) rfl #[.float .f64 a0] rfl (by (try simp only [List.map_toArray,List.map_cons,List.map_nil]);first | done | rfl | (simp only [List.length_drop,List.length_take];rfl)) ?_;(with_reducible refine (beaconref01_nan.calls a0 false _ A3.out).mono ?_);rintro e w' ⟨rfl,⟨nd,rfl⟩⟩;refine ⟨_,rfl,?_⟩) | ((with_reducible refine gate_callee (f:=64) rfl ?_);refine goesL_ (some 8) rfl rfl Try.func64 (by kernel_rfl) rfl #[.float .f64 a0] rfl (by (try simp only [List.map_toArray,List.map_cons,List.map_nil]);first | done | rfl | (simp only [List.length_drop,List.length_take];rfl)) ?_;(with_reducible refine (beaconref01_inf.calls a0 false _ A5.out).mono ?_);rintro e w' ⟨rfl,⟨nd,rfl⟩⟩;refine ⟨_,rfl,?_⟩) | ((with_reducible refine gate_callee (f:=65) rfl ?_);refine goesL_ (some 10) rfl rfl Try.func65 (by kernel_rfl) rfl #[.float .f64 a0] rfl (by (try simp only [List.map_toArray,List.map_cons,List.map_nil]);first | done | rfl | (simp only [List.length_drop,List.length_take];rfl)) ?_;(with_reducible refine (beaconref01_sign.calls a0 true _ A7.out).mono ?_);rintro e w' ⟨rfl,⟨nd,rfl⟩⟩;refine ⟨_,rfl,?_⟩))
  go_ret
  exact ⟨by first | rfl | (simp;done) | (simp [*];done),by repeat (first | exact Drawn0.refl _ | apply Drawn0.step)⟩
 replace c8:=Bool.eq_false_iff.mpr c8
 subst c8
 have H1:(if (FloatKind.f64.format.order a0 4607182418800017408 == some .lt) = true then (some 13) else (if (FloatKind.f64.format.order a0 a1 == some .gt) = true then (some 14) else ((beaconref01_quarter.f a0).bind fun t154 => (if t154 = true then (some 0) else (some 15))))) = some r:=by rw [if_neg (show ¬ (false = true) by decide)] at H;exact H
 clear H
 have H:=H1
 clear H1
 by_cases c9:(FloatKind.f64.format.order a0 4607182418800017408 == some .lt) = true
 ·rw [if_pos c9] at H
  have c9b0:(FloatKind.f64.format.order a0 4607182418800017408 == some .lt) = true:=c9
  (try (have c9b1:decide (FloatKind.f64.format.order a0 4607182418800017408 = some .lt) = true:=by simpa using c9))
  (try (have c9b2:(FloatKind.f64.format.order a0 4607182418800017408 == some .lt) = true:=by simpa using c9))
  clear c9
  obtain rfl:=Option.some.inj H
  go_enter Try.func55,Try.ntmps55
  go_wp2_with (first | ((with_reducible refine gate_callee (f:=62) rfl ?_);refine goesL_ (some 6) rfl rfl Try.func62 (by kernel_rfl) rfl #[.float .f64 a0] rfl (by (try simp only [List.map_toArray,List.map_cons,List.map_nil]);first | done | rfl | (simp only [List.length_drop,List.length_take];rfl)) ?_;(with_reducible refine (beaconref01_nan.calls a0 false _ A3.out).mono ?_);rintro e w' ⟨rfl,⟨nd,rfl⟩⟩;refine ⟨_,rfl,?_⟩) | ((with_reducible refine gate_callee (f:=64) rfl ?_);refine goesL_ (some 8) rfl rfl Try.func64 (by kernel_rfl) rfl #[.float .f64 a0] rfl (by (try simp only [List.map_toArray,List.map_cons,List.map_nil]);first | done | rfl | (simp only [List.length_drop,List.length_take];rfl)) ?_;(with_reducible refine (beaconref01_inf.calls a0 false _ A5.out).mono ?_);rintro e w' ⟨rfl,⟨nd,rfl⟩⟩;refine ⟨_,rfl,?_⟩) | ((with_reducible refine gate_callee (f:=65) rfl ?_);refine goesL_ (some 10) rfl rfl Try.func65 (by kernel_rfl) rfl #[.float .f64 a0] rfl (by (try simp only [List.map_toArray,List.map_cons,List.map_nil]);first | done | rfl | (simp only [List.length_drop,List.length_take];rfl)) ?_;(with_reducible refine (beaconref01_sign.calls a0 false _ A7.out).mono ?_);rintro e w' ⟨rfl,⟨nd,rfl⟩⟩;refine ⟨_,rfl,?_⟩))
  go_ret
  exact ⟨by first | rfl | (simp;done) | (simp [*];done),by repeat (first | exact Drawn0.refl _ | apply Drawn0.step)⟩
 rw [if_neg c9] at H
 have c9b0:(FloatKind.f64.format.order a0 4607182418800017408 == some .lt) = false:=by simpa using c9
 (try (have c9b1:decide (FloatKind.f64.format.order a0 4607182418800017408 = some .lt) = false:=by simpa using c9))
 (try (have c9b2:(FloatKind.f64.format.order a0 4607182418800017408 == some .lt) = false:=by simpa using c9))
 (try (have c9b3:¬ (FloatKind.f64.format.order a0 4607182418800017408 = some .lt):=by simpa using c9))
 clear c9
 by_cases c10:(FloatKind.f64.format.order a0 a1 == some .gt) = true
 ·rw [if_pos c10] at H
  have c10b0:(FloatKind.f64.format.order a0 a1 == some .gt) = true:=c10
  (try (have c10b1:decide (FloatKind.f64.format.order a0 a1 = some .gt) = true:=by simpa using c10))
  (try (have c10b2:(FloatKind.f64.format.order a0 a1 == some .gt) = true:=by simpa using c10))
  clear c10
  obtain rfl:=Option.some.inj H
  go_enter Try.func55,Try.ntmps55
  go_wp2_with (first | ((with_reducible refine gate_callee (f:=62) rfl ?_);refine goesL_ (some 6) rfl rfl Try.func62 (by kernel_rfl) rfl #[.float .f64 a0] rfl (by (try simp only [List.map_toArray,List.map_cons,List.map_nil]);first | done | rfl | (simp only [List.length_drop,List.length_take];rfl)) ?_;(with_reducible refine (beaconref01_nan.calls a0 false _ A3.out).mono ?_);rintro e w' ⟨rfl,⟨nd,rfl⟩⟩;refine ⟨_,rfl,?_⟩) | ((with_reducible refine gate_callee (f:=64) rfl ?_);refine goesL_ (some 8) rfl rfl Try.func64 (by kernel_rfl) rfl #[.float .f64 a0] rfl (by (try simp only [List.map_toArray,List.map_cons,List.map_nil]);first | done | rfl | (simp only [List.length_drop,List.length_take];rfl)) ?_;(with_reducible refine (beaconref01_inf.calls a0 false _ A5.out).mono ?_);rintro e w' ⟨rfl,⟨nd,rfl⟩⟩;refine ⟨_,rfl,?_⟩) | ((with_reducible refine gate_callee (f:=65) rfl ?_);refine goesL_ (some 10) rfl rfl Try.func65 (by kernel_rfl) rfl #[.float .f64 a0] rfl (by (try simp only [List.map_toArray,List.map_cons,List.map_nil]);first | done | rfl | (simp only [List.length_drop,List.length_take];rfl)) ?_;(with_reducible refine (beaconref01_sign.calls a0 false _ A7.out).mono ?_);rintro e w' ⟨rfl,⟨nd,rfl⟩⟩;refine ⟨_,rfl,?_⟩))
  go_ret
  exact ⟨by first | rfl | (simp;done) | (simp [*];done),by repeat (first | exact Drawn0.refl _ | apply Drawn0.step)⟩
 rw [if_neg c10] at H
 have c10b0:(FloatKind.f64.format.order a0 a1 == some .gt) = false:=by simpa using c10
 (try (have c10b1:decide (FloatKind.f64.format.order a0 a1 = some .gt) = false:=by simpa using c10))
 (try (have c10b2:(FloatKind.f64.format.order a0 a1 == some .gt) = false:=by simpa using c10))
 (try (have c10b3:¬ (FloatKind.f64.format.order a0 a1 = some .gt):=by simpa using c10))
 clear c10
 replace H:=Option.bind_eq_some_iff.mp H
 obtain ⟨t154,A110,H⟩:=H
 replace H:(if t154 = true then (some 0) else (some 15)) = some r:=H
 have A11:=Aside0.mk A110
 clear A110
 by_cases c12:t154 = true
 ·subst c12
  have H1:(some 0) = some r:=by rw [if_pos rfl] at H;exact H
  clear H
  have H:=H1
  clear H1
  obtain rfl:=Option.some.inj H
  go_enter Try.func55,Try.ntmps55
  go_wp2_with (first | ((with_reducible refine gate_callee (f:=62) rfl ?_);refine goesL_ (some 6) rfl rfl Try.func62 (by kernel_rfl) rfl #[.float .f64 a0] rfl (by (try simp only [List.map_toArray,List.map_cons,List.map_nil]);first | done | rfl | (simp only [List.length_drop,List.length_take];rfl)) ?_;(with_reducible refine (beaconref01_nan.calls a0 false _ A3.out).mono ?_);rintro e w' ⟨rfl,⟨nd,rfl⟩⟩;refine ⟨_,rfl,?_⟩) | ((with_reducible refine gate_callee (f:=64) rfl ?_);refine goesL_ (some 8) rfl rfl Try.func64 (by kernel_rfl) rfl #[.float .f64 a0] rfl (by (try simp only [List.map_toArray,List.map_cons,List.map_nil]);first | done | rfl | (simp only [List.length_drop,List.length_take];rfl)) ?_;(with_reducible refine (beaconref01_inf.calls a0 false _ A5.out).mono ?_);rintro e w' ⟨rfl,⟨nd,rfl⟩⟩;refine ⟨_,rfl,?_⟩) | ((with_reducible refine gate_callee (f:=65) rfl ?_);refine goesL_ (some 10) rfl rfl Try.func65 (by kernel_rfl) rfl #[.float .f64 a0] rfl (by (try simp only [List.map_toArray,List.map_cons,List.map_nil]);first | done | rfl | (simp only [List.length_drop,List.length_take];rfl)) ?_;(with_reducible refine (beaconref01_sign.calls a0 false _ A7.out).mono ?_);rintro e w' ⟨rfl,⟨nd,rfl⟩⟩;refine ⟨_,rfl,?_⟩) | ((with_reducible refine gate_callee (f:=66) rfl ?_);refine goesL_ (some 17) rfl rfl Try.func66 (by kernel_rfl) rfl #[.float .f64 a0] rfl (by (try simp only [List.map_toArray,List.map_cons,List.map_nil]);first | done | rfl | (simp only [List.length_drop,List.length_take];rfl)) ?_;(with_reducible refine (beaconref01_quarter.calls a0 true _ A11.out).mono ?_);rintro e w' ⟨rfl,⟨nd,rfl⟩⟩;refine ⟨_,rfl,?_⟩))
  go_ret
  exact ⟨by first | rfl | (simp;done) | (simp [*];done),by repeat (first | exact Drawn0.refl _ | apply Drawn0.step)⟩
 replace c12:=Bool.eq_false_iff.mpr c12
 subst c12
 have H1:(some 15) = some r:=by rw [if_neg (show ¬ (false = true) by decide)] at H;exact H
 clear H
 have H:=H1
 clear H1
 obtain rfl:=Option.some.inj H
 go_enter Try.func55,Try.ntmps55
 go_wp2_with (first | ((with_reducible refine gate_callee (f:=62) rfl ?_);refine goesL_ (some 6) rfl rfl Try.func62 (by kernel_rfl) rfl #[.float .f64 a0] rfl (by (try simp only [List.map_toArray,List.map_cons,List.map_nil]);first | done | rfl | (simp only [List.length_drop,List.length_take];rfl)) ?_;(with_reducible refine (beaconref01_nan.calls a0 false _ A3.out).mono ?_);rintro e w' ⟨rfl,⟨nd,rfl⟩⟩;refine ⟨_,rfl,?_⟩) | ((with_reducible refine gate_callee (f:=64) rfl ?_);refine goesL_ (some 8) rfl rfl Try.func64 (by kernel_rfl) rfl #[.float .f64 a0] rfl (by (try simp only [List.map_toArray,List.map_cons,List.map_nil]);first | done | rfl | (simp only [List.length_drop,List.length_take];rfl)) ?_;(with_reducible refine (beaconref01_inf.calls a0 false _ A5.out).mono ?_);rintro e w' ⟨rfl,⟨nd,rfl⟩⟩;refine ⟨_,rfl,?_⟩) | ((with_reducible refine gate_callee (f:=65) rfl ?_);refine goesL_ (some 10) rfl rfl Try.func65 (by kernel_rfl) rfl #[.float .f64 a0] rfl (by (try simp only [List.map_toArray,List.map_cons,List.map_nil]);first | done | rfl | (simp only [List.length_drop,List.length_take];rfl)) ?_;(with_reducible refine (beaconref01_sign.calls a0 false _ A7.out).mono ?_);rintro e w' ⟨rfl,⟨nd,rfl⟩⟩;refine ⟨_,rfl,?_⟩) | ((with_reducible refine gate_callee (f:=66) rfl ?_);refine goesL_ (some 17) rfl rfl Try.func66 (by kernel_rfl) rfl #[.float .f64 a0] rfl (by (try simp only [List.map_toArray,List.map_cons,List.map_nil]);first | done | rfl | (simp only [List.length_drop,List.length_take];rfl)) ?_;(with_reducible refine (beaconref01_quarter.calls a0 false _ A11.out).mono ?_);rintro e w' ⟨rfl,⟨nd,rfl⟩⟩;refine ⟨_,rfl,?_⟩))
 go_ret
 exact ⟨by first | rfl | (simp;done) | (simp [*];done),by repeat (first | exact Drawn0.refl _ | apply Drawn0.step)⟩
def beaconref01_Weight.f (a0:Nat):Option (Int):=(beaconref01_bounded.f a0 4697254411347427328).bind fun t155 => (some t155)
set_option maxHeartbeats 8000000 in
set_option maxRecDepth 100000 in
theorem beaconref01_Weight.calls (a0:Nat) (r:Int) (w:World) (h:beaconref01_Weight.f a0 = some r) :
  Calls Try.prog 41 #[.float .f64 a0] w fun e w' => e = .returned (.int .i64 r) ∧ Drawn0 w w':=by
 have H:((beaconref01_bounded.f a0 4697254411347427328).bind fun t155 => (some t155)) = some r:=h
 clear h
 replace H:=Option.bind_eq_some_iff.mp H
 obtain ⟨t155,A20,H⟩:=H
 replace H:(some t155) = some r:=H
 have A2:=Aside0.mk A20
 clear A20
 obtain rfl:=Option.some.inj H
 go_enter Try.func41,Try.ntmps41
 go_wp2_with (first | ((with_reducible refine gate_callee (f:=55) rfl ?_);refine goesL_ (some 4) rfl rfl Try.func55 (by kernel_rfl) rfl #[.float .f64 a0,.float .f64 4697254411347427328] rfl (by (try simp only [List.map_toArray,List.map_cons,List.map_nil]);first | done | rfl | (simp only [List.length_drop,List.length_take];rfl)) ?_;(with_reducible refine (beaconref01_bounded.calls a0 4697254411347427328 t155 _ A2.out).mono ?_);rintro e w' ⟨rfl,⟨nd,rfl⟩⟩;refine ⟨_,rfl,?_⟩))
 go_ret
 exact ⟨by first | rfl | (simp;done) | (simp [*];done),by repeat (first | exact Drawn0.refl _ | apply Drawn0.step)⟩
end Go.Proofs.Ytmdkcecbklgihaa.PA
