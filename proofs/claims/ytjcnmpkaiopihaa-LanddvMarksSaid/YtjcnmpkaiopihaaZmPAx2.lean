/- Printed by a program of this session (wip/tools/patch_print.py and pr.py, over the kit's print): each Go function as a plain Lean function, and that the Go code comes to just its answers. Conditions: those that each theorem names. -/
import Derived.Test.YtjcnmpkaiopihaaZmPAx0
namespace Go.Proofs.Ytjcnmpkaiopihaa.PA
open Go.RowKit Go.Proofs.YtjcnmpkaiopihaaW.PrintWords Go.Proofs.YtjcnmpkaiopihaaW.PrintLast Go.Proofs.YtjcnmpkaiopihaaW.PrintMore
attribute [local go_sem] max2_int min2_int max_two min_two max_three min_three max_four min_four
set_option linter.unusedVariables false
set_option linter.unusedSimpArgs false
def math_Abs.f (a0:Nat):Option (Nat):=some ((Go.bits .andNot .u64 (a0:Int) 9223372036854775808).toNat)
set_option maxHeartbeats 8000000 in
set_option maxRecDepth 100000 in
theorem math_Abs.calls (a0:Nat) (r:Nat) (w:World) (h:math_Abs.f a0 = some r) :
  Calls Try.prog 86 #[.float .f64 a0] w fun e w' => e = .returned (.float .f64 r) ∧ Drawn0 w w':=by
 have hX39:=run_Float64bits Try.func39 (by kernel_rfl) (by kernel_rfl) (by kernel_rfl) (by kernel_rfl)
 have hX72:=run_Float64frombits Try.func72 (by kernel_rfl) (by kernel_rfl) (by kernel_rfl) (by kernel_rfl)
 have H:(some ((Go.bits .andNot .u64 (a0:Int) 9223372036854775808).toNat)) = some r:=h
 clear h
 obtain rfl:=Option.some.inj H
 go_enter Try.func86,Try.ntmps86
 go_wp2
 go_ret
 exact ⟨by first | rfl | (simp;done) | (simp [*];done),by repeat (first | exact Drawn0.refl _ | apply Drawn0.step)⟩
def math_IsInf.f (a0:Nat) (a1:Int):Option (Bool):=if a1 = 0 then ((math_Abs.f a0).bind fun t101 => (some (FloatKind.f64.format.order t101 9218868437227405311 == some .gt))) else (if a1 < 0 then (some (FloatKind.f64.format.order (Op.negFloat .f64 a0) 9218868437227405311 == some .gt)) else (some (FloatKind.f64.format.order a0 9218868437227405311 == some .gt)))
set_option maxHeartbeats 8000000 in
set_option maxRecDepth 100000 in
theorem math_IsInf.calls (a0:Nat) (a1:Int) (r:Bool) (w:World) (h:math_IsInf.f a0 a1 = some r) :
  Calls Try.prog 62 #[.float .f64 a0,.int .i64 a1] w fun e w' => e = .returned (.bool r) ∧ Drawn0 w w':=by
 have H:(if a1 = 0 then ((math_Abs.f a0).bind fun t101 => (some (FloatKind.f64.format.order t101 9218868437227405311 == some .gt))) else (if a1 < 0 then (some (FloatKind.f64.format.order (Op.negFloat .f64 a0) 9218868437227405311 == some .gt)) else (some (FloatKind.f64.format.order a0 9218868437227405311 == some .gt)))) = some r:=h
 clear h
 by_cases c3:a1 = 0
 ·rw [if_pos c3] at H
  have c3b0:(a1 == 0) = true:=beq_iff_eq.mpr c3
  have c3b1:(a1 != 0) = false:=bne_eq_false_iff_eq.mpr c3
  clear c3
  replace H:=Option.bind_eq_some_iff.mp H
  obtain ⟨t101,A40,H⟩:=H
  replace H:(some (FloatKind.f64.format.order t101 9218868437227405311 == some .gt)) = some r:=H
  have A4:=Aside0.mk A40
  clear A40
  obtain rfl:=Option.some.inj H
  go_enter Try.func62,Try.ntmps62
  go_wp2_with (first | ((with_reducible refine gate_callee (f:=86) rfl ?_);refine goesL_ (some 8) rfl rfl Try.func86 (by kernel_rfl) rfl #[.float .f64 a0] rfl (by (try simp only [List.map_toArray,List.map_cons,List.map_nil]);first | done | rfl | (simp only [List.length_drop,List.length_take];rfl)) ?_;(with_reducible refine (math_Abs.calls a0 t101 _ A4.out).mono ?_);rintro e w' ⟨rfl,⟨nd,rfl⟩⟩;refine ⟨_,rfl,?_⟩))
  go_ret
  exact ⟨by first | rfl | (simp;done) | (simp [*];done),by repeat (first | exact Drawn0.refl _ | apply Drawn0.step)⟩
 rw [if_neg c3] at H
 have c3b0:(a1 == 0) = false:=beq_eq_false_iff_ne.mpr c3
 have c3b1:(a1 != 0) = true:=bne_iff_ne.mpr c3
 by_cases c5:a1 < 0
 ·rw [if_pos c5] at H
  have c5b0:decide (a1 < 0) = true:=decide_eq_true c5
  clear c5
  obtain rfl:=Option.some.inj H
  go_enter Try.func62,Try.ntmps62
  go_wp2
  go_ret
  exact ⟨by first | rfl | (simp;done) | (simp [*];done),by repeat (first | exact Drawn0.refl _ | apply Drawn0.step)⟩
 rw [if_neg c5] at H
 have c5b0:decide (a1 < 0) = false:=decide_eq_false c5
 clear c5
 obtain rfl:=Option.some.inj H
 go_enter Try.func62,Try.ntmps62
 go_wp2
 go_ret
 exact ⟨by first | rfl | (simp;done) | (simp [*];done),by repeat (first | exact Drawn0.refl _ | apply Drawn0.step)⟩
def math_Trunc.f (a0:Nat):Option (Nat):=(archTruncBits a0).bind fun t104 => (some t104)
set_option maxHeartbeats 8000000 in
set_option maxRecDepth 100000 in
theorem math_Trunc.calls (a0:Nat) (r:Nat) (w:World) (h:math_Trunc.f a0 = some r) :
  Calls Try.prog 85 #[.float .f64 a0] w fun e w' => e = .returned (.float .f64 r) ∧ Drawn0 w w':=by
 have H:((archTruncBits a0).bind fun t104 => (some t104)) = some r:=h
 clear h
 replace H:=Option.bind_eq_some_iff.mp H
 obtain ⟨t104,A20,H⟩:=H
 replace H:(some t104) = some r:=H
 have A2f:∀ W_:World,(callFunc 118 #[.float .f64 a0]).run Try.prog W_ = .ok (.value (.float .f64 t104)) W_:=fun W_ => run_archTruncBits Try.func118 (by kernel_rfl) (by kernel_rfl) (by kernel_rfl) (by kernel_rfl) _ _ A20 W_
 have A2:=Aside0.mk A20
 clear A20
 obtain rfl:=Option.some.inj H
 go_enter Try.func85,Try.ntmps85
 go_wp2
 go_ret
 exact ⟨by first | rfl | (simp;done) | (simp [*];done),by repeat (first | exact Drawn0.refl _ | apply Drawn0.step)⟩
def beaconref06_Far.f (a0:Nat):Option (Bool):=(math_IsInf.f a0 1).bind fun t105 => (if t105 = true then (some true) else (if (a0:Int) = 0 then (some true) else (if (FloatKind.f64.format.order a0 0 == some .gt) = true then (if (FloatKind.f64.format.order a0 4742290407621132288 == some .lt) = true then ((floatBits .mul .f64 a0 4616189618054758400).bind fun t106 => ((math_Trunc.f t106).bind fun t107 => (some (FloatKind.f64.format.order t106 t107 == some .eq)))) else (some false)) else (some false))))
set_option maxHeartbeats 8000000 in
set_option maxRecDepth 100000 in
theorem beaconref06_Far.calls (a0:Nat) (r:Bool) (w:World) (h:beaconref06_Far.f a0 = some r) :
  Calls Try.prog 61 #[.float .f64 a0] w fun e w' => e = .returned (.bool r) ∧ Drawn0 w w':=by
 have hX39:=run_Float64bits Try.func39 (by kernel_rfl) (by kernel_rfl) (by kernel_rfl) (by kernel_rfl)
 have H:((math_IsInf.f a0 1).bind fun t105 => (if t105 = true then (some true) else (if (a0:Int) = 0 then (some true) else (if (FloatKind.f64.format.order a0 0 == some .gt) = true then (if (FloatKind.f64.format.order a0 4742290407621132288 == some .lt) = true then ((floatBits .mul .f64 a0 4616189618054758400).bind fun t106 => ((math_Trunc.f t106).bind fun t107 => (some (FloatKind.f64.format.order t106 t107 == some .eq)))) else (some false)) else (some false))))) = some r:=h
 clear h
 replace H:=Option.bind_eq_some_iff.mp H
 obtain ⟨t105,A20,H⟩:=H
 replace H:(if t105 = true then (some true) else (if (a0:Int) = 0 then (some true) else (if (FloatKind.f64.format.order a0 0 == some .gt) = true then (if (FloatKind.f64.format.order a0 4742290407621132288 == some .lt) = true then ((floatBits .mul .f64 a0 4616189618054758400).bind fun t106 => ((math_Trunc.f t106).bind fun t107 => (some (FloatKind.f64.format.order t106 t107 == some .eq)))) else (some false)) else (some false)))) = some r:=H
 have A2:=Aside0.mk A20
 clear A20
 by_cases c3:t105 = true
 ·subst c3
  have H1:(some true) = some r:=by rw [if_pos rfl] at H;exact H
  clear H
  have H:=H1
  clear H1
  obtain rfl:=Option.some.inj H
  go_enter Try.func61,Try.ntmps61
  go_wp2_with (first | ((with_reducible refine gate_callee (f:=62) rfl ?_);refine goesL_ (some 4) rfl rfl Try.func62 (by kernel_rfl) rfl #[.float .f64 a0,.int .i64 1] rfl (by (try simp only [List.map_toArray,List.map_cons,List.map_nil]);first | done | rfl | (simp only [List.length_drop,List.length_take];rfl)) ?_;(with_reducible refine (math_IsInf.calls a0 1 true _ A2.out).mono ?_);rintro e w' ⟨rfl,⟨nd,rfl⟩⟩;refine ⟨_,rfl,?_⟩))
  go_ret
  exact ⟨by first | rfl | (simp;done) | (simp [*];done),by repeat (first | exact Drawn0.refl _ | apply Drawn0.step)⟩
 replace c3:=Bool.eq_false_iff.mpr c3
 subst c3
 have H1:(if (a0:Int) = 0 then (some true) else (if (FloatKind.f64.format.order a0 0 == some .gt) = true then (if (FloatKind.f64.format.order a0 4742290407621132288 == some .lt) = true then ((floatBits .mul .f64 a0 4616189618054758400).bind fun t106 => ((math_Trunc.f t106).bind fun t107 => (some (FloatKind.f64.format.order t106 t107 == some .eq)))) else (some false)) else (some false))) = some r:=by rw [if_neg (show ¬ (false = true) by decide)] at H;exact H
 clear H
 have H:=H1
 clear H1
 by_cases c4:(a0:Int) = 0
 ·rw [if_pos c4] at H
  have c4b0:((a0:Int) == 0) = true:=beq_iff_eq.mpr c4
  have c4b1:((a0:Int) != 0) = false:=bne_eq_false_iff_eq.mpr c4
  clear c4
  obtain rfl:=Option.some.inj H
  go_enter Try.func61,Try.ntmps61
  go_wp2_with (first | ((with_reducible refine gate_callee (f:=62) rfl ?_);refine goesL_ (some 4) rfl rfl Try.func62 (by kernel_rfl) rfl #[.float .f64 a0,.int .i64 1] rfl (by (try simp only [List.map_toArray,List.map_cons,List.map_nil]);first | done | rfl | (simp only [List.length_drop,List.length_take];rfl)) ?_;(with_reducible refine (math_IsInf.calls a0 1 false _ A2.out).mono ?_);rintro e w' ⟨rfl,⟨nd,rfl⟩⟩;refine ⟨_,rfl,?_⟩))
  go_ret
  exact ⟨by first | rfl | (simp;done) | (simp [*];done),by repeat (first | exact Drawn0.refl _ | apply Drawn0.step)⟩
 rw [if_neg c4] at H
 have c4b0:((a0:Int) == 0) = false:=beq_eq_false_iff_ne.mpr c4
 have c4b1:((a0:Int) != 0) = true:=bne_iff_ne.mpr c4
 by_cases c5:(FloatKind.f64.format.order a0 0 == some .gt) = true
 rotate_left
 ·rw [if_neg c5] at H
  have c5b0:(FloatKind.f64.format.order a0 0 == some .gt) = false:=by simpa using c5
  (try (have c5b1:decide (FloatKind.f64.format.order a0 0 = some .gt) = false:=by simpa using c5))
  (try (have c5b2:(FloatKind.f64.format.order a0 0 == some .gt) = false:=by simpa using c5))
  (try (have c5b3:¬ (FloatKind.f64.format.order a0 0 = some .gt):=by simpa using c5))
  clear c5
  obtain rfl:=Option.some.inj H
  go_enter Try.func61,Try.ntmps61
  go_wp2_with (first | ((with_reducible refine gate_callee (f:=62) rfl ?_);refine goesL_ (some 4) rfl rfl Try.func62 (by kernel_rfl) rfl #[.float .f64 a0,.int .i64 1] rfl (by (try simp only [List.map_toArray,List.map_cons,List.map_nil]);first | done | rfl | (simp only [List.length_drop,List.length_take];rfl)) ?_;(with_reducible refine (math_IsInf.calls a0 1 false _ A2.out).mono ?_);rintro e w' ⟨rfl,⟨nd,rfl⟩⟩;refine ⟨_,rfl,?_⟩))
  go_ret
  exact ⟨by first | rfl | (simp;done) | (simp [*];done),by repeat (first | exact Drawn0.refl _ | apply Drawn0.step)⟩
 rw [if_pos c5] at H
 have c5b0:(FloatKind.f64.format.order a0 0 == some .gt) = true:=c5
 (try (have c5b1:decide (FloatKind.f64.format.order a0 0 = some .gt) = true:=by simpa using c5))
 (try (have c5b2:(FloatKind.f64.format.order a0 0 == some .gt) = true:=by simpa using c5))
 clear c5
 by_cases c6:(FloatKind.f64.format.order a0 4742290407621132288 == some .lt) = true
 ·rw [if_pos c6] at H
  have c6b0:(FloatKind.f64.format.order a0 4742290407621132288 == some .lt) = true:=c6
  (try (have c6b1:decide (FloatKind.f64.format.order a0 4742290407621132288 = some .lt) = true:=by simpa using c6))
  (try (have c6b2:(FloatKind.f64.format.order a0 4742290407621132288 == some .lt) = true:=by simpa using c6))
  clear c6
  replace H:=Option.bind_eq_some_iff.mp H
  obtain ⟨t106,A70,H⟩:=H
  replace H:((math_Trunc.f t106).bind fun t107 => (some (FloatKind.f64.format.order t106 t107 == some .eq))) = some r:=H
  have A7f:∀ W_:World,(binOp .mul 23 (.float .f64 a0) (.float .f64 4616189618054758400)).run Try.prog W_ = .ok (.float .f64 t106) W_:=fun W_ => run_float_arith W_ .mul 23 .f64 _ _ _ A70
  have A7:=Aside0.mk A70
  clear A70
  replace H:=Option.bind_eq_some_iff.mp H
  obtain ⟨t107,A80,H⟩:=H
  replace H:(some (FloatKind.f64.format.order t106 t107 == some .eq)) = some r:=H
  have A8:=Aside0.mk A80
  clear A80
  obtain rfl:=Option.some.inj H
  go_enter Try.func61,Try.ntmps61
  go_wp2_with (first | ((with_reducible refine gate_callee (f:=62) rfl ?_);refine goesL_ (some 4) rfl rfl Try.func62 (by kernel_rfl) rfl #[.float .f64 a0,.int .i64 1] rfl (by (try simp only [List.map_toArray,List.map_cons,List.map_nil]);first | done | rfl | (simp only [List.length_drop,List.length_take];rfl)) ?_;(with_reducible refine (math_IsInf.calls a0 1 false _ A2.out).mono ?_);rintro e w' ⟨rfl,⟨nd,rfl⟩⟩;refine ⟨_,rfl,?_⟩) | (go_at_call 85;(with_reducible refine (math_Trunc.calls t106 t107 _ A8.out).mono ?_);rintro e w' ⟨rfl,⟨nd,rfl⟩⟩))
  go_ret
  exact ⟨by first | rfl | (simp;done) | (simp [*];done),by repeat (first | exact Drawn0.refl _ | apply Drawn0.step)⟩
 rw [if_neg c6] at H
 have c6b0:(FloatKind.f64.format.order a0 4742290407621132288 == some .lt) = false:=by simpa using c6
 (try (have c6b1:decide (FloatKind.f64.format.order a0 4742290407621132288 = some .lt) = false:=by simpa using c6))
 (try (have c6b2:(FloatKind.f64.format.order a0 4742290407621132288 == some .lt) = false:=by simpa using c6))
 (try (have c6b3:¬ (FloatKind.f64.format.order a0 4742290407621132288 = some .lt):=by simpa using c6))
 clear c6
 obtain rfl:=Option.some.inj H
 go_enter Try.func61,Try.ntmps61
 go_wp2_with (first | ((with_reducible refine gate_callee (f:=62) rfl ?_);refine goesL_ (some 4) rfl rfl Try.func62 (by kernel_rfl) rfl #[.float .f64 a0,.int .i64 1] rfl (by (try simp only [List.map_toArray,List.map_cons,List.map_nil]);first | done | rfl | (simp only [List.length_drop,List.length_take];rfl)) ?_;(with_reducible refine (math_IsInf.calls a0 1 false _ A2.out).mono ?_);rintro e w' ⟨rfl,⟨nd,rfl⟩⟩;refine ⟨_,rfl,?_⟩))
 go_ret
 exact ⟨by first | rfl | (simp;done) | (simp [*];done),by repeat (first | exact Drawn0.refl _ | apply Drawn0.step)⟩
def beaconref02_CheckId.f (a0:Int):Option (Int):=if a0 < 1 then (some 20) else (if a0 > 2147483647 then (some 20) else (some 0))
set_option maxHeartbeats 8000000 in
set_option maxRecDepth 100000 in
theorem beaconref02_CheckId.calls (a0:Int) (r:Int) (w:World) (h:beaconref02_CheckId.f a0 = some r) :
  Calls Try.prog 82 #[.int .i64 a0] w fun e w' => e = .returned (.int .i64 r) ∧ Drawn0 w w':=by
 have H:(if a0 < 1 then (some 20) else (if a0 > 2147483647 then (some 20) else (some 0))) = some r:=h
 clear h
 by_cases c2:a0 < 1
 ·rw [if_pos c2] at H
  have c2b0:decide (a0 < 1) = true:=decide_eq_true c2
  clear c2
  obtain rfl:=Option.some.inj H
  go_enter Try.func82,Try.ntmps82
  go_wp2
  go_ret
  exact ⟨by first | rfl | (simp;done) | (simp [*];done),by repeat (first | exact Drawn0.refl _ | apply Drawn0.step)⟩
 rw [if_neg c2] at H
 have c2b0:decide (a0 < 1) = false:=decide_eq_false c2
 clear c2
 by_cases c3:a0 > 2147483647
 ·rw [if_pos c3] at H
  have c3b0:decide (2147483647 < a0) = true:=decide_eq_true c3
  clear c3
  obtain rfl:=Option.some.inj H
  go_enter Try.func82,Try.ntmps82
  go_wp2
  go_ret
  exact ⟨by first | rfl | (simp;done) | (simp [*];done),by repeat (first | exact Drawn0.refl _ | apply Drawn0.step)⟩
 rw [if_neg c3] at H
 have c3b0:decide (2147483647 < a0) = false:=decide_eq_false c3
 clear c3
 obtain rfl:=Option.some.inj H
 go_enter Try.func82,Try.ntmps82
 go_wp2
 go_ret
 exact ⟨by first | rfl | (simp;done) | (simp [*];done),by repeat (first | exact Drawn0.refl _ | apply Drawn0.step)⟩
def beaconref06_number.f (a0:Int):Option (Bool):=(beaconref02_CheckId.f a0).bind fun t108 => (some (t108 == 0))
set_option maxHeartbeats 8000000 in
set_option maxRecDepth 100000 in
theorem beaconref06_number.calls (a0:Int) (r:Bool) (w:World) (h:beaconref06_number.f a0 = some r) :
  Calls Try.prog 120 #[.int .i64 a0] w fun e w' => e = .returned (.bool r) ∧ Drawn0 w w':=by
 have H:((beaconref02_CheckId.f a0).bind fun t108 => (some (t108 == 0))) = some r:=h
 clear h
 replace H:=Option.bind_eq_some_iff.mp H
 obtain ⟨t108,A20,H⟩:=H
 replace H:(some (t108 == 0)) = some r:=H
 have A2:=Aside0.mk A20
 clear A20
 obtain rfl:=Option.some.inj H
 go_enter Try.func120,Try.ntmps120
 go_wp2_with (first | ((with_reducible refine gate_callee (f:=82) rfl ?_);refine goesL_ (some 4) rfl rfl Try.func82 (by kernel_rfl) rfl #[.int .i64 a0] rfl (by (try simp only [List.map_toArray,List.map_cons,List.map_nil]);first | done | rfl | (simp only [List.length_drop,List.length_take];rfl)) ?_;(with_reducible refine (beaconref02_CheckId.calls a0 t108 _ A2.out).mono ?_);rintro e w' ⟨rfl,⟨nd,rfl⟩⟩;refine ⟨_,rfl,?_⟩))
 go_ret
 exact ⟨by first | rfl | (simp;done) | (simp [*];done),by repeat (first | exact Drawn0.refl _ | apply Drawn0.step)⟩
def beaconref06_zero.f (a0:Nat):Option (Bool):=some ((a0:Int) == 0)
set_option maxHeartbeats 8000000 in
set_option maxRecDepth 100000 in
theorem beaconref06_zero.calls (a0:Nat) (r:Bool) (w:World) (h:beaconref06_zero.f a0 = some r) :
  Calls Try.prog 121 #[.float .f64 a0] w fun e w' => e = .returned (.bool r) ∧ Drawn0 w w':=by
 have hX39:=run_Float64bits Try.func39 (by kernel_rfl) (by kernel_rfl) (by kernel_rfl) (by kernel_rfl)
 have H:(some ((a0:Int) == 0)) = some r:=h
 clear h
 obtain rfl:=Option.some.inj H
 go_enter Try.func121,Try.ntmps121
 go_wp2
 go_ret
 exact ⟨by first | rfl | (simp;done) | (simp [*];done),by repeat (first | exact Drawn0.refl _ | apply Drawn0.step)⟩
mutual
def beaconref06_May.j0:Nat → Bool → Int → Int → Nat → Nat → Int → Option (Bool)
 | 0,_,_,_,_,_,_ => none
 | k + 1,x22,x110000,x110001,x110002,x110003,x110004 => if x22 = true then (some false) else (if x110001 = 1 then (beaconref06_May.j1 k true x110000 x110001 x110002 x110003 x110004) else ((math_IsInf.f x110002 1).bind fun t113 => (beaconref06_May.j1 k t113 x110000 x110001 x110002 x110003 x110004)))
def beaconref06_May.j1:Nat → Bool → Int → Int → Nat → Nat → Int → Option (Bool)
 | 0,_,_,_,_,_,_ => none
 | k + 1,x30,x110000,x110001,x110002,x110003,x110004 => if x30 = true then ((beaconref06_zero.f x110003).bind fun t114 => (if t114 = true then (some (x110004 == 0)) else (some false))) else ((math_IsInf.f x110003 1).bind fun t115 => (if t115 = true then (some (x110004 == 0)) else ((beaconref06_Far.f x110003).bind fun t116 => (if t116 = true then ((beaconref06_number.f x110004).bind fun t117 => (some t117)) else (some false)))))
end
def beaconref06_May.f (k:Nat) (a0_0:Int) (a0_1:Int) (a0_2:Nat) (a0_3:Nat) (a0_4:Int):Option (Bool):=(beaconref06_number.f a0_0).bind fun t110 => (if t110 = true then (if a0_1 = 1 then ((beaconref06_Far.f a0_2).bind fun t111 => (beaconref06_May.j0 k (!t111) a0_0 a0_1 a0_2 a0_3 a0_4)) else (if a0_1 = 2 then ((beaconref06_Far.f a0_2).bind fun t112 => (beaconref06_May.j0 k (!t112) a0_0 a0_1 a0_2 a0_3 a0_4)) else (beaconref06_May.j0 k true a0_0 a0_1 a0_2 a0_3 a0_4))) else (beaconref06_May.j0 k true a0_0 a0_1 a0_2 a0_3 a0_4))
set_option maxHeartbeats 8000000 in
set_option maxRecDepth 100000 in
theorem beaconref06_May.calls (k:Nat) (a0_0:Int) (a0_1:Int) (a0_2:Nat) (a0_3:Nat) (a0_4:Int) (r:Bool) (w:World) (h:beaconref06_May.f k a0_0 a0_1 a0_2 a0_3 a0_4 = some r) :
  Calls Try.prog 87 #[.agg #[.int .i64 a0_0,.int .i64 a0_1,.float .f64 a0_2,.float .f64 a0_3,.int .i64 a0_4]] w fun e w' => e = .returned (.bool r) ∧ Below w.heap.size w w':=by
 have hu56:=Try.underlying56
 have HB:=Aside0.mk (Below.refl w.heap.size w)
 have H:((beaconref06_number.f a0_0).bind fun t110 => (if t110 = true then (if a0_1 = 1 then ((beaconref06_Far.f a0_2).bind fun t111 => (beaconref06_May.j0 k (!t111) a0_0 a0_1 a0_2 a0_3 a0_4)) else (if a0_1 = 2 then ((beaconref06_Far.f a0_2).bind fun t112 => (beaconref06_May.j0 k (!t112) a0_0 a0_1 a0_2 a0_3 a0_4)) else (beaconref06_May.j0 k true a0_0 a0_1 a0_2 a0_3 a0_4))) else (beaconref06_May.j0 k true a0_0 a0_1 a0_2 a0_3 a0_4))) = some r:=h
 clear h
 have HC2:=Aside0.mk H
 clear H
 go_enter Try.func87,Try.ntmps87
 go_upto_region 1 with (first | ((with_reducible refine gate_dst (N:=1) rfl ?_);refine box_event ?hg (N:=1) ?hd (cs:=#[.int .i64 a0_0,.int .i64 a0_1,.float .f64 a0_2,.float .f64 a0_3,.int .i64 a0_4]) (t:=56) ?hr ?_;(case hd => rfl);(case hg => rfl);(case hr => first | (go_simp;done) | (go_simp;rfl));intro gb109 hg w3 hbox hb;have n0_:=Aside0.mk (below_step (by repeat (first | (with_reducible first | exact HB.out | apply below_alloc | apply pw_below_drewN | apply below_drew1) | exact HB.out)) hb);have n1_:=Aside0.mk (hbox);have n2_:=Aside0.mk ((by rw [hg];exact (below_size (by repeat (first | (with_reducible first | exact HB.out | apply below_alloc | apply pw_below_drewN | apply below_drew1) | exact HB.out))):w.heap.size ≤ gb109));have n3_:=Aside0.mk ((by rw [hg];exact (below_size (by repeat (first | (with_reducible first | exact HB.out | apply below_alloc | apply pw_below_drewN | apply below_drew1) | exact HB.out))):w.heap.size ≤ gb109));clear HB;have HB:=n0_;have BK109:=n1_;have GW109:=n2_;have GE109:=n3_;clear n0_ n1_ n2_ n3_;clear hb hbox hg))
 (try simp only [Act.put,List.setIfInBounds_toArray,List.set_cons_zero,List.set_cons_succ])
 go_cut [22] (fun v22 wc => ∃ (kq:Nat) (x22_1:Bool),v22 = .bool x22_1 ∧ Aside0 (beaconref06_May.j0 kq x22_1 a0_0 a0_1 a0_2 a0_3 a0_4 = some r) ∧ Aside0 (kq ≤ k) ∧ Aside0 (wc.heap[gb109]? = some (.cells #[.int .i64 a0_0,.int .i64 a0_1,.float .f64 a0_2,.float .f64 a0_3,.int .i64 a0_4] 56 (0,0))) ∧ Aside0 (Below w.heap.size w wc))
 case first =>
  have H:=HC2.out
  clear HC2
  replace H:=Option.bind_eq_some_iff.mp H
  obtain ⟨t110,A40,H⟩:=H
  replace H:(if t110 = true then (if a0_1 = 1 then ((beaconref06_Far.f a0_2).bind fun t111 => (beaconref06_May.j0 k (!t111) a0_0 a0_1 a0_2 a0_3 a0_4)) else (if a0_1 = 2 then ((beaconref06_Far.f a0_2).bind fun t112 => (beaconref06_May.j0 k (!t112) a0_0 a0_1 a0_2 a0_3 a0_4)) else (beaconref06_May.j0 k true a0_0 a0_1 a0_2 a0_3 a0_4))) else (beaconref06_May.j0 k true a0_0 a0_1 a0_2 a0_3 a0_4)) = some r:=H
  have A4:=Aside0.mk A40
  clear A40
  by_cases c5:t110 = true
  rotate_left
  ·replace c5:=Bool.eq_false_iff.mpr c5
   subst c5
   have H1:(beaconref06_May.j0 k true a0_0 a0_1 a0_2 a0_3 a0_4) = some r:=by rw [if_neg (show ¬ (false = true) by decide)] at H;exact H
   clear H
   have H:=H1
   clear H1
   have H':=Aside0.mk H
   clear H
   have hcz13_0:w3.cell? ⟨gb109,0,none⟩ = some (.int .i64 a0_0):=(blk_cell BK109.out 0).trans rfl
   have hcz13_1:w3.cell? ⟨gb109,1,none⟩ = some (.int .i64 a0_1):=(blk_cell BK109.out 1).trans rfl
   have hcz13_2:w3.cell? ⟨gb109,2,none⟩ = some (.float .f64 a0_2):=(blk_cell BK109.out 2).trans rfl
   have hcz13_3:w3.cell? ⟨gb109,3,none⟩ = some (.float .f64 a0_3):=(blk_cell BK109.out 3).trans rfl
   have hcz13_4:w3.cell? ⟨gb109,4,none⟩ = some (.int .i64 a0_4):=(blk_cell BK109.out 4).trans rfl
   have hfz13_0:=blk_frozen BK109.out 0
   have hfz13_1:=blk_frozen BK109.out 1
   have hfz13_2:=blk_frozen BK109.out 2
   have hfz13_3:=blk_frozen BK109.out 3
   have hfz13_4:=blk_frozen BK109.out 4
   go_wp2_with (first | ((with_reducible refine gate_callee (f:=120) rfl ?_);refine goesL_ (some 5) rfl rfl Try.func120 (by kernel_rfl) rfl #[.int .i64 a0_0] rfl (by (try simp only [List.map_toArray,List.map_cons,List.map_nil]);first | done | rfl | (simp only [List.length_drop,List.length_take];rfl)) ?_;(with_reducible refine (beaconref06_number.calls a0_0 false _ A4.out).mono ?_);rintro e w' ⟨rfl,⟨nd,rfl⟩⟩;refine ⟨_,rfl,?_⟩))
   go_meet
   case rel => exact ⟨_,(true),(by first | rfl | (simp;done) | (simp [*];done)),H',⟨by first | omega | exact Nat.le_refl _⟩,⟨by (with_reducible repeat (first | refine blk_drewN ?_ _ | refine blk_drew ?_ | refine blk_alloc ?_ _));exact BK109.out⟩,⟨by repeat (first | (with_reducible first | exact HB.out | apply below_alloc | apply pw_below_drewN | apply below_drew1 | refine below_set ?_ GE109.out) | exact HB.out)⟩⟩
  subst c5
  have H1:(if a0_1 = 1 then ((beaconref06_Far.f a0_2).bind fun t111 => (beaconref06_May.j0 k (!t111) a0_0 a0_1 a0_2 a0_3 a0_4)) else (if a0_1 = 2 then ((beaconref06_Far.f a0_2).bind fun t112 => (beaconref06_May.j0 k (!t112) a0_0 a0_1 a0_2 a0_3 a0_4)) else (beaconref06_May.j0 k true a0_0 a0_1 a0_2 a0_3 a0_4))) = some r:=by rw [if_pos rfl] at H;exact H
  clear H
  have H:=H1
  clear H1
  by_cases c6:a0_1 = 1
  ·rw [if_pos c6] at H
   have c6b0:(a0_1 == 1) = true:=beq_iff_eq.mpr c6
   have c6b1:(a0_1 != 1) = false:=bne_eq_false_iff_eq.mpr c6
   clear c6
   (first | rw [c6b0] | (simp only [i64_w,i32_w];rw [c6b0]) | skip)
   replace H:=Option.bind_eq_some_iff.mp H
   obtain ⟨t111,A70,H⟩:=H
   replace H:(beaconref06_May.j0 k (!t111) a0_0 a0_1 a0_2 a0_3 a0_4) = some r:=H
   have A7:=Aside0.mk A70
   clear A70
   have H':=Aside0.mk H
   clear H
   have hcz8_0:w3.cell? ⟨gb109,0,none⟩ = some (.int .i64 a0_0):=(blk_cell BK109.out 0).trans rfl
   have hcz8_1:w3.cell? ⟨gb109,1,none⟩ = some (.int .i64 a0_1):=(blk_cell BK109.out 1).trans rfl
   have hcz8_2:w3.cell? ⟨gb109,2,none⟩ = some (.float .f64 a0_2):=(blk_cell BK109.out 2).trans rfl
   have hcz8_3:w3.cell? ⟨gb109,3,none⟩ = some (.float .f64 a0_3):=(blk_cell BK109.out 3).trans rfl
   have hcz8_4:w3.cell? ⟨gb109,4,none⟩ = some (.int .i64 a0_4):=(blk_cell BK109.out 4).trans rfl
   have hfz8_0:=blk_frozen BK109.out 0
   have hfz8_1:=blk_frozen BK109.out 1
   have hfz8_2:=blk_frozen BK109.out 2
   have hfz8_3:=blk_frozen BK109.out 3
   have hfz8_4:=blk_frozen BK109.out 4
   go_wp2_with (first | ((with_reducible refine gate_callee (f:=120) rfl ?_);refine goesL_ (some 5) rfl rfl Try.func120 (by kernel_rfl) rfl #[.int .i64 a0_0] rfl (by (try simp only [List.map_toArray,List.map_cons,List.map_nil]);first | done | rfl | (simp only [List.length_drop,List.length_take];rfl)) ?_;(with_reducible refine (beaconref06_number.calls a0_0 true _ A4.out).mono ?_);rintro e w' ⟨rfl,⟨nd,rfl⟩⟩;refine ⟨_,rfl,?_⟩) | (go_at_call 61;(with_reducible refine (beaconref06_Far.calls a0_2 t111 _ A7.out).mono ?_);rintro e w' ⟨rfl,⟨nd,rfl⟩⟩))
   go_meet
   case rel => exact ⟨_,(!t111),(by first | rfl | (simp;done) | (simp [*];done)),H',⟨by first | omega | exact Nat.le_refl _⟩,⟨by (with_reducible repeat (first | refine blk_drewN ?_ _ | refine blk_drew ?_ | refine blk_alloc ?_ _));exact BK109.out⟩,⟨by repeat (first | (with_reducible first | exact HB.out | apply below_alloc | apply pw_below_drewN | apply below_drew1 | refine below_set ?_ GE109.out) | exact HB.out)⟩⟩
  rw [if_neg c6] at H
  have c6b0:(a0_1 == 1) = false:=beq_eq_false_iff_ne.mpr c6
  have c6b1:(a0_1 != 1) = true:=bne_iff_ne.mpr c6
  (first | rw [c6b0] | (simp only [i64_w,i32_w];rw [c6b0]) | skip)
  by_cases c9:a0_1 = 2
  ·rw [if_pos c9] at H
   have c9b0:(a0_1 == 2) = true:=beq_iff_eq.mpr c9
   have c9b1:(a0_1 != 2) = false:=bne_eq_false_iff_eq.mpr c9
   clear c9
   replace H:=Option.bind_eq_some_iff.mp H
   obtain ⟨t112,A100,H⟩:=H
   replace H:(beaconref06_May.j0 k (!t112) a0_0 a0_1 a0_2 a0_3 a0_4) = some r:=H
   have A10:=Aside0.mk A100
   clear A100
   have H':=Aside0.mk H
   clear H
   have hcz11_0:w3.cell? ⟨gb109,0,none⟩ = some (.int .i64 a0_0):=(blk_cell BK109.out 0).trans rfl
   have hcz11_1:w3.cell? ⟨gb109,1,none⟩ = some (.int .i64 a0_1):=(blk_cell BK109.out 1).trans rfl
   have hcz11_2:w3.cell? ⟨gb109,2,none⟩ = some (.float .f64 a0_2):=(blk_cell BK109.out 2).trans rfl
   have hcz11_3:w3.cell? ⟨gb109,3,none⟩ = some (.float .f64 a0_3):=(blk_cell BK109.out 3).trans rfl
   have hcz11_4:w3.cell? ⟨gb109,4,none⟩ = some (.int .i64 a0_4):=(blk_cell BK109.out 4).trans rfl
   have hfz11_0:=blk_frozen BK109.out 0
   have hfz11_1:=blk_frozen BK109.out 1
   have hfz11_2:=blk_frozen BK109.out 2
   have hfz11_3:=blk_frozen BK109.out 3
   have hfz11_4:=blk_frozen BK109.out 4
   go_wp2_with (first | ((with_reducible refine gate_callee (f:=120) rfl ?_);refine goesL_ (some 5) rfl rfl Try.func120 (by kernel_rfl) rfl #[.int .i64 a0_0] rfl (by (try simp only [List.map_toArray,List.map_cons,List.map_nil]);first | done | rfl | (simp only [List.length_drop,List.length_take];rfl)) ?_;(with_reducible refine (beaconref06_number.calls a0_0 true _ A4.out).mono ?_);rintro e w' ⟨rfl,⟨nd,rfl⟩⟩;refine ⟨_,rfl,?_⟩) | (go_at_call 61;(with_reducible refine (beaconref06_Far.calls a0_2 t112 _ A10.out).mono ?_);rintro e w' ⟨rfl,⟨nd,rfl⟩⟩))
   go_meet
   case rel => exact ⟨_,(!t112),(by first | rfl | (simp;done) | (simp [*];done)),H',⟨by first | omega | exact Nat.le_refl _⟩,⟨by (with_reducible repeat (first | refine blk_drewN ?_ _ | refine blk_drew ?_ | refine blk_alloc ?_ _));exact BK109.out⟩,⟨by repeat (first | (with_reducible first | exact HB.out | apply below_alloc | apply pw_below_drewN | apply below_drew1 | refine below_set ?_ GE109.out) | exact HB.out)⟩⟩
  rw [if_neg c9] at H
  have c9b0:(a0_1 == 2) = false:=beq_eq_false_iff_ne.mpr c9
  have c9b1:(a0_1 != 2) = true:=bne_iff_ne.mpr c9
  have H':=Aside0.mk H
  clear H
  have hcz12_0:w3.cell? ⟨gb109,0,none⟩ = some (.int .i64 a0_0):=(blk_cell BK109.out 0).trans rfl
  have hcz12_1:w3.cell? ⟨gb109,1,none⟩ = some (.int .i64 a0_1):=(blk_cell BK109.out 1).trans rfl
  have hcz12_2:w3.cell? ⟨gb109,2,none⟩ = some (.float .f64 a0_2):=(blk_cell BK109.out 2).trans rfl
  have hcz12_3:w3.cell? ⟨gb109,3,none⟩ = some (.float .f64 a0_3):=(blk_cell BK109.out 3).trans rfl
  have hcz12_4:w3.cell? ⟨gb109,4,none⟩ = some (.int .i64 a0_4):=(blk_cell BK109.out 4).trans rfl
  have hfz12_0:=blk_frozen BK109.out 0
  have hfz12_1:=blk_frozen BK109.out 1
  have hfz12_2:=blk_frozen BK109.out 2
  have hfz12_3:=blk_frozen BK109.out 3
  have hfz12_4:=blk_frozen BK109.out 4
  go_wp2_with (first | ((with_reducible refine gate_callee (f:=120) rfl ?_);refine goesL_ (some 5) rfl rfl Try.func120 (by kernel_rfl) rfl #[.int .i64 a0_0] rfl (by (try simp only [List.map_toArray,List.map_cons,List.map_nil]);first | done | rfl | (simp only [List.length_drop,List.length_take];rfl)) ?_;(with_reducible refine (beaconref06_number.calls a0_0 true _ A4.out).mono ?_);rintro e w' ⟨rfl,⟨nd,rfl⟩⟩;refine ⟨_,rfl,?_⟩))
  go_meet
  case rel => exact ⟨_,(true),(by first | rfl | (simp;done) | (simp [*];done)),H',⟨by first | omega | exact Nat.le_refl _⟩,⟨by (with_reducible repeat (first | refine blk_drewN ?_ _ | refine blk_drew ?_ | refine blk_alloc ?_ _));exact BK109.out⟩,⟨by repeat (first | (with_reducible first | exact HB.out | apply below_alloc | apply pw_below_drewN | apply below_drew1 | refine below_set ?_ GE109.out) | exact HB.out)⟩⟩
 case rest =>
  clear HC2
  obtain ⟨kq,x22_1,rfl,HA,HJ1,BK109,HB⟩:=hcut
  cases kq with
  | zero => exact absurd HA.out (by simp [beaconref06_May.j0])
  | succ kj1 =>
   have H:=HA.out
   clear HA
   simp only [beaconref06_May.j0] at H
   by_cases c14:x22_1 = true
   ·subst c14
    have H1:(some false) = some r:=by rw [if_pos rfl] at H;exact H
    clear H
    have H:=H1
    clear H1
    obtain rfl:=Option.some.inj H
    go_wp2
    go_ret
    exact ⟨by first | rfl | (simp [errW_none,errW_some] <;> rfl) | (simp [*,errW_none,errW_some] <;> rfl),by repeat (first | (with_reducible first | exact HB.out | apply below_alloc | apply pw_below_drewN | apply below_drew1 | refine below_set ?_ GE109.out) | exact HB.out)⟩
   replace c14:=Bool.eq_false_iff.mpr c14
   subst c14
   have H1:(if a0_1 = 1 then (beaconref06_May.j1 kj1 true a0_0 a0_1 a0_2 a0_3 a0_4) else ((math_IsInf.f a0_2 1).bind fun t113 => (beaconref06_May.j1 kj1 t113 a0_0 a0_1 a0_2 a0_3 a0_4))) = some r:=by rw [if_neg (show ¬ (false = true) by decide)] at H;exact H
   clear H
   have H:=H1
   clear H1
   have HC15:=Aside0.mk H
   clear H
   go_upto_region 3 with (fail)
   go_cut [30] (fun v30 wc => ∃ (kq:Nat) (x30_14:Bool),v30 = .bool x30_14 ∧ Aside0 (beaconref06_May.j1 kq x30_14 a0_0 a0_1 a0_2 a0_3 a0_4 = some r) ∧ Aside0 (kq ≤ kj1) ∧ Aside0 (wc.heap[gb109]? = some (.cells #[.int .i64 a0_0,.int .i64 a0_1,.float .f64 a0_2,.float .f64 a0_3,.int .i64 a0_4] 56 (0,0))) ∧ Aside0 (Below w.heap.size w wc))
   case first =>
    have H:=HC15.out
    clear HC15
    by_cases c16:a0_1 = 1
    ·rw [if_pos c16] at H
     have c16b0:(a0_1 == 1) = true:=beq_iff_eq.mpr c16
     have c16b1:(a0_1 != 1) = false:=bne_eq_false_iff_eq.mpr c16
     clear c16
     (first | rw [c16b0] | (simp only [i64_w,i32_w];rw [c16b0]) | skip)
     have H':=Aside0.mk H
     clear H
     have hcz17_0:wc.cell? ⟨gb109,0,none⟩ = some (.int .i64 a0_0):=(blk_cell BK109.out 0).trans rfl
     have hcz17_1:wc.cell? ⟨gb109,1,none⟩ = some (.int .i64 a0_1):=(blk_cell BK109.out 1).trans rfl
     have hcz17_2:wc.cell? ⟨gb109,2,none⟩ = some (.float .f64 a0_2):=(blk_cell BK109.out 2).trans rfl
     have hcz17_3:wc.cell? ⟨gb109,3,none⟩ = some (.float .f64 a0_3):=(blk_cell BK109.out 3).trans rfl
     have hcz17_4:wc.cell? ⟨gb109,4,none⟩ = some (.int .i64 a0_4):=(blk_cell BK109.out 4).trans rfl
     have hfz17_0:=blk_frozen BK109.out 0
     have hfz17_1:=blk_frozen BK109.out 1
     have hfz17_2:=blk_frozen BK109.out 2
     have hfz17_3:=blk_frozen BK109.out 3
     have hfz17_4:=blk_frozen BK109.out 4
     go_wp2
     go_meet
     case rel => exact ⟨_,(true),(by first | rfl | (simp;done) | (simp [*];done)),H',⟨by have:=HJ1.out;first | omega | exact Nat.le_refl _⟩,⟨by (with_reducible repeat (first | refine blk_drewN ?_ _ | refine blk_drew ?_ | refine blk_alloc ?_ _));exact BK109.out⟩,⟨by repeat (first | (with_reducible first | exact HB.out | apply below_alloc | apply pw_below_drewN | apply below_drew1 | refine below_set ?_ GE109.out) | exact HB.out)⟩⟩
    rw [if_neg c16] at H
    have c16b0:(a0_1 == 1) = false:=beq_eq_false_iff_ne.mpr c16
    have c16b1:(a0_1 != 1) = true:=bne_iff_ne.mpr c16
    (first | rw [c16b0] | (simp only [i64_w,i32_w];rw [c16b0]) | skip)
    replace H:=Option.bind_eq_some_iff.mp H
    obtain ⟨t113,A180,H⟩:=H
    replace H:(beaconref06_May.j1 kj1 t113 a0_0 a0_1 a0_2 a0_3 a0_4) = some r:=H
    have A18:=Aside0.mk A180
    clear A180
    have H':=Aside0.mk H
    clear H
    have hcz19_0:wc.cell? ⟨gb109,0,none⟩ = some (.int .i64 a0_0):=(blk_cell BK109.out 0).trans rfl
    have hcz19_1:wc.cell? ⟨gb109,1,none⟩ = some (.int .i64 a0_1):=(blk_cell BK109.out 1).trans rfl
    have hcz19_2:wc.cell? ⟨gb109,2,none⟩ = some (.float .f64 a0_2):=(blk_cell BK109.out 2).trans rfl
    have hcz19_3:wc.cell? ⟨gb109,3,none⟩ = some (.float .f64 a0_3):=(blk_cell BK109.out 3).trans rfl
    have hcz19_4:wc.cell? ⟨gb109,4,none⟩ = some (.int .i64 a0_4):=(blk_cell BK109.out 4).trans rfl
    have hfz19_0:=blk_frozen BK109.out 0
    have hfz19_1:=blk_frozen BK109.out 1
    have hfz19_2:=blk_frozen BK109.out 2
    have hfz19_3:=blk_frozen BK109.out 3
    have hfz19_4:=blk_frozen BK109.out 4
    go_wp2_with (first | (go_at_call 62;(with_reducible refine (math_IsInf.calls a0_2 1 t113 _ A18.out).mono ?_);rintro e w' ⟨rfl,⟨nd,rfl⟩⟩))
    go_meet
    case rel => exact ⟨_,(t113),(by first | rfl | (simp;done) | (simp [*];done)),H',⟨by have:=HJ1.out;first | omega | exact Nat.le_refl _⟩,⟨by (with_reducible repeat (first | refine blk_drewN ?_ _ | refine blk_drew ?_ | refine blk_alloc ?_ _));exact BK109.out⟩,⟨by repeat (first | (with_reducible first | exact HB.out | apply below_alloc | apply pw_below_drewN | apply below_drew1 | refine below_set ?_ GE109.out) | exact HB.out)⟩⟩
   case rest =>
    clear HC15
    obtain ⟨kq,x30_14,rfl,HA,HJ14,BK109,HB⟩:=hcut
    cases kq with
    | zero => exact absurd HA.out (by simp [beaconref06_May.j1])
    | succ kj14 =>
     have H:=HA.out
     clear HA
     simp only [beaconref06_May.j1] at H
     by_cases c20:x30_14 = true
     ·subst c20
      have H1:((beaconref06_zero.f a0_3).bind fun t114 => (if t114 = true then (some (a0_4 == 0)) else (some false))) = some r:=by rw [if_pos rfl] at H;exact H
      clear H
      have H:=H1
      clear H1
      replace H:=Option.bind_eq_some_iff.mp H
      obtain ⟨t114,A210,H⟩:=H
      replace H:(if t114 = true then (some (a0_4 == 0)) else (some false)) = some r:=H
      have A21:=Aside0.mk A210
      clear A210
      by_cases c22:t114 = true
      ·subst c22
       have H1:(some (a0_4 == 0)) = some r:=by rw [if_pos rfl] at H;exact H
       clear H
       have H:=H1
       clear H1
       obtain rfl:=Option.some.inj H
       have hcz23_0:wc.cell? ⟨gb109,0,none⟩ = some (.int .i64 a0_0):=(blk_cell BK109.out 0).trans rfl
       have hcz23_1:wc.cell? ⟨gb109,1,none⟩ = some (.int .i64 a0_1):=(blk_cell BK109.out 1).trans rfl
       have hcz23_2:wc.cell? ⟨gb109,2,none⟩ = some (.float .f64 a0_2):=(blk_cell BK109.out 2).trans rfl
       have hcz23_3:wc.cell? ⟨gb109,3,none⟩ = some (.float .f64 a0_3):=(blk_cell BK109.out 3).trans rfl
       have hcz23_4:wc.cell? ⟨gb109,4,none⟩ = some (.int .i64 a0_4):=(blk_cell BK109.out 4).trans rfl
       have hfz23_0:=blk_frozen BK109.out 0
       have hfz23_1:=blk_frozen BK109.out 1
       have hfz23_2:=blk_frozen BK109.out 2
       have hfz23_3:=blk_frozen BK109.out 3
       have hfz23_4:=blk_frozen BK109.out 4
       go_wp2_with (first | ((with_reducible refine gate_callee (f:=121) rfl ?_);refine goesL_ (some 33) rfl rfl Try.func121 (by kernel_rfl) rfl #[.float .f64 a0_3] rfl (by (try simp only [List.map_toArray,List.map_cons,List.map_nil]);first | done | rfl | (simp only [List.length_drop,List.length_take];rfl)) ?_;(with_reducible refine (beaconref06_zero.calls a0_3 true _ A21.out).mono ?_);rintro e w' ⟨rfl,⟨nd,rfl⟩⟩;refine ⟨_,rfl,?_⟩))
       go_ret
       exact ⟨by first | rfl | (simp [errW_none,errW_some] <;> rfl) | (simp [*,errW_none,errW_some] <;> rfl),by repeat (first | (with_reducible first | exact HB.out | apply below_alloc | apply pw_below_drewN | apply below_drew1 | refine below_set ?_ GE109.out) | exact HB.out)⟩
      replace c22:=Bool.eq_false_iff.mpr c22
      subst c22
      have H1:(some false) = some r:=by rw [if_neg (show ¬ (false = true) by decide)] at H;exact H
      clear H
      have H:=H1
      clear H1
      obtain rfl:=Option.some.inj H
      have hcz24_0:wc.cell? ⟨gb109,0,none⟩ = some (.int .i64 a0_0):=(blk_cell BK109.out 0).trans rfl
      have hcz24_1:wc.cell? ⟨gb109,1,none⟩ = some (.int .i64 a0_1):=(blk_cell BK109.out 1).trans rfl
      have hcz24_2:wc.cell? ⟨gb109,2,none⟩ = some (.float .f64 a0_2):=(blk_cell BK109.out 2).trans rfl
      have hcz24_3:wc.cell? ⟨gb109,3,none⟩ = some (.float .f64 a0_3):=(blk_cell BK109.out 3).trans rfl
      have hcz24_4:wc.cell? ⟨gb109,4,none⟩ = some (.int .i64 a0_4):=(blk_cell BK109.out 4).trans rfl
      have hfz24_0:=blk_frozen BK109.out 0
      have hfz24_1:=blk_frozen BK109.out 1
      have hfz24_2:=blk_frozen BK109.out 2
      have hfz24_3:=blk_frozen BK109.out 3
      have hfz24_4:=blk_frozen BK109.out 4
      go_wp2_with (first | ((with_reducible refine gate_callee (f:=121) rfl ?_);refine goesL_ (some 33) rfl rfl Try.func121 (by kernel_rfl) rfl #[.float .f64 a0_3] rfl (by (try simp only [List.map_toArray,List.map_cons,List.map_nil]);first | done | rfl | (simp only [List.length_drop,List.length_take];rfl)) ?_;(with_reducible refine (beaconref06_zero.calls a0_3 false _ A21.out).mono ?_);rintro e w' ⟨rfl,⟨nd,rfl⟩⟩;refine ⟨_,rfl,?_⟩))
      go_ret
      exact ⟨by first | rfl | (simp [errW_none,errW_some] <;> rfl) | (simp [*,errW_none,errW_some] <;> rfl),by repeat (first | (with_reducible first | exact HB.out | apply below_alloc | apply pw_below_drewN | apply below_drew1 | refine below_set ?_ GE109.out) | exact HB.out)⟩
     replace c20:=Bool.eq_false_iff.mpr c20
     subst c20
     have H1:((math_IsInf.f a0_3 1).bind fun t115 => (if t115 = true then (some (a0_4 == 0)) else ((beaconref06_Far.f a0_3).bind fun t116 => (if t116 = true then ((beaconref06_number.f a0_4).bind fun t117 => (some t117)) else (some false))))) = some r:=by rw [if_neg (show ¬ (false = true) by decide)] at H;exact H
     clear H
     have H:=H1
     clear H1
     replace H:=Option.bind_eq_some_iff.mp H
     obtain ⟨t115,A250,H⟩:=H
     replace H:(if t115 = true then (some (a0_4 == 0)) else ((beaconref06_Far.f a0_3).bind fun t116 => (if t116 = true then ((beaconref06_number.f a0_4).bind fun t117 => (some t117)) else (some false)))) = some r:=H
     have A25:=Aside0.mk A250
     clear A250
     by_cases c26:t115 = true
     ·subst c26
      have H1:(some (a0_4 == 0)) = some r:=by rw [if_pos rfl] at H;exact H
      clear H
      have H:=H1
      clear H1
      obtain rfl:=Option.some.inj H
      have hcz27_0:wc.cell? ⟨gb109,0,none⟩ = some (.int .i64 a0_0):=(blk_cell BK109.out 0).trans rfl
      have hcz27_1:wc.cell? ⟨gb109,1,none⟩ = some (.int .i64 a0_1):=(blk_cell BK109.out 1).trans rfl
      have hcz27_2:wc.cell? ⟨gb109,2,none⟩ = some (.float .f64 a0_2):=(blk_cell BK109.out 2).trans rfl
      have hcz27_3:wc.cell? ⟨gb109,3,none⟩ = some (.float .f64 a0_3):=(blk_cell BK109.out 3).trans rfl
      have hcz27_4:wc.cell? ⟨gb109,4,none⟩ = some (.int .i64 a0_4):=(blk_cell BK109.out 4).trans rfl
      have hfz27_0:=blk_frozen BK109.out 0
      have hfz27_1:=blk_frozen BK109.out 1
      have hfz27_2:=blk_frozen BK109.out 2
      have hfz27_3:=blk_frozen BK109.out 3
      have hfz27_4:=blk_frozen BK109.out 4
      go_wp2_with (first | ((with_reducible refine gate_callee (f:=62) rfl ?_);refine goesL_ (some 41) rfl rfl Try.func62 (by kernel_rfl) rfl #[.float .f64 a0_3,.int .i64 1] rfl (by (try simp only [List.map_toArray,List.map_cons,List.map_nil]);first | done | rfl | (simp only [List.length_drop,List.length_take];rfl)) ?_;(with_reducible refine (math_IsInf.calls a0_3 1 true _ A25.out).mono ?_);rintro e w' ⟨rfl,⟨nd,rfl⟩⟩;refine ⟨_,rfl,?_⟩))
      go_ret
      exact ⟨by first | rfl | (simp [errW_none,errW_some] <;> rfl) | (simp [*,errW_none,errW_some] <;> rfl),by repeat (first | (with_reducible first | exact HB.out | apply below_alloc | apply pw_below_drewN | apply below_drew1 | refine below_set ?_ GE109.out) | exact HB.out)⟩
     replace c26:=Bool.eq_false_iff.mpr c26
     subst c26
     have H1:((beaconref06_Far.f a0_3).bind fun t116 => (if t116 = true then ((beaconref06_number.f a0_4).bind fun t117 => (some t117)) else (some false))) = some r:=by rw [if_neg (show ¬ (false = true) by decide)] at H;exact H
     clear H
     have H:=H1
     clear H1
     replace H:=Option.bind_eq_some_iff.mp H
     obtain ⟨t116,A280,H⟩:=H
     replace H:(if t116 = true then ((beaconref06_number.f a0_4).bind fun t117 => (some t117)) else (some false)) = some r:=H
     have A28:=Aside0.mk A280
     clear A280
     by_cases c29:t116 = true
     ·subst c29
      have H1:((beaconref06_number.f a0_4).bind fun t117 => (some t117)) = some r:=by rw [if_pos rfl] at H;exact H
      clear H
      have H:=H1
      clear H1
      replace H:=Option.bind_eq_some_iff.mp H
      obtain ⟨t117,A300,H⟩:=H
      replace H:(some t117) = some r:=H
      have A30:=Aside0.mk A300
      clear A300
      obtain rfl:=Option.some.inj H
      have hcz31_0:wc.cell? ⟨gb109,0,none⟩ = some (.int .i64 a0_0):=(blk_cell BK109.out 0).trans rfl
      have hcz31_1:wc.cell? ⟨gb109,1,none⟩ = some (.int .i64 a0_1):=(blk_cell BK109.out 1).trans rfl
      have hcz31_2:wc.cell? ⟨gb109,2,none⟩ = some (.float .f64 a0_2):=(blk_cell BK109.out 2).trans rfl
      have hcz31_3:wc.cell? ⟨gb109,3,none⟩ = some (.float .f64 a0_3):=(blk_cell BK109.out 3).trans rfl
      have hcz31_4:wc.cell? ⟨gb109,4,none⟩ = some (.int .i64 a0_4):=(blk_cell BK109.out 4).trans rfl
      have hfz31_0:=blk_frozen BK109.out 0
      have hfz31_1:=blk_frozen BK109.out 1
      have hfz31_2:=blk_frozen BK109.out 2
      have hfz31_3:=blk_frozen BK109.out 3
      have hfz31_4:=blk_frozen BK109.out 4
      go_wp2_with (first | ((with_reducible refine gate_callee (f:=62) rfl ?_);refine goesL_ (some 41) rfl rfl Try.func62 (by kernel_rfl) rfl #[.float .f64 a0_3,.int .i64 1] rfl (by (try simp only [List.map_toArray,List.map_cons,List.map_nil]);first | done | rfl | (simp only [List.length_drop,List.length_take];rfl)) ?_;(with_reducible refine (math_IsInf.calls a0_3 1 false _ A25.out).mono ?_);rintro e w' ⟨rfl,⟨nd,rfl⟩⟩;refine ⟨_,rfl,?_⟩) | ((with_reducible refine gate_callee (f:=61) rfl ?_);refine goesL_ (some 47) rfl rfl Try.func61 (by kernel_rfl) rfl #[.float .f64 a0_3] rfl (by (try simp only [List.map_toArray,List.map_cons,List.map_nil]);first | done | rfl | (simp only [List.length_drop,List.length_take];rfl)) ?_;(with_reducible refine (beaconref06_Far.calls a0_3 true _ A28.out).mono ?_);rintro e w' ⟨rfl,⟨nd,rfl⟩⟩;refine ⟨_,rfl,?_⟩) | (go_at_call 120;(with_reducible refine (beaconref06_number.calls a0_4 t117 _ A30.out).mono ?_);rintro e w' ⟨rfl,⟨nd,rfl⟩⟩))
      go_ret
      exact ⟨by first | rfl | (simp [errW_none,errW_some] <;> rfl) | (simp [*,errW_none,errW_some] <;> rfl),by repeat (first | (with_reducible first | exact HB.out | apply below_alloc | apply pw_below_drewN | apply below_drew1 | refine below_set ?_ GE109.out) | exact HB.out)⟩
     replace c29:=Bool.eq_false_iff.mpr c29
     subst c29
     have H1:(some false) = some r:=by rw [if_neg (show ¬ (false = true) by decide)] at H;exact H
     clear H
     have H:=H1
     clear H1
     obtain rfl:=Option.some.inj H
     have hcz32_0:wc.cell? ⟨gb109,0,none⟩ = some (.int .i64 a0_0):=(blk_cell BK109.out 0).trans rfl
     have hcz32_1:wc.cell? ⟨gb109,1,none⟩ = some (.int .i64 a0_1):=(blk_cell BK109.out 1).trans rfl
     have hcz32_2:wc.cell? ⟨gb109,2,none⟩ = some (.float .f64 a0_2):=(blk_cell BK109.out 2).trans rfl
     have hcz32_3:wc.cell? ⟨gb109,3,none⟩ = some (.float .f64 a0_3):=(blk_cell BK109.out 3).trans rfl
     have hcz32_4:wc.cell? ⟨gb109,4,none⟩ = some (.int .i64 a0_4):=(blk_cell BK109.out 4).trans rfl
     have hfz32_0:=blk_frozen BK109.out 0
     have hfz32_1:=blk_frozen BK109.out 1
     have hfz32_2:=blk_frozen BK109.out 2
     have hfz32_3:=blk_frozen BK109.out 3
     have hfz32_4:=blk_frozen BK109.out 4
     go_wp2_with (first | ((with_reducible refine gate_callee (f:=62) rfl ?_);refine goesL_ (some 41) rfl rfl Try.func62 (by kernel_rfl) rfl #[.float .f64 a0_3,.int .i64 1] rfl (by (try simp only [List.map_toArray,List.map_cons,List.map_nil]);first | done | rfl | (simp only [List.length_drop,List.length_take];rfl)) ?_;(with_reducible refine (math_IsInf.calls a0_3 1 false _ A25.out).mono ?_);rintro e w' ⟨rfl,⟨nd,rfl⟩⟩;refine ⟨_,rfl,?_⟩) | ((with_reducible refine gate_callee (f:=61) rfl ?_);refine goesL_ (some 47) rfl rfl Try.func61 (by kernel_rfl) rfl #[.float .f64 a0_3] rfl (by (try simp only [List.map_toArray,List.map_cons,List.map_nil]);first | done | rfl | (simp only [List.length_drop,List.length_take];rfl)) ?_;(with_reducible refine (beaconref06_Far.calls a0_3 false _ A28.out).mono ?_);rintro e w' ⟨rfl,⟨nd,rfl⟩⟩;refine ⟨_,rfl,?_⟩))
     go_ret
     exact ⟨by first | rfl | (simp [errW_none,errW_some] <;> rfl) | (simp [*,errW_none,errW_some] <;> rfl),by repeat (first | (with_reducible first | exact HB.out | apply below_alloc | apply pw_below_drewN | apply below_drew1 | refine below_set ?_ GE109.out) | exact HB.out)⟩
end Go.Proofs.Ytjcnmpkaiopihaa.PA
