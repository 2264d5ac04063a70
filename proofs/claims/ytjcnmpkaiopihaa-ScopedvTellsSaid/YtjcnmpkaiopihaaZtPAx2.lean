/- Printed by a program of this session (wip/tools/patch_print.py and pr.py, over the kit's print): each Go function as a plain Lean function, and that the Go code comes to just its answers. Conditions: those that each theorem names. -/
import Derived.Test.YtjcnmpkaiopihaaZtPAx0
namespace Go.Proofs.Ytjcnmpkaiopihaa.PA
open Go.RowKit Go.Proofs.YtjcnmpkaiopihaaW.PrintWords Go.Proofs.YtjcnmpkaiopihaaW.PrintLast Go.Proofs.YtjcnmpkaiopihaaW.PrintMore
attribute [local go_sem] max2_int min2_int max_two min_two max_three min_three max_four min_four
set_option linter.unusedVariables false
set_option linter.unusedSimpArgs false
def math_Abs.f (a0:Nat):Option (Nat):=some ((Go.bits .andNot .u64 (a0:Int) 9223372036854775808).toNat)
set_option maxHeartbeats 8000000 in
set_option maxRecDepth 100000 in
theorem math_Abs.calls (a0:Nat) (r:Nat) (w:World) (h:math_Abs.f a0 = some r) :
  Calls Try.prog 86 #[.float .f64 a0] w fun e w' => e = .returned (.float .f64 r) ∧ Drawn0 w w':=by
 have hX39:=run_Float64bits Try.func39 (by kernel_rfl) (by kernel_rfl) (by kernel_rfl) (by kernel_rfl)
 have hX72:=run_Float64frombits Try.func72 (by kernel_rfl) (by kernel_rfl) (by kernel_rfl) (by kernel_rfl)
 have H:(some ((Go.bits .andNot .u64 (a0:Int) 9223372036854775808).toNat)) = some r:=h
 clear h
 obtain rfl:=Option.some.inj H
 go_enter Try.func86,Try.ntmps86
 go_wp2
 go_ret
 exact ⟨by first | rfl | (simp;done) | (simp [*];done),by repeat (first | exact Drawn0.refl _ | apply Drawn0.step)⟩
def math_IsInf.f (a0:Nat) (a1:Int):Option (Bool):=if a1 = 0 then ((math_Abs.f a0).bind fun t101 => (some (FloatKind.f64.format.order t101 9218868437227405311 == some .gt))) else (if a1 < 0 then (some (FloatKind.f64.format.order (Op.negFloat .f64 a0) 9218868437227405311 == some .gt)) else (some (FloatKind.f64.format.order a0 9218868437227405311 == some .gt)))
set_option maxHeartbeats 8000000 in
set_option maxRecDepth 100000 in
theorem math_IsInf.calls (a0:Nat) (a1:Int) (r:Bool) (w:World) (h:math_IsInf.f a0 a1 = some r) :
  Calls Try.prog 62 #[.float .f64 a0,.int .i64 a1] w fun e w' => e = .returned (.bool r) ∧ Drawn0 w w':=by
 have H:(if a1 = 0 then ((math_Abs.f a0).bind fun t101 => (some (FloatKind.f64.format.order t101 9218868437227405311 == some .gt))) else (if a1 < 0 then (some (FloatKind.f64.format.order (Op.negFloat .f64 a0) 9218868437227405311 == some .gt)) else (some (FloatKind.f64.format.order a0 9218868437227405311 == some .gt)))) = some r:=h
 clear h
 by_cases c3:a1 = 0
 ·rw [if_pos c3] at H
  have c3b0:(a1 == 0) = true:=beq_iff_eq.mpr c3
  have c3b1:(a1 != 0) = false:=bne_eq_false_iff_eq.mpr c3
  clear c3
  replace H:=Option.bind_eq_some_iff.mp H
  obtain ⟨t101,A40,H⟩:=H
  replace H:(some (FloatKind.f64.format.order t101 9218868437227405311 == some .gt)) = some r:=H
  have A4:=Aside0.mk A40
  clear A40
  obtain rfl:=Option.some.inj H
  go_enter Try.func62,Try.ntmps62
  go_wp2_with (first | ((with_reducible refine gate_callee (f:=86) rfl ?_);refine goesL_ (some 8) rfl rfl Try.func86 (by kernel_rfl) rfl #[.float .f64 a0] rfl (by (try simp only [List.map_toArray,List.map_cons,List.map_nil]);first | done | rfl | (simp only [List.length_drop,List.length_take];rfl)) ?_;(with_reducible refine (math_Abs.calls a0 t101 _ A4.out).mono ?_);rintro e w' ⟨rfl,⟨nd,rfl⟩⟩;refine ⟨_,rfl,?_⟩))
  go_ret
  exact ⟨by first | rfl | (simp;done) | (simp [*];done),by repeat (first | exact Drawn0.refl _ | apply Drawn0.step)⟩
 rw [if_neg c3] at H
 have c3b0:(a1 == 0) = false:=beq_eq_false_iff_ne.mpr c3
 have c3b1:(a1 != 0) = true:=bne_iff_ne.mpr c3
 by_cases c5:a1 < 0
 ·rw [if_pos c5] at H
  have c5b0:decide (a1 < 0) = true:=decide_eq_true c5
  clear c5
  obtain rfl:=Option.some.inj H
  go_enter Try.func62,Try.ntmps62
  go_wp2
  go_ret
  exact ⟨by first | rfl | (simp;done) | (simp [*];done),by repeat (first | exact Drawn0.refl _ | apply Drawn0.step)⟩
 rw [if_neg c5] at H
 have c5b0:decide (a1 < 0) = false:=decide_eq_false c5
 clear c5
 obtain rfl:=Option.some.inj H
 go_enter Try.func62,Try.ntmps62
 go_wp2
 go_ret
 exact ⟨by first | rfl | (simp;done) | (simp [*];done),by repeat (first | exact Drawn0.refl _ | apply Drawn0.step)⟩
def math_Trunc.f (a0:Nat):Option (Nat):=(archTruncBits a0).bind fun t104 => (some t104)
set_option maxHeartbeats 8000000 in
set_option maxRecDepth 100000 in
theorem math_Trunc.calls (a0:Nat) (r:Nat) (w:World) (h:math_Trunc.f a0 = some r) :
  Calls Try.prog 85 #[.float .f64 a0] w fun e w' => e = .returned (.float .f64 r) ∧ Drawn0 w w':=by
 have H:((archTruncBits a0).bind fun t104 => (some t104)) = some r:=h
 clear h
 replace H:=Option.bind_eq_some_iff.mp H
 obtain ⟨t104,A20,H⟩:=H
 replace H:(some t104) = some r:=H
 have A2f:∀ W_:World,(callFunc 118 #[.float .f64 a0]).run Try.prog W_ = .ok (.value (.float .f64 t104)) W_:=fun W_ => run_archTruncBits Try.func118 (by kernel_rfl) (by kernel_rfl) (by kernel_rfl) (by kernel_rfl) _ _ A20 W_
 have A2:=Aside0.mk A20
 clear A20
 obtain rfl:=Option.some.inj H
 go_enter Try.func85,Try.ntmps85
 go_wp2
 go_ret
 exact ⟨by first | rfl | (simp;done) | (simp [*];done),by repeat (first | exact Drawn0.refl _ | apply Drawn0.step)⟩
def beaconref06_Far.f (a0:Nat):Option (Bool):=(math_IsInf.f a0 1).bind fun t105 => (if t105 = true then (some true) else (if (a0:Int) = 0 then (some true) else (if (FloatKind.f64.format.order a0 0 == some .gt) = true then (if (FloatKind.f64.format.order a0 4742290407621132288 == some .lt) = true then ((floatBits .mul .f64 a0 4616189618054758400).bind fun t106 => ((math_Trunc.f t106).bind fun t107 => (some (FloatKind.f64.format.order t106 t107 == some .eq)))) else (some false)) else (some false))))
set_option maxHeartbeats 8000000 in
set_option maxRecDepth 100000 in
theorem beaconref06_Far.calls (a0:Nat) (r:Bool) (w:World) (h:beaconref06_Far.f a0 = some r) :
  Calls Try.prog 61 #[.float .f64 a0] w fun e w' => e = .returned (.bool r) ∧ Drawn0 w w':=by
 have hX39:=run_Float64bits Try.func39 (by kernel_rfl) (by kernel_rfl) (by kernel_rfl) (by kernel_rfl)
 have H:((math_IsInf.f a0 1).bind fun t105 => (if t105 = true then (some true) else (if (a0:Int) = 0 then (some true) else (if (FloatKind.f64.format.order a0 0 == some .gt) = true then (if (FloatKind.f64.format.order a0 4742290407621132288 == some .lt) = true then ((floatBits .mul .f64 a0 4616189618054758400).bind fun t106 => ((math_Trunc.f t106).bind fun t107 => (some (FloatKind.f64.format.order t106 t107 == some .eq)))) else (some false)) else (some false))))) = some r:=h
 clear h
 replace H:=Option.bind_eq_some_iff.mp H
 obtain ⟨t105,A20,H⟩:=H
 replace H:(if t105 = true then (some true) else (if (a0:Int) = 0 then (some true) else (if (FloatKind.f64.format.order a0 0 == some .gt) = true then (if (FloatKind.f64.format.order a0 4742290407621132288 == some .lt) = true then ((floatBits .mul .f64 a0 4616189618054758400).bind fun t106 => ((math_Trunc.f t106).bind fun t107 => (some (FloatKind.f64.format.order t106 t107 == some .eq)))) else (some false)) else (some false)))) = some r:=H
 have A2:=Aside0.mk A20
 clear A20
 by_cases c3:t105 = true
 ·subst c3
  have H1:(some true) = some r:=by rw [if_pos rfl] at H;exact H
  clear H
  have H:=H1
  clear H1
  obtain rfl:=Option.some.inj H
  go_enter Try.func61,Try.ntmps61
  go_wp2_with (first | ((with_reducible refine gate_callee (f:=62) rfl ?_);refine goesL_ (some 4) rfl rfl Try.func62 (by kernel_rfl) rfl #[.float .f64 a0,.int .i64 1] rfl (by (try simp only [List.map_toArray,List.map_cons,List.map_nil]);first | done | rfl | (simp only [List.length_drop,List.length_take];rfl)) ?_;(with_reducible refine (math_IsInf.calls a0 1 true _ A2.out).mono ?_);rintro e w' ⟨rfl,⟨nd,rfl⟩⟩;refine ⟨_,rfl,?_⟩))
  go_ret
  exact ⟨by first | rfl | (simp;done) | (simp [*];done),by repeat (first | exact Drawn0.refl _ | apply Drawn0.step)⟩
 replace c3:=Bool.eq_false_iff.mpr c3
 subst c3
 have H1:(if (a0:Int) = 0 then (some true) else (if (FloatKind.f64.format.order a0 0 == some .gt) = true then (if (FloatKind.f64.format.order a0 4742290407621132288 == some .lt) = true then ((floatBits .mul .f64 a0 4616189618054758400).bind fun t106 => ((math_Trunc.f t106).bind fun t107 => (some (FloatKind.f64.format.order t106 t107 == some .eq)))) else (some false)) else (some false))) = some r:=by rw [if_neg (show ¬ (false = true) by decide)] at H;exact H
 clear H
 have H:=H1
 clear H1
 by_cases c4:(a0:Int) = 0
 ·rw [if_pos c4] at H
  have c4b0:((a0:Int) == 0) = true:=beq_iff_eq.mpr c4
  have c4b1:((a0:Int) != 0) = false:=bne_eq_false_iff_eq.mpr c4
  clear c4
  obtain rfl:=Option.some.inj H
  go_enter Try.func61,Try.ntmps61
  go_wp2_with (first | ((with_reducible refine gate_callee (f:=62) rfl ?_);refine goesL_ (some 4) rfl rfl Try.func62 (by kernel_rfl) rfl #[.float .f64 a0,.int .i64 1] rfl (by (try simp only [List.map_toArray,List.map_cons,List.map_nil]);first | done | rfl | (simp only [List.length_drop,List.length_take];rfl)) ?_;(with_reducible refine (math_IsInf.calls a0 1 false _ A2.out).mono ?_);rintro e w' ⟨rfl,⟨nd,rfl⟩⟩;refine ⟨_,rfl,?_⟩))
  go_ret
  exact ⟨by first | rfl | (simp;done) | (simp [*];done),by repeat (first | exact Drawn0.refl _ | apply Drawn0.step)⟩
 rw [if_neg c4] at H
 have c4b0:((a0:Int) == 0) = false:=beq_eq_false_iff_ne.mpr c4
 have c4b1:((a0:Int) != 0) = true:=bne_iff_ne.mpr c4
 by_cases c5:(FloatKind.f64.format.order a0 0 == some .gt) = true
 rotate_left
 ·rw [if_neg c5] at H
  have c5b0:(FloatKind.f64.format.order a0 0 == some .gt) = false:=by simpa using c5
  (try (have c5b1:decide (FloatKind.f64.format.order a0 0 = some .gt) = false:=by simpa using c5))
  (try (have c5b2:(FloatKind.f64.format.order a0 0 == some .gt) = false:=by simpa using c5))
  (try (have c5b3:¬ (FloatKind.f64.format.order a0 0 = some .gt):=by simpa using c5))
  clear c5
  obtain rfl:=Option.some.inj H
  go_enter Try.func61,Try.ntmps61
  go_wp2_with (first | ((with_reducible refine gate_callee (f:=62) rfl ?_);refine goesL_ (some 4) rfl rfl Try.func62 (by kernel_rfl) rfl #[.float .f64 a0,.int .i64 1] rfl (by (try simp only [List.map_toArray,List.map_cons,List.map_nil]);first | done | rfl | (simp only [List.length_drop,List.length_take];rfl)) ?_;(with_reducible refine (math_IsInf.calls a0 1 false _ A2.out).mono ?_);rintro e w' ⟨rfl,⟨nd,rfl⟩⟩;refine ⟨_,rfl,?_⟩))
  go_ret
  exact ⟨by first | rfl | (simp;done) | (simp [*];done),by repeat (first | exact Drawn0.refl _ | apply Drawn0.step)⟩
 rw [if_pos c5] at H
 have c5b0:(FloatKind.f64.format.order a0 0 == some .gt) = true:=c5
 (try (have c5b1:decide (FloatKind.f64.format.order a0 0 = some .gt) = true:=by simpa using c5))
 (try (have c5b2:(FloatKind.f64.format.order a0 0 == some .gt) = true:=by simpa using c5))
 clear c5
 by_cases c6:(FloatKind.f64.format.order a0 4742290407621132288 == some .lt) = true
 ·rw [if_pos c6] at H
  have c6b0:(FloatKind.f64.format.order a0 4742290407621132288 == some .lt) = true:=c6
  (try (have c6b1:decide (FloatKind.f64.format.order a0 4742290407621132288 = some .lt) = true:=by simpa using c6))
  (try (have c6b2:(FloatKind.f64.format.order a0 4742290407621132288 == some .lt) = true:=by simpa using c6))
  clear c6
  replace H:=Option.bind_eq_some_iff.mp H
  obtain ⟨t106,A70,H⟩:=H
  replace H:((math_Trunc.f t106).bind fun t107 => (some (FloatKind.f64.format.order t106 t107 == some .eq))) = some r:=H
  have A7f:∀ W_:World,(binOp .mul 23 (.float .f64 a0) (.float .f64 4616189618054758400)).run Try.prog W_ = .ok (.float .f64 t106) W_:=fun W_ => run_float_arith W_ .mul 23 .f64 _ _ _ A70
  have A7:=Aside0.mk A70
  clear A70
  replace H:=Option.bind_eq_some_iff.mp H
  obtain ⟨t107,A80,H⟩:=H
  replace H:(some (FloatKind.f64.format.order t106 t107 == some .eq)) = some r:=H
  have A8:=Aside0.mk A80
  clear A80
  obtain rfl:=Option.some.inj H
  go_enter Try.func61,Try.ntmps61
  go_wp2_with (first | ((with_reducible refine gate_callee (f:=62) rfl ?_);refine goesL_ (some 4) rfl rfl Try.func62 (by kernel_rfl) rfl #[.float .f64 a0,.int .i64 1] rfl (by (try simp only [List.map_toArray,List.map_cons,List.map_nil]);first | done | rfl | (simp only [List.length_drop,List.length_take];rfl)) ?_;(with_reducible refine (math_IsInf.calls a0 1 false _ A2.out).mono ?_);rintro e w' ⟨rfl,⟨nd,rfl⟩⟩;refine ⟨_,rfl,?_⟩) | (go_at_call 85;(with_reducible refine (math_Trunc.calls t106 t107 _ A8.out).mono ?_);rintro e w' ⟨rfl,⟨nd,rfl⟩⟩))
  go_ret
  exact ⟨by first | rfl | (simp;done) | (simp [*];done),by repeat (first | exact Drawn0.refl _ | apply Drawn0.step)⟩
 rw [if_neg c6] at H
 have c6b0:(FloatKind.f64.format.order a0 4742290407621132288 == some .lt) = false:=by simpa using c6
 (try (have c6b1:decide (FloatKind.f64.format.order a0 4742290407621132288 = some .lt) = false:=by simpa using c6))
 (try (have c6b2:(FloatKind.f64.format.order a0 4742290407621132288 == some .lt) = false:=by simpa using c6))
 (try (have c6b3:¬ (FloatKind.f64.format.order a0 4742290407621132288 = some .lt):=by simpa using c6))
 clear c6
 obtain rfl:=Option.some.inj H
 go_enter Try.func61,Try.ntmps61
 go_wp2_with (first | ((with_reducible refine gate_callee (f:=62) rfl ?_);refine goesL_ (some 4) rfl rfl Try.func62 (by kernel_rfl) rfl #[.float .f64 a0,.int .i64 1] rfl (by (try simp only [List.map_toArray,List.map_cons,List.map_nil]);first | done | rfl | (simp only [List.length_drop,List.length_take];rfl)) ?_;(with_reducible refine (math_IsInf.calls a0 1 false _ A2.out).mono ?_);rintro e w' ⟨rfl,⟨nd,rfl⟩⟩;refine ⟨_,rfl,?_⟩))
 go_ret
 exact ⟨by first | rfl | (simp;done) | (simp [*];done),by repeat (first | exact Drawn0.refl _ | apply Drawn0.step)⟩
def beaconref02_CheckId.f (a0:Int):Option (Int):=if a0 < 1 then (some 20) else (if a0 > 2147483647 then (some 20) else (some 0))
set_option maxHeartbeats 8000000 in
set_option maxRecDepth 100000 in
theorem beaconref02_CheckId.calls (a0:Int) (r:Int) (w:World) (h:beaconref02_CheckId.f a0 = some r) :
  Calls Try.prog 82 #[.int .i64 a0] w fun e w' => e = .returned (.int .i64 r) ∧ Drawn0 w w':=by
 have H:(if a0 < 1 then (some 20) else (if a0 > 2147483647 then (some 20) else (some 0))) = some r:=h
 clear h
 by_cases c2:a0 < 1
 ·rw [if_pos c2] at H
  have c2b0:decide (a0 < 1) = true:=decide_eq_true c2
  clear c2
  obtain rfl:=Option.some.inj H
  go_enter Try.func82,Try.ntmps82
  go_wp2
  go_ret
  exact ⟨by first | rfl | (simp;done) | (simp [*];done),by repeat (first | exact Drawn0.refl _ | apply Drawn0.step)⟩
 rw [if_neg c2] at H
 have c2b0:decide (a0 < 1) = false:=decide_eq_false c2
 clear c2
 by_cases c3:a0 > 2147483647
 ·rw [if_pos c3] at H
  have c3b0:decide (2147483647 < a0) = true:=decide_eq_true c3
  clear c3
  obtain rfl:=Option.some.inj H
  go_enter Try.func82,Try.ntmps82
  go_wp2
  go_ret
  exact ⟨by first | rfl | (simp;done) | (simp [*];done),by repeat (first | exact Drawn0.refl _ | apply Drawn0.step)⟩
 rw [if_neg c3] at H
 have c3b0:decide (2147483647 < a0) = false:=decide_eq_false c3
 clear c3
 obtain rfl:=Option.some.inj H
 go_enter Try.func82,Try.ntmps82
 go_wp2
 go_ret
 exact ⟨by first | rfl | (simp;done) | (simp [*];done),by repeat (first | exact Drawn0.refl _ | apply Drawn0.step)⟩
end Go.Proofs.Ytjcnmpkaiopihaa.PA
