/- Printed by a program of this session (wip/tools/patch_print.py and pr.py, over the kit's print): each Go function as a plain Lean function, and that the Go code comes to just its answers. Conditions: those that each theorem names. -/
import Derived.Test.YtjcnmpkaiopihaaZmPAx0
import Derived.Test.YtjcnmpkaiopihaaZmPAx2
import Derived.Test.YtjcnmpkaiopihaaZmPAx6
import Derived.Test.YtjcnmpkaiopihaaZmPAx17
namespace Go.Proofs.Ytjcnmpkaiopihaa.PA
open Go.RowKit Go.Proofs.YtjcnmpkaiopihaaW.PrintWords Go.Proofs.YtjcnmpkaiopihaaW.PrintLast Go.Proofs.YtjcnmpkaiopihaaW.PrintMore
attribute [local go_sem] max2_int min2_int max_two min_two max_three min_three max_four min_four
set_option linter.unusedVariables false
set_option linter.unusedSimpArgs false
def metric_Add.f (a0:Nat) (a1:Nat) (a2:Nat):Option (Nat):=(floatBits .add .f64 a0 a1).bind fun t390 => ((math_IsNaN.f t390).bind fun t391 => (if t391 = true then (some 9221120237041090560) else (if ((FloatKind.f64.format.order t390 a2 == some .lt) = true) then (if (FloatKind.f64.format.order t390 0 == some .eq) = true then (some 0) else (some t390)) else ((math_Inf.f 1).bind fun t392 => (some t392)))))
set_option maxHeartbeats 8000000 in
set_option maxRecDepth 100000 in
theorem metric_Add.calls (a0:Nat) (a1:Nat) (a2:Nat) (r:Nat) (w:World) (h:metric_Add.f a0 a1 a2 = some r) :
  Calls Try.prog 41 #[.float .f64 a0,.float .f64 a1,.float .f64 a2] w fun e w' => e = .returned (.float .f64 r) ∧ Drawn0 w w':=by
 have hX72:=run_Float64frombits Try.func72 (by kernel_rfl) (by kernel_rfl) (by kernel_rfl) (by kernel_rfl)
 have H:((floatBits .add .f64 a0 a1).bind fun t390 => ((math_IsNaN.f t390).bind fun t391 => (if t391 = true then (some 9221120237041090560) else (if ((FloatKind.f64.format.order t390 a2 == some .lt) = true) then (if (FloatKind.f64.format.order t390 0 == some .eq) = true then (some 0) else (some t390)) else ((math_Inf.f 1).bind fun t392 => (some t392)))))) = some r:=h
 clear h
 replace H:=Option.bind_eq_some_iff.mp H
 obtain ⟨t390,A40,H⟩:=H
 replace H:((math_IsNaN.f t390).bind fun t391 => (if t391 = true then (some 9221120237041090560) else (if ((FloatKind.f64.format.order t390 a2 == some .lt) = true) then (if (FloatKind.f64.format.order t390 0 == some .eq) = true then (some 0) else (some t390)) else ((math_Inf.f 1).bind fun t392 => (some t392))))) = some r:=H
 have A4f:∀ W_:World,(binOp .add 23 (.float .f64 a0) (.float .f64 a1)).run Try.prog W_ = .ok (.float .f64 t390) W_:=fun W_ => run_float_arith W_ .add 23 .f64 _ _ _ A40
 have A4:=Aside0.mk A40
 clear A40
 replace H:=Option.bind_eq_some_iff.mp H
 obtain ⟨t391,A50,H⟩:=H
 replace H:(if t391 = true then (some 9221120237041090560) else (if ((FloatKind.f64.format.order t390 a2 == some .lt) = true) then (if (FloatKind.f64.format.order t390 0 == some .eq) = true then (some 0) else (some t390)) else ((math_Inf.f 1).bind fun t392 => (some t392)))) = some r:=H
 have A5:=Aside0.mk A50
 clear A50
 by_cases c6:t391 = true
 ·subst c6
  have H1:(some 9221120237041090560) = some r:=by rw [if_pos rfl] at H;exact H
  clear H
  have H:=H1
  clear H1
  obtain rfl:=Option.some.inj H
  go_enter Try.func41,Try.ntmps41
  go_wp2_with (first | ((with_reducible refine gate_callee (f:=73) rfl ?_);refine goesL_ (some 13) rfl rfl Try.func73 (by kernel_rfl) rfl #[.float .f64 t390] rfl (by (try simp only [List.map_toArray,List.map_cons,List.map_nil]);first | done | rfl | (simp only [List.length_drop,List.length_take];rfl)) ?_;(with_reducible refine (math_IsNaN.calls t390 true _ A5.out).mono ?_);rintro e w' ⟨rfl,⟨nd,rfl⟩⟩;refine ⟨_,rfl,?_⟩))
  go_ret
  exact ⟨by first | rfl | (simp;done) | (simp [*];done),by repeat (first | exact Drawn0.refl _ | apply Drawn0.step)⟩
 replace c6:=Bool.eq_false_iff.mpr c6
 subst c6
 have H1:(if ((FloatKind.f64.format.order t390 a2 == some .lt) = true) then (if (FloatKind.f64.format.order t390 0 == some .eq) = true then (some 0) else (some t390)) else ((math_Inf.f 1).bind fun t392 => (some t392))) = some r:=by rw [if_neg (show ¬ (false = true) by decide)] at H;exact H
 clear H
 have H:=H1
 clear H1
 by_cases c7:((FloatKind.f64.format.order t390 a2 == some .lt) = true)
 ·rw [if_pos c7] at H
  have c7b0:(FloatKind.f64.format.order t390 a2 == some .lt) = true:=c7
  (try (have c7b1:decide (FloatKind.f64.format.order t390 a2 = some .lt) = true:=by simpa using c7))
  (try (have c7b2:(FloatKind.f64.format.order t390 a2 == some .lt) = true:=by simpa using c7))
  clear c7
  by_cases c8:(FloatKind.f64.format.order t390 0 == some .eq) = true
  ·rw [if_pos c8] at H
   have c8b0:(FloatKind.f64.format.order t390 0 == some .eq) = true:=c8
   (try (have c8b1:decide (FloatKind.f64.format.order t390 0 = some .eq) = true:=by simpa using c8))
   (try (have c8b2:(FloatKind.f64.format.order t390 0 == some .eq) = true:=by simpa using c8))
   clear c8
   obtain rfl:=Option.some.inj H
   go_enter Try.func41,Try.ntmps41
   go_wp2_with (first | ((with_reducible refine gate_callee (f:=73) rfl ?_);refine goesL_ (some 13) rfl rfl Try.func73 (by kernel_rfl) rfl #[.float .f64 t390] rfl (by (try simp only [List.map_toArray,List.map_cons,List.map_nil]);first | done | rfl | (simp only [List.length_drop,List.length_take];rfl)) ?_;(with_reducible refine (math_IsNaN.calls t390 false _ A5.out).mono ?_);rintro e w' ⟨rfl,⟨nd,rfl⟩⟩;refine ⟨_,rfl,?_⟩))
   go_ret
   exact ⟨by first | rfl | (simp;done) | (simp [*];done),by repeat (first | exact Drawn0.refl _ | apply Drawn0.step)⟩
  rw [if_neg c8] at H
  have c8b0:(FloatKind.f64.format.order t390 0 == some .eq) = false:=by simpa using c8
  (try (have c8b1:decide (FloatKind.f64.format.order t390 0 = some .eq) = false:=by simpa using c8))
  (try (have c8b2:(FloatKind.f64.format.order t390 0 == some .eq) = false:=by simpa using c8))
  (try (have c8b3:¬ (FloatKind.f64.format.order t390 0 = some .eq):=by simpa using c8))
  clear c8
  obtain rfl:=Option.some.inj H
  go_enter Try.func41,Try.ntmps41
  go_wp2_with (first | ((with_reducible refine gate_callee (f:=73) rfl ?_);refine goesL_ (some 13) rfl rfl Try.func73 (by kernel_rfl) rfl #[.float .f64 t390] rfl (by (try simp only [List.map_toArray,List.map_cons,List.map_nil]);first | done | rfl | (simp only [List.length_drop,List.length_take];rfl)) ?_;(with_reducible refine (math_IsNaN.calls t390 false _ A5.out).mono ?_);rintro e w' ⟨rfl,⟨nd,rfl⟩⟩;refine ⟨_,rfl,?_⟩))
  go_ret
  exact ⟨by first | rfl | (simp;done) | (simp [*];done),by repeat (first | exact Drawn0.refl _ | apply Drawn0.step)⟩
 rw [if_neg c7] at H
 have c7b0:(FloatKind.f64.format.order t390 a2 == some .lt) = false:=by simpa using c7
 (try (have c7b1:decide (FloatKind.f64.format.order t390 a2 = some .lt) = false:=by simpa using c7))
 (try (have c7b2:(FloatKind.f64.format.order t390 a2 == some .lt) = false:=by simpa using c7))
 (try (have c7b3:¬ (FloatKind.f64.format.order t390 a2 = some .lt):=by simpa using c7))
 clear c7
 replace H:=Option.bind_eq_some_iff.mp H
 obtain ⟨t392,A90,H⟩:=H
 replace H:(some t392) = some r:=H
 have A9:=Aside0.mk A90
 clear A90
 obtain rfl:=Option.some.inj H
 go_enter Try.func41,Try.ntmps41
 go_wp2_with (first | ((with_reducible refine gate_callee (f:=73) rfl ?_);refine goesL_ (some 13) rfl rfl Try.func73 (by kernel_rfl) rfl #[.float .f64 t390] rfl (by (try simp only [List.map_toArray,List.map_cons,List.map_nil]);first | done | rfl | (simp only [List.length_drop,List.length_take];rfl)) ?_;(with_reducible refine (math_IsNaN.calls t390 false _ A5.out).mono ?_);rintro e w' ⟨rfl,⟨nd,rfl⟩⟩;refine ⟨_,rfl,?_⟩) | ((with_reducible refine gate_callee (f:=40) rfl ?_);refine goesL_ (some 20) rfl rfl Try.func40 (by kernel_rfl) rfl #[.int .i64 1] rfl (by (try simp only [List.map_toArray,List.map_cons,List.map_nil]);first | done | rfl | (simp only [List.length_drop,List.length_take];rfl)) ?_;(with_reducible refine (math_Inf.calls 1 t392 _ A9.out).mono ?_);rintro e w' ⟨rfl,⟨nd,rfl⟩⟩;refine ⟨_,rfl,?_⟩))
 go_ret
 exact ⟨by first | rfl | (simp;done) | (simp [*];done),by repeat (first | exact Drawn0.refl _ | apply Drawn0.step)⟩
def metric_Weight.f (a0:Nat):Option (Int):=(metric_within.f a0 4697254411347427328).bind fun t393 => (some t393)
set_option maxHeartbeats 8000000 in
set_option maxRecDepth 100000 in
theorem metric_Weight.calls (a0:Nat) (r:Int) (w:World) (h:metric_Weight.f a0 = some r) :
  Calls Try.prog 50 #[.float .f64 a0] w fun e w' => e = .returned (.int .i64 r) ∧ Drawn0 w w':=by
 have H:((metric_within.f a0 4697254411347427328).bind fun t393 => (some t393)) = some r:=h
 clear h
 replace H:=Option.bind_eq_some_iff.mp H
 obtain ⟨t393,A20,H⟩:=H
 replace H:(some t393) = some r:=H
 have A2:=Aside0.mk A20
 clear A20
 obtain rfl:=Option.some.inj H
 go_enter Try.func50,Try.ntmps50
 go_wp2_with (first | ((with_reducible refine gate_callee (f:=68) rfl ?_);refine goesL_ (some 4) rfl rfl Try.func68 (by kernel_rfl) rfl #[.float .f64 a0,.float .f64 4697254411347427328] rfl (by (try simp only [List.map_toArray,List.map_cons,List.map_nil]);first | done | rfl | (simp only [List.length_drop,List.length_take];rfl)) ?_;(with_reducible refine (metric_within.calls a0 4697254411347427328 t393 _ A2.out).mono ?_);rintro e w' ⟨rfl,⟨nd,rfl⟩⟩;refine ⟨_,rfl,?_⟩))
 go_ret
 exact ⟨by first | rfl | (simp;done) | (simp [*];done),by repeat (first | exact Drawn0.refl _ | apply Drawn0.step)⟩
end Go.Proofs.Ytjcnmpkaiopihaa.PA
