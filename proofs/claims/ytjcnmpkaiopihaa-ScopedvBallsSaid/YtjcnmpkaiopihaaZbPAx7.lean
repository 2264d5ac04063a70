/- Printed by a program of this session (wip/tools/patch_print.py and pr.py, over the kit's print): each Go function as a plain Lean function, and that the Go code comes to just its answers. Conditions: those that each theorem names. -/
import Derived.Test.YtjcnmpkaiopihaaZbMn
import Derived.Test.YtjcnmpkaiopihaaZbPAz
import Derived.Test.YtjcnmpkaiopihaaZbPAx4
import Derived.Test.YtjcnmpkaiopihaaZbPAx6
namespace Go.Proofs.Ytjcnmpkaiopihaa.PA
open Go.RowKit Go.Proofs.YtjcnmpkaiopihaaW.PrintWords Go.Proofs.YtjcnmpkaiopihaaW.PrintLast Go.Proofs.YtjcnmpkaiopihaaW.PrintMore
attribute [local go_sem] max2_int min2_int max_two min_two max_three min_three max_four min_four
set_option linter.unusedVariables false
set_option linter.unusedSimpArgs false
def beaconref01_Nan.f  : Option (Nat):=some 9221120237041090560
set_option maxHeartbeats 8000000 in
set_option maxRecDepth 100000 in
theorem beaconref01_Nan.calls  (r:Nat) (w:World) (h:beaconref01_Nan.f  = some r) :
  Calls Try.prog 80 #[] w fun e w' => e = .returned (.float .f64 r) ∧ Drawn0 w w':=by
 have hX72:=run_Float64frombits Try.func72 (by kernel_rfl) (by kernel_rfl) (by kernel_rfl) (by kernel_rfl)
 have H:(some 9221120237041090560) = some r:=h
 clear h
 obtain rfl:=Option.some.inj H
 go_enter Try.func80,Try.ntmps80
 go_wp2
 go_ret
 exact ⟨by first | rfl | (simp;done) | (simp [*];done),by repeat (first | exact Drawn0.refl _ | apply Drawn0.step)⟩
def beaconref01_Add.f (a0:Nat) (a1:Nat) (a2:Nat):Option (Nat):=(floatBits .add .f64 a0 a1).bind fun t203 => ((beaconref01_nan.f t203).bind fun t204 => (if t204 = true then ((beaconref01_Nan.f).bind fun t205 => (some t205)) else (if (FloatKind.f64.format.order t203 a2 == some .lt) = true then (if (FloatKind.f64.format.order t203 0 == some .eq) = true then (some 0) else (some t203)) else ((math_Inf.f 1).bind fun t206 => (some t206)))))
set_option maxHeartbeats 8000000 in
set_option maxRecDepth 100000 in
theorem beaconref01_Add.calls (a0:Nat) (a1:Nat) (a2:Nat) (r:Nat) (w:World) (h:beaconref01_Add.f a0 a1 a2 = some r) :
  Calls Try.prog 47 #[.float .f64 a0,.float .f64 a1,.float .f64 a2] w fun e w' => e = .returned (.float .f64 r) ∧ Drawn0 w w':=by
 have H:((floatBits .add .f64 a0 a1).bind fun t203 => ((beaconref01_nan.f t203).bind fun t204 => (if t204 = true then ((beaconref01_Nan.f).bind fun t205 => (some t205)) else (if (FloatKind.f64.format.order t203 a2 == some .lt) = true then (if (FloatKind.f64.format.order t203 0 == some .eq) = true then (some 0) else (some t203)) else ((math_Inf.f 1).bind fun t206 => (some t206)))))) = some r:=h
 clear h
 replace H:=Option.bind_eq_some_iff.mp H
 obtain ⟨t203,A40,H⟩:=H
 replace H:((beaconref01_nan.f t203).bind fun t204 => (if t204 = true then ((beaconref01_Nan.f).bind fun t205 => (some t205)) else (if (FloatKind.f64.format.order t203 a2 == some .lt) = true then (if (FloatKind.f64.format.order t203 0 == some .eq) = true then (some 0) else (some t203)) else ((math_Inf.f 1).bind fun t206 => (some t206))))) = some r:=H
 have A4f:∀ W_:World,(binOp .add 23 (.float .f64 a0) (.float .f64 a1)).run Try.prog W_ = .ok (.float .f64 t203) W_:=fun W_ => run_float_arith W_ .add 23 .f64 _ _ _ A40
 have A4:=Aside0.mk A40
 clear A40
 replace H:=Option.bind_eq_some_iff.mp H
 obtain ⟨t204,A50,H⟩:=H
 replace H:(if t204 = true then ((beaconref01_Nan.f).bind fun t205 => (some t205)) else (if (FloatKind.f64.format.order t203 a2 == some .lt) = true then (if (FloatKind.f64.format.order t203 0 == some .eq) = true then (some 0) else (some t203)) else ((math_Inf.f 1).bind fun t206 => (some t206)))) = some r:=H
 have A5:=Aside0.mk A50
 clear A50
 by_cases c6:t204 = true
 ·subst c6
  have H1:((beaconref01_Nan.f).bind fun t205 => (some t205)) = some r:=by rw [if_pos rfl] at H;exact H
  clear H
  have H:=H1
  clear H1
  replace H:=Option.bind_eq_some_iff.mp H
  obtain ⟨t205,A70,H⟩:=H
  replace H:(some t205) = some r:=H
  have A7:=Aside0.mk A70
  clear A70
  obtain rfl:=Option.some.inj H
  go_enter Try.func47,Try.ntmps47
  go_wp2_with (first | ((with_reducible refine gate_callee (f:=79) rfl ?_);refine goesL_ (some 12) rfl rfl Try.func79 (by kernel_rfl) rfl #[.float .f64 t203] rfl (by (try simp only [List.map_toArray,List.map_cons,List.map_nil]);first | done | rfl | (simp only [List.length_drop,List.length_take];rfl)) ?_;(with_reducible refine (beaconref01_nan.calls t203 true _ A5.out).mono ?_);rintro e w' ⟨rfl,⟨nd,rfl⟩⟩;refine ⟨_,rfl,?_⟩) | ((with_reducible refine gate_callee (f:=80) rfl ?_);refine goesL_ (some 13) rfl rfl Try.func80 (by kernel_rfl) rfl #[] rfl (by (try simp only [List.map_toArray,List.map_cons,List.map_nil]);first | done | rfl | (simp only [List.length_drop,List.length_take];rfl)) ?_;(with_reducible refine (beaconref01_Nan.calls  t205 _ A7.out).mono ?_);rintro e w' ⟨rfl,⟨nd,rfl⟩⟩;refine ⟨_,rfl,?_⟩))
  go_ret
  exact ⟨by first | rfl | (simp;done) | (simp [*];done),by repeat (first | exact Drawn0.refl _ | apply Drawn0.step)⟩
 replace c6:=Bool.eq_false_iff.mpr c6
 subst c6
 have H1:(if (FloatKind.f64.format.order t203 a2 == some .lt) = true then (if (FloatKind.f64.format.order t203 0 == some .eq) = true then (some 0) else (some t203)) else ((math_Inf.f 1).bind fun t206 => (some t206))) = some r:=by rw [if_neg (show ¬ (false = true) by decide)] at H;exact H
 clear H
 have H:=H1
 clear H1
 by_cases c8:(FloatKind.f64.format.order t203 a2 == some .lt) = true
 ·rw [if_pos c8] at H
  have c8b0:(FloatKind.f64.format.order t203 a2 == some .lt) = true:=c8
  (try (have c8b1:decide (FloatKind.f64.format.order t203 a2 = some .lt) = true:=by simpa using c8))
  (try (have c8b2:(FloatKind.f64.format.order t203 a2 == some .lt) = true:=by simpa using c8))
  clear c8
  by_cases c9:(FloatKind.f64.format.order t203 0 == some .eq) = true
  ·rw [if_pos c9] at H
   have c9b0:(FloatKind.f64.format.order t203 0 == some .eq) = true:=c9
   (try (have c9b1:decide (FloatKind.f64.format.order t203 0 = some .eq) = true:=by simpa using c9))
   (try (have c9b2:(FloatKind.f64.format.order t203 0 == some .eq) = true:=by simpa using c9))
   clear c9
   obtain rfl:=Option.some.inj H
   go_enter Try.func47,Try.ntmps47
   go_wp2_with (first | ((with_reducible refine gate_callee (f:=79) rfl ?_);refine goesL_ (some 12) rfl rfl Try.func79 (by kernel_rfl) rfl #[.float .f64 t203] rfl (by (try simp only [List.map_toArray,List.map_cons,List.map_nil]);first | done | rfl | (simp only [List.length_drop,List.length_take];rfl)) ?_;(with_reducible refine (beaconref01_nan.calls t203 false _ A5.out).mono ?_);rintro e w' ⟨rfl,⟨nd,rfl⟩⟩;refine ⟨_,rfl,?_⟩))
   go_ret
   exact ⟨by first | rfl | (simp;done) | (simp [*];done),by repeat (first | exact Drawn0.refl _ | apply Drawn0.step)⟩
  rw [if_neg c9] at H
  have c9b0:(FloatKind.f64.format.order t203 0 == some .eq) = false:=by simpa using c9
  (try (have c9b1:decide (FloatKind.f64.format.order t203 0 = some .eq) = false:=by simpa using c9))
  (try (have c9b2:(FloatKind.f64.format.order t203 0 == some .eq) = false:=by simpa using c9))
  (try (have c9b3:¬ (FloatKind.f64.format.order t203 0 = some .eq):=by simpa using c9))
  clear c9
  obtain rfl:=Option.some.inj H
  go_enter Try.func47,Try.ntmps47
  go_wp2_with (first | ((with_reducible refine gate_callee (f:=79) rfl ?_);refine goesL_ (some 12) rfl rfl Try.func79 (by kernel_rfl) rfl #[.float .f64 t203] rfl (by (try simp only [List.map_toArray,List.map_cons,List.map_nil]);first | done | rfl | (simp only [List.length_drop,List.length_take];rfl)) ?_;(with_reducible refine (beaconref01_nan.calls t203 false _ A5.out).mono ?_);rintro e w' ⟨rfl,⟨nd,rfl⟩⟩;refine ⟨_,rfl,?_⟩))
  go_ret
  exact ⟨by first | rfl | (simp;done) | (simp [*];done),by repeat (first | exact Drawn0.refl _ | apply Drawn0.step)⟩
 rw [if_neg c8] at H
 have c8b0:(FloatKind.f64.format.order t203 a2 == some .lt) = false:=by simpa using c8
 (try (have c8b1:decide (FloatKind.f64.format.order t203 a2 = some .lt) = false:=by simpa using c8))
 (try (have c8b2:(FloatKind.f64.format.order t203 a2 == some .lt) = false:=by simpa using c8))
 (try (have c8b3:¬ (FloatKind.f64.format.order t203 a2 = some .lt):=by simpa using c8))
 clear c8
 replace H:=Option.bind_eq_some_iff.mp H
 obtain ⟨t206,A100,H⟩:=H
 replace H:(some t206) = some r:=H
 have A10:=Aside0.mk A100
 clear A100
 obtain rfl:=Option.some.inj H
 go_enter Try.func47,Try.ntmps47
 go_wp2_with (first | ((with_reducible refine gate_callee (f:=79) rfl ?_);refine goesL_ (some 12) rfl rfl Try.func79 (by kernel_rfl) rfl #[.float .f64 t203] rfl (by (try simp only [List.map_toArray,List.map_cons,List.map_nil]);first | done | rfl | (simp only [List.length_drop,List.length_take];rfl)) ?_;(with_reducible refine (beaconref01_nan.calls t203 false _ A5.out).mono ?_);rintro e w' ⟨rfl,⟨nd,rfl⟩⟩;refine ⟨_,rfl,?_⟩) | ((with_reducible refine gate_callee (f:=40) rfl ?_);refine goesL_ (some 20) rfl rfl Try.func40 (by kernel_rfl) rfl #[.int .i64 1] rfl (by (try simp only [List.map_toArray,List.map_cons,List.map_nil]);first | done | rfl | (simp only [List.length_drop,List.length_take];rfl)) ?_;(with_reducible refine (math_Inf.calls 1 t206 _ A10.out).mono ?_);rintro e w' ⟨rfl,⟨nd,rfl⟩⟩;refine ⟨_,rfl,?_⟩))
 go_ret
 exact ⟨by first | rfl | (simp;done) | (simp [*];done),by repeat (first | exact Drawn0.refl _ | apply Drawn0.step)⟩
end Go.Proofs.Ytjcnmpkaiopihaa.PA
