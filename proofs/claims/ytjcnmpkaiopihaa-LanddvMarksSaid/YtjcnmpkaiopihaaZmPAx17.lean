/- Printed by a program of this session (wip/tools/patch_print.py and pr.py, over the kit's print): each Go function as a plain Lean function, and that the Go code comes to just its answers. Conditions: those that each theorem names. -/
import Derived.Test.YtjcnmpkaiopihaaZmPAx0
import Derived.Test.YtjcnmpkaiopihaaZmPAx2
namespace Go.Proofs.Ytjcnmpkaiopihaa.PA
open Go.RowKit Go.Proofs.YtjcnmpkaiopihaaW.PrintWords Go.Proofs.YtjcnmpkaiopihaaW.PrintLast Go.Proofs.YtjcnmpkaiopihaaW.PrintMore
attribute [local go_sem] max2_int min2_int max_two min_two max_three min_three max_four min_four
set_option linter.unusedVariables false
set_option linter.unusedSimpArgs false
def ident_CheckId.f (a0:Int):Option (Int):=if a0 < 1 then (some 20) else (if a0 > 2147483647 then (some 20) else (some 0))
set_option maxHeartbeats 8000000 in
set_option maxRecDepth 100000 in
theorem ident_CheckId.calls (a0:Int) (r:Int) (w:World) (h:ident_CheckId.f a0 = some r) :
  Calls Try.prog 49 #[.int .i64 a0] w fun e w' => e = .returned (.int .i64 r) ∧ Drawn0 w w':=by
 have H:(if a0 < 1 then (some 20) else (if a0 > 2147483647 then (some 20) else (some 0))) = some r:=h
 clear h
 by_cases c2:a0 < 1
 ·rw [if_pos c2] at H
  have c2b0:decide (a0 < 1) = true:=decide_eq_true c2
  clear c2
  obtain rfl:=Option.some.inj H
  go_enter Try.func49,Try.ntmps49
  go_wp2
  go_ret
  exact ⟨by first | rfl | (simp;done) | (simp [*];done),by repeat (first | exact Drawn0.refl _ | apply Drawn0.step)⟩
 rw [if_neg c2] at H
 have c2b0:decide (a0 < 1) = false:=decide_eq_false c2
 clear c2
 by_cases c3:a0 > 2147483647
 ·rw [if_pos c3] at H
  have c3b0:decide (2147483647 < a0) = true:=decide_eq_true c3
  clear c3
  obtain rfl:=Option.some.inj H
  go_enter Try.func49,Try.ntmps49
  go_wp2
  go_ret
  exact ⟨by first | rfl | (simp;done) | (simp [*];done),by repeat (first | exact Drawn0.refl _ | apply Drawn0.step)⟩
 rw [if_neg c3] at H
 have c3b0:decide (2147483647 < a0) = false:=decide_eq_false c3
 clear c3
 obtain rfl:=Option.some.inj H
 go_enter Try.func49,Try.ntmps49
 go_wp2
 go_ret
 exact ⟨by first | rfl | (simp;done) | (simp [*];done),by repeat (first | exact Drawn0.refl _ | apply Drawn0.step)⟩
def math_IsNaN.f (a0:Nat):Option (Bool):=some (FloatKind.f64.format.order a0 a0 != some .eq)
set_option maxHeartbeats 8000000 in
set_option maxRecDepth 100000 in
theorem math_IsNaN.calls (a0:Nat) (r:Bool) (w:World) (h:math_IsNaN.f a0 = some r) :
  Calls Try.prog 73 #[.float .f64 a0] w fun e w' => e = .returned (.bool r) ∧ Drawn0 w w':=by
 have H:(some (FloatKind.f64.format.order a0 a0 != some .eq)) = some r:=h
 clear h
 obtain rfl:=Option.some.inj H
 go_enter Try.func73,Try.ntmps73
 go_wp2
 go_ret
 exact ⟨by first | rfl | (simp;done) | (simp [*];done),by repeat (first | exact Drawn0.refl _ | apply Drawn0.step)⟩
def math_Signbit.f (a0:Nat):Option (Bool):=some (decide ((wrap64 ((a0:Int))) < 0))
set_option maxHeartbeats 8000000 in
set_option maxRecDepth 100000 in
theorem math_Signbit.calls (a0:Nat) (r:Bool) (w:World) (h:math_Signbit.f a0 = some r) :
  Calls Try.prog 90 #[.float .f64 a0] w fun e w' => e = .returned (.bool r) ∧ Drawn0 w w':=by
 have hX39:=run_Float64bits Try.func39 (by kernel_rfl) (by kernel_rfl) (by kernel_rfl) (by kernel_rfl)
 have H:(some (decide ((wrap64 ((a0:Int))) < 0))) = some r:=h
 clear h
 obtain rfl:=Option.some.inj H
 go_enter Try.func90,Try.ntmps90
 go_wp2
 go_ret
 exact ⟨by first | rfl | (simp;done) | (simp [*];done),by repeat (first | exact Drawn0.refl _ | apply Drawn0.step)⟩
def metric_quarter.f (a0:Nat):Option (Bool):=(floatBits .mul .f64 a0 4616189618054758400).bind fun t311 => ((math_Trunc.f t311).bind fun t312 => (some (FloatKind.f64.format.order t311 t312 == some .eq)))
set_option maxHeartbeats 8000000 in
set_option maxRecDepth 100000 in
theorem metric_quarter.calls (a0:Nat) (r:Bool) (w:World) (h:metric_quarter.f a0 = some r) :
  Calls Try.prog 91 #[.float .f64 a0] w fun e w' => e = .returned (.bool r) ∧ Drawn0 w w':=by
 have H:((floatBits .mul .f64 a0 4616189618054758400).bind fun t311 => ((math_Trunc.f t311).bind fun t312 => (some (FloatKind.f64.format.order t311 t312 == some .eq)))) = some r:=h
 clear h
 replace H:=Option.bind_eq_some_iff.mp H
 obtain ⟨t311,A20,H⟩:=H
 replace H:((math_Trunc.f t311).bind fun t312 => (some (FloatKind.f64.format.order t311 t312 == some .eq))) = some r:=H
 have A2f:∀ W_:World,(binOp .mul 23 (.float .f64 a0) (.float .f64 4616189618054758400)).run Try.prog W_ = .ok (.float .f64 t311) W_:=fun W_ => run_float_arith W_ .mul 23 .f64 _ _ _ A20
 have A2:=Aside0.mk A20
 clear A20
 replace H:=Option.bind_eq_some_iff.mp H
 obtain ⟨t312,A30,H⟩:=H
 replace H:(some (FloatKind.f64.format.order t311 t312 == some .eq)) = some r:=H
 have A3:=Aside0.mk A30
 clear A30
 obtain rfl:=Option.some.inj H
 go_enter Try.func91,Try.ntmps91
 go_wp2_with (first | ((with_reducible refine gate_callee (f:=85) rfl ?_);refine goesL_ (some 8) rfl rfl Try.func85 (by kernel_rfl) rfl #[.float .f64 t311] rfl (by (try simp only [List.map_toArray,List.map_cons,List.map_nil]);first | done | rfl | (simp only [List.length_drop,List.length_take];rfl)) ?_;(with_reducible refine (math_Trunc.calls t311 t312 _ A3.out).mono ?_);rintro e w' ⟨rfl,⟨nd,rfl⟩⟩;refine ⟨_,rfl,?_⟩))
 go_ret
 exact ⟨by first | rfl | (simp;done) | (simp [*];done),by repeat (first | exact Drawn0.refl _ | apply Drawn0.step)⟩
def metric_within.f (a0:Nat) (a1:Nat):Option (Int):=(math_IsNaN.f a0).bind fun t313 => (if t313 = true then (some 10) else ((math_IsInf.f a0 0).bind fun t314 => (if t314 = true then (some 11) else ((math_Signbit.f a0).bind fun t315 => (if t315 = true then (some 12) else (if (FloatKind.f64.format.order a0 4607182418800017408 == some .lt) = true then (some 13) else (if (FloatKind.f64.format.order a0 a1 == some .gt) = true then (some 14) else ((metric_quarter.f a0).bind fun t316 => (if t316 = true then (some 0) else (some 15))))))))))
set_option maxHeartbeats 8000000 in
set_option maxRecDepth 100000 in
theorem metric_within.calls (a0:Nat) (a1:Nat) (r:Int) (w:World) (h:metric_within.f a0 a1 = some r) :
  Calls Try.prog 68 #[.float .f64 a0,.float .f64 a1] w fun e w' => e = .returned (.int .i64 r) ∧ Drawn0 w w':=by
 have H:((math_IsNaN.f a0).bind fun t313 => (if t313 = true then (some 10) else ((math_IsInf.f a0 0).bind fun t314 => (if t314 = true then (some 11) else ((math_Signbit.f a0).bind fun t315 => (if t315 = true then (some 12) else (if (FloatKind.f64.format.order a0 4607182418800017408 == some .lt) = true then (some 13) else (if (FloatKind.f64.format.order a0 a1 == some .gt) = true then (some 14) else ((metric_quarter.f a0).bind fun t316 => (if t316 = true then (some 0) else (some 15))))))))))) = some r:=h
 clear h
 replace H:=Option.bind_eq_some_iff.mp H
 obtain ⟨t313,A30,H⟩:=H
 replace H:(if t313 = true then (some 10) else ((math_IsInf.f a0 0).bind fun t314 => (if t314 = true then (some 11) else ((math_Signbit.f a0).bind fun t315 => (if t315 = true then (some 12) else (if (FloatKind.f64.format.order a0 4607182418800017408 == some .lt) = true then (some 13) else (if (FloatKind.f64.format.order a0 a1 == some .gt) = true then (some 14) else ((metric_quarter.f a0).bind fun t316 => (if t316 = true then (some 0) else (some 15)))))))))) = some r:=H
 have A3:=Aside0.mk A30
 clear A30
 by_cases c4:t313 = true
 ·subst c4
  have H1:(some 10) = some r:=by rw [if_pos rfl] at H;exact H
  clear H
  have H:=H1
  clear H1
  obtain rfl:=Option.some.inj H
  go_enter Try.func68,Try.ntmps68
  go_wp2_with (first | ((with_reducible refine gate_callee (f:=73) rfl ?_);refine goesL_ (some 7) rfl rfl Try.func73 (by kernel_rfl) rfl #[.float .f64 a0] rfl (by (try simp only [List.map_toArray,List.map_cons,List.map_nil]);first | done | rfl | (simp only [List.length_drop,List.length_take];rfl)) ?_;(with_reducible refine (math_IsNaN.calls a0 true _ A3.out).mono ?_);rintro e w' ⟨rfl,⟨nd,rfl⟩⟩;refine ⟨_,rfl,?_⟩))
  go_ret
  exact ⟨by first | rfl | (simp;done) | (simp [*];done),by repeat (first | exact Drawn0.refl _ | apply Drawn0.step)⟩
 replace c4:=Bool.eq_false_iff.mpr c4
 subst c4
 have H1:((math_IsInf.f a0 0).bind fun t314 => (if t314 = true then (some 11) else ((math_Signbit.f a0).bind fun t315 => (if t315 = true then (some 12) else (if (FloatKind.f64.format.order a0 4607182418800017408 == some .lt) = true then (some 13) else (if (FloatKind.f64.format.order a0 a1 == some .gt) = true then (some 14) else ((metric_quarter.f a0).bind fun t316 => (if t316 = true then (some 0) else (some 15))))))))) = some r:=by rw [if_neg (show ¬ (false = true) by decide)] at H;exact H
 clear H
 have H:=H1
 clear H1
 replace H:=Option.bind_eq_some_iff.mp H
 obtain ⟨t314,A50,H⟩:=H
 replace H:(if t314 = true then (some 11) else ((math_Signbit.f a0).bind fun t315 => (if t315 = true then (some 12) else (if (FloatKind.f64.format.order a0 4607182418800017408 == some .lt) = true then (some 13) else (if (FloatKind.f64.format.order a0 a1 == some .gt) = true then (some 14) else ((metric_quarter.f a0).bind fun t316 => (if t316 = true then (some 0) else (some 15)))))))) = some r:=H
 have A5:=Aside0.mk A50
 clear A50
 by_cases c6:t314 = true
 ·subst c6
  have H1:(some 11) = some r:=by rw [if_pos rfl] at H;exact H
  clear H
  have H:=H1
  clear H1
  obtain rfl:=Option.some.inj H
  go_enter Try.func68,Try.ntmps68
  go_wp2_with (first | ((with_reducible refine gate_callee (f:=73) rfl ?_);refine goesL_ (some 7) rfl rfl Try.func73 (by kernel_rfl) rfl #[.float .f64 a0] rfl (by (try simp only [List.map_toArray,List.map_cons,List.map_nil]);first | done | rfl | (simp only [List.length_drop,List.length_take];rfl)) ?_;(with_reducible refine (math_IsNaN.calls a0 false _ A3.out).mono ?_);rintro e w' ⟨rfl,⟨nd,rfl⟩⟩;refine ⟨_,rfl,?_⟩) | ((with_reducible refine gate_callee (f:=62) rfl ?_);refine goesL_ (some 10) rfl rfl Try.func62 (by kernel_rfl) rfl #[.float .f64 a0,.int .i64 0] rfl (by (try simp only [List.map_toArray,List.map_cons,List.map_nil]);first | done | rfl | (simp only [List.length_drop,List.length_take];rfl)) ?_;(with_reducible refine (math_IsInf.calls a0 0 true _ A5.out).mono ?_);rintro e w' ⟨rfl,⟨nd,rfl⟩⟩;refine ⟨_,rfl,?_⟩))
  go_ret
  exact ⟨by first | rfl | (simp;done) | (simp [*];done),by repeat (first | exact Drawn0.refl _ | apply Drawn0.step)⟩
 replace c6:=Bool.eq_false_iff.mpr c6
 subst c6
 have H1:((math_Signbit.f a0).bind fun t315 => (if t315 = true then (some 12) else (if (FloatKind.f64.format.order a0 4607182418800017408 == some .lt) = true then (some 13) else (if (FloatKind.f64.format.order a0 a1 == some .gt) = true then (some 14) else ((metric_quarter.f a0).bind fun t316 => (if t316 = true then (some 0) else (some 15))))))) = some r:=by rw [if_neg (show ¬ (false = true) by decide)] at H;exact H
 clear H
 have H:=H1
 clear H1
 replace H:=Option.bind_eq_some_iff.mp H
 obtain ⟨t315,A70,H⟩:=H
 replace H:(if t315 = true then (some 12) else (if (FloatKind.f64.format.order a0 4607182418800017408 == some .lt) = true then (some 13) else (if (FloatKind.f64.format.order a0 a1 == some .gt) = true then (some 14) else ((metric_quarter.f a0).bind fun t316 => (if t316 = true then (some 0) else (some 15)))))) = some r:=H
 have A7:=Aside0.mk A70
 clear A70
 by_cases c8:t315 = true
 ·subst c8
  have H1:(some 12) = some r:=by rw [if_pos rfl] at H;exact H
  clear H
  have H:=H1
  clear H1
  obtain rfl:=Option.some.inj H
  go_enter Try.func68,Try.ntmps68
  go_wp2_with (first | ((with_reducible refine gate_callee (f:=73) rfl ?_);refine goesL_ (some 7) rfl rfl Try.func73 (by kernel_rfl) rfl #[.float .f64 a0] rfl (by (try simp only [List.map_toArray,List.map_cons,List.map_nil]);first | done | rfl | (simp only [List.length_drop,List.length_take];rfl)) ?_;(with_reducible refine (math_IsNaN.calls a0 false _ A3.out).mono ?_);rintro e w' ⟨rfl,⟨nd,rfl⟩⟩;refine ⟨_,rfl,?_⟩) | ((with_reducible refine gate_callee (f:=62) rfl ?_);refine goesL_ (some 10) rfl rfl Try.func62 (by kernel_rfl) rfl #[.float .f64 a0,.int .i64 0] rfl (by (try simp only [List.map_toArray,List.map_cons,List.map_nil]);first | done | rfl | (simp only [List.length_drop,List.length_take];rfl)) ?_;(with_reducible refine (math_IsInf.calls a0 0 false _ A5.out).mono ?_);rintro e w' ⟨rfl,⟨nd,rfl⟩⟩;refine ⟨_,rfl,?_⟩) | ((with_reducible refine gate_callee (f:=90) rfl ?_);refine goesL_ (some 13) rfl rfl Try.func90 (by kernel_rfl) rfl #[.float .f64 a0] rfl (by (try simp only [List.map_toArray,List.map_cons,List.map_nil]);first | done | rfl | (simp only [List.length_drop,List.length_take];rfl)) ?_;(with_reducible refine (math_Signbit.calls a0 true _ A7.out).mono ?_);rintro e w' ⟨rfl,⟨nd,rfl⟩⟩;refine ⟨_,rfl,?_⟩))
  go_ret
  exact ⟨by first | rfl | (simp;done) | (simp [*];done),by repeat (first | exact Drawn0.refl _ | apply Drawn0.step)⟩
 replace c8:=Bool.eq_false_iff.mpr c8
 subst c8
 have H1:(if (FloatKind.f64.format.order a0 4607182418800017408 == some .lt) = true then (some 13) else (if (FloatKind.f64.format.order a0 a1 == some .gt) = true then (some 14) else ((metric_quarter.f a0).bind fun t316 => (if t316 = true then (some 0) else (some 15))))) = some r:=by rw [if_neg (show ¬ (false = true) by decide)] at H;exact H
 clear H
 have H:=H1
 clear H1
 by_cases c9:(FloatKind.f64.format.order a0 4607182418800017408 == some .lt) = true
 ·rw [if_pos c9] at H
  have c9b0:(FloatKind.f64.format.order a0 4607182418800017408 == some .lt) = true:=c9
  (try (have c9b1:decide (FloatKind.f64.format.order a0 4607182418800017408 = some .lt) = true:=by simpa using c9))
  (try (have c9b2:(FloatKind.f64.format.order a0 4607182418800017408 == some .lt) = true:=by simpa using c9))
  clear c9
  obtain rfl:=Option.some.inj H
  go_enter Try.func68,Try.ntmps68
  go_wp2_with (first | ((with_reducible refine gate_callee (f:=73) rfl ?_);refine goesL_ (some 7) rfl rfl Try.func73 (by kernel_rfl) rfl #[.float .f64 a0] rfl (by (try simp only [List.map_toArray,List.map_cons,List.map_nil]);first | done | rfl | (simp only [List.length_drop,List.length_take];rfl)) ?_;(with_reducible refine (math_IsNaN.calls a0 false _ A3.out).mono ?_);rintro e w' ⟨rfl,⟨nd,rfl⟩⟩;refine ⟨_,rfl,?_⟩) | ((with_reducible refine gate_callee (f:=62) rfl ?_);refine goesL_ (some 10) rfl rfl Try.func62 (by kernel_rfl) rfl #[.float .f64 a0,.int .i64 0] rfl (by (try simp only [List.map_toArray,List.map_cons,List.map_nil]);first | done | rfl | (simp only [List.length_drop,List.length_take];rfl)) ?_;(with_reducible refine (math_IsInf.calls a0 0 false _ A5.out).mono ?_);rintro e w' ⟨rfl,⟨nd,rfl⟩⟩;refine ⟨_,rfl,?_⟩) | ((with_reducible refine gate_callee (f:=90) rfl ?_);refine goesL_ (some 13) rfl rfl Try.func90 (by kernel_rfl) rfl #[.float .f64 a0] rfl (by (try simp only [List.map_toArray,List.map_cons,List.map_nil]);first | done | rfl | (simp only [List.length_drop,List.length_take];rfl)) ?_;(with_reducible refine (math_Signbit.calls a0 false _ A7.out).mono ?_);rintro e w' ⟨rfl,⟨nd,rfl⟩⟩;refine ⟨_,rfl,?_⟩))
  go_ret
  exact ⟨by first | rfl | (simp;done) | (simp [*];done),by repeat (first | exact Drawn0.refl _ | apply Drawn0.step)⟩
 rw [if_neg c9] at H
 have c9b0:(FloatKind.f64.format.order a0 4607182418800017408 == some .lt) = false:=by simpa using c9
 (try (have c9b1:decide (FloatKind.f64.format.order a0 4607182418800017408 = some .lt) = false:=by simpa using c9))
 (try (have c9b2:(FloatKind.f64.format.order a0 4607182418800017408 == some .lt) = false:=by simpa using c9))
 (try (have c9b3:¬ (FloatKind.f64.format.order a0 4607182418800017408 = some .lt):=by simpa using c9))
 clear c9
 by_cases c10:(FloatKind.f64.format.order a0 a1 == some .gt) = true
 ·rw [if_pos c10] at H
  have c10b0:(FloatKind.f64.format.order a0 a1 == some .gt) = true:=c10
  (try (have c10b1:decide (FloatKind.f64.format.order a0 a1 = some .gt) = true:=by simpa using c10))
  (try (have c10b2:(FloatKind.f64.format.order a0 a1 == some .gt) = true:=by simpa using c10))
  clear c10
  obtain rfl:=Option.some.inj H
  go_enter Try.func68,Try.ntmps68
  go_wp2_with (first | ((with_reducible refine gate_callee (f:=73) rfl ?_);refine goesL_ (some 7) rfl rfl Try.func73 (by kernel_rfl) rfl #[.float .f64 a0] rfl (by (try simp only [List.map_toArray,List.map_cons,List.map_nil]);first | done | rfl | (simp only [List.length_drop,List.length_take];rfl)) ?_;(with_reducible refine (math_IsNaN.calls a0 false _ A3.out).mono ?_);rintro e w' ⟨rfl,⟨nd,rfl⟩⟩;refine ⟨_,rfl,?_⟩) | ((with_reducible refine gate_callee (f:=62) rfl ?_);refine goesL_ (some 10) rfl rfl Try.func62 (by kernel_rfl) rfl #[.float .f64 a0,.int .i64 0] rfl (by (try simp only [List.map_toArray,List.map_cons,List.map_nil]);first | done | rfl | (simp only [List.length_drop,List.length_take];rfl)) ?_;(with_reducible refine (math_IsInf.calls a0 0 false _ A5.out).mono ?_);rintro e w' ⟨rfl,⟨nd,rfl⟩⟩;refine ⟨_,rfl,?_⟩) | ((with_reducible refine gate_callee (f:=90) rfl ?_);refine goesL_ (some 13) rfl rfl Try.func90 (by kernel_rfl) rfl #[.float .f64 a0] rfl (by (try simp only [List.map_toArray,List.map_cons,List.map_nil]);first | done | rfl | (simp only [List.length_drop,List.length_take];rfl)) ?_;(with_reducible refine (math_Signbit.calls a0 false _ A7.out).mono ?_);rintro e w' ⟨rfl,⟨nd,rfl⟩⟩;refine ⟨_,rfl,?_⟩))
  go_ret
  exact ⟨by first | rfl | (simp;done) | (simp [*];done),by repeat (first | exact Drawn0.refl _ | apply Drawn0.step)⟩
 rw [if_neg c10] at H
 have c10b0:(FloatKind.f64.format.order a0 a1 == some .gt) = false:=by simpa using c10
 (try (have c10b1:decide (FloatKind.f64.format.order a0 a1 = some .gt) = false:=by simpa using c10))
 (try (have c10b2:(FloatKind.f64.format.order a0 a1 == some .gt) = false:=by simpa using c10))
 (try (have c10b3:¬ (FloatKind.f64.format.order a0 a1 = some .gt):=by simpa using c10))
 clear c10
 replace H:=Option.bind_eq_some_iff.mp H
 obtain ⟨t316,A110,H⟩:=H
 replace H:(if t316 = true then (some 0) else (some 15)) = some r:=H
 have A11:=Aside0.mk A110
 clear A110
 by_cases c12:t316 = true
 ·subst c12
  have H1:(some 0) = some r:=by rw [if_pos rfl] at H;exact H
  clear H
  have H:=H1
  clear H1
  obtain rfl:=Option.some.inj H
  go_enter Try.func68,Try.ntmps68
  go_wp2_with (first | ((with_reducible refine gate_callee (f:=73) rfl ?_);refine goesL_ (some 7) rfl rfl Try.func73 (by kernel_rfl) rfl #[.float .f64 a0] rfl (by (try simp only [List.map_toArray,List.map_cons,List.map_nil]);first | done | rfl | (simp only [List.length_drop,List.length_take];rfl)) ?_;(with_reducible refine (math_IsNaN.calls a0 false _ A3.out).mono ?_);rintro e w' ⟨rfl,⟨nd,rfl⟩⟩;refine ⟨_,rfl,?_⟩) | ((with_reducible refine gate_callee (f:=62) rfl ?_);refine goesL_ (some 10) rfl rfl Try.func62 (by kernel_rfl) rfl #[.float .f64 a0,.int .i64 0] rfl (by (try simp only [List.map_toArray,List.map_cons,List.map_nil]);first | done | rfl | (simp only [List.length_drop,List.length_take];rfl)) ?_;(with_reducible refine (math_IsInf.calls a0 0 false _ A5.out).mono ?_);rintro e w' ⟨rfl,⟨nd,rfl⟩⟩;refine ⟨_,rfl,?_⟩) | ((with_reducible refine gate_callee (f:=90) rfl ?_);refine goesL_ (some 13) rfl rfl Try.func90 (by kernel_rfl) rfl #[.float .f64 a0] rfl (by (try simp only [List.map_toArray,List.map_cons,List.map_nil]);first | done | rfl | (simp only [List.length_drop,List.length_take];rfl)) ?_;(with_reducible refine (math_Signbit.calls a0 false _ A7.out).mono ?_);rintro e w' ⟨rfl,⟨nd,rfl⟩⟩;refine ⟨_,rfl,?_⟩) | ((with_reducible refine gate_callee (f:=91) rfl ?_);refine goesL_ (some 23) rfl rfl Try.func91 (by kernel_rfl) rfl #[.float .f64 a0] rfl (by (try simp only [List.map_toArray,List.map_cons,List.map_nil]);first | done | rfl | (simp only [List.length_drop,List.length_take];rfl)) ?_;(with_reducible refine (metric_quarter.calls a0 true _ A11.out).mono ?_);rintro e w' ⟨rfl,⟨nd,rfl⟩⟩;refine ⟨_,rfl,?_⟩))
  go_ret
  exact ⟨by first | rfl | (simp;done) | (simp [*];done),by repeat (first | exact Drawn0.refl _ | apply Drawn0.step)⟩
 replace c12:=Bool.eq_false_iff.mpr c12
 subst c12
 have H1:(some 15) = some r:=by rw [if_neg (show ¬ (false = true) by decide)] at H;exact H
 clear H
 have H:=H1
 clear H1
 obtain rfl:=Option.some.inj H
 go_enter Try.func68,Try.ntmps68
 go_wp2_with (first | ((with_reducible refine gate_callee (f:=73) rfl ?_);refine goesL_ (some 7) rfl rfl Try.func73 (by kernel_rfl) rfl #[.float .f64 a0] rfl (by (try simp only [List.map_toArray,List.map_cons,List.map_nil]);first | done | rfl | (simp only [List.length_drop,List.length_take];rfl)) ?_;(with_reducible refine (math_IsNaN.calls a0 false _ A3.out).mono ?_);rintro e w' ⟨rfl,⟨nd,rfl⟩⟩;refine ⟨_,rfl,?_⟩) | ((with_reducible refine gate_callee (f:=62) rfl ?_);refine goesL_ (some 10) rfl rfl Try.func62 (by kernel_rfl) rfl #[.float .f64 a0,.int .i64 0] rfl (by (try simp only [List.map_toArray,List.map_cons,List.map_nil]);first | done | rfl | (simp only [List.length_drop,List.length_take];rfl)) ?_;(with_reducible refine (math_IsInf.calls a0 0 false _ A5.out).mono ?_);rintro e w' ⟨rfl,⟨nd,rfl⟩⟩;refine ⟨_,rfl,?_⟩) | ((with_reducible refine gate_callee (f:=90) rfl ?_);refine goesL_ (some 13) rfl rfl Try.func90 (by kernel_rfl) rfl #[.float .f64 a0] rfl (by (try simp only [List.map_toArray,List.map_cons,List.map_nil]);first | done | rfl | (simp only [List.length_drop,List.length_take];rfl)) ?_;(with_reducible refine (math_Signbit.calls a0 false _ A7.out).mono ?_);rintro e w' ⟨rfl,⟨nd,rfl⟩⟩;refine ⟨_,rfl,?_⟩) | ((with_reducible refine gate_callee (f:=91) rfl ?_);refine goesL_ (some 23) rfl rfl Try.func91 (by kernel_rfl) rfl #[.float .f64 a0] rfl (by (try simp only [List.map_toArray,List.map_cons,List.map_nil]);first | done | rfl | (simp only [List.length_drop,List.length_take];rfl)) ?_;(with_reducible refine (metric_quarter.calls a0 false _ A11.out).mono ?_);rintro e w' ⟨rfl,⟨nd,rfl⟩⟩;refine ⟨_,rfl,?_⟩))
 go_ret
 exact ⟨by first | rfl | (simp;done) | (simp [*];done),by repeat (first | exact Drawn0.refl _ | apply Drawn0.step)⟩
def metric_Limit.f (a0:Nat):Option (Int):=(metric_within.f a0 4742290407621132288).bind fun t317 => (some t317)
set_option maxHeartbeats 8000000 in
set_option maxRecDepth 100000 in
theorem metric_Limit.calls (a0:Nat) (r:Int) (w:World) (h:metric_Limit.f a0 = some r) :
  Calls Try.prog 32 #[.float .f64 a0] w fun e w' => e = .returned (.int .i64 r) ∧ Drawn0 w w':=by
 have H:((metric_within.f a0 4742290407621132288).bind fun t317 => (some t317)) = some r:=h
 clear h
 replace H:=Option.bind_eq_some_iff.mp H
 obtain ⟨t317,A20,H⟩:=H
 replace H:(some t317) = some r:=H
 have A2:=Aside0.mk A20
 clear A20
 obtain rfl:=Option.some.inj H
 go_enter Try.func32,Try.ntmps32
 go_wp2_with (first | ((with_reducible refine gate_callee (f:=68) rfl ?_);refine goesL_ (some 4) rfl rfl Try.func68 (by kernel_rfl) rfl #[.float .f64 a0,.float .f64 4742290407621132288] rfl (by (try simp only [List.map_toArray,List.map_cons,List.map_nil]);first | done | rfl | (simp only [List.length_drop,List.length_take];rfl)) ?_;(with_reducible refine (metric_within.calls a0 4742290407621132288 t317 _ A2.out).mono ?_);rintro e w' ⟨rfl,⟨nd,rfl⟩⟩;refine ⟨_,rfl,?_⟩))
 go_ret
 exact ⟨by first | rfl | (simp;done) | (simp [*];done),by repeat (first | exact Drawn0.refl _ | apply Drawn0.step)⟩
end Go.Proofs.Ytjcnmpkaiopihaa.PA
