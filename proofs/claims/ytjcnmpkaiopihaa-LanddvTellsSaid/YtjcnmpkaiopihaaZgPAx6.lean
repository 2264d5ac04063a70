/- Printed by a program of this session (wip/tools/patch_print.py and pr.py, over the kit's print): each Go function as a plain Lean function, and that the Go code comes to just its answers. Conditions: those that each theorem names. -/
import Derived.Test.YtjcnmpkaiopihaaZgPAx0
import Derived.Test.YtjcnmpkaiopihaaZgPAx2
import Derived.Test.YtjcnmpkaiopihaaZgPAx3
namespace Go.Proofs.Ytjcnmpkaiopihaa.PA
open Go.RowKit Go.Proofs.YtjcnmpkaiopihaaW.PrintWords Go.Proofs.YtjcnmpkaiopihaaW.PrintLast Go.Proofs.YtjcnmpkaiopihaaW.PrintMore
attribute [local go_sem] max2_int min2_int max_two min_two max_three min_three max_four min_four
set_option linter.unusedVariables false
set_option linter.unusedSimpArgs false
def beaconref15_number.f (a0:Int):Option (Bool):=(beaconref02_CheckId.f a0).bind fun t128 => (some (t128 == 0))
set_option maxHeartbeats 8000000 in
set_option maxRecDepth 100000 in
theorem beaconref15_number.calls (a0:Int) (r:Bool) (w:World) (h:beaconref15_number.f a0 = some r) :
  Calls Try.prog 52 #[.int .i64 a0] w fun e w' => e = .returned (.bool r) ∧ Drawn0 w w':=by
 have H:((beaconref02_CheckId.f a0).bind fun t128 => (some (t128 == 0))) = some r:=h
 clear h
 replace H:=Option.bind_eq_some_iff.mp H
 obtain ⟨t128,A20,H⟩:=H
 replace H:(some (t128 == 0)) = some r:=H
 have A2:=Aside0.mk A20
 clear A20
 obtain rfl:=Option.some.inj H
 go_enter Try.func52,Try.ntmps52
 go_wp2_with (first | ((with_reducible refine gate_callee (f:=82) rfl ?_);refine goesL_ (some 4) rfl rfl Try.func82 (by kernel_rfl) rfl #[.int .i64 a0] rfl (by (try simp only [List.map_toArray,List.map_cons,List.map_nil]);first | done | rfl | (simp only [List.length_drop,List.length_take];rfl)) ?_;(with_reducible refine (beaconref02_CheckId.calls a0 t128 _ A2.out).mono ?_);rintro e w' ⟨rfl,⟨nd,rfl⟩⟩;refine ⟨_,rfl,?_⟩))
 go_ret
 exact ⟨by first | rfl | (simp;done) | (simp [*];done),by repeat (first | exact Drawn0.refl _ | apply Drawn0.step)⟩
def beaconref01_nan.f (a0:Nat):Option (Bool):=some (FloatKind.f64.format.order a0 a0 != some .eq)
def beaconref01_inf.f (a0:Nat):Option (Bool):=if (FloatKind.f64.format.order a0 9218868437227405311 == some .gt) = true then (some true) else (some (FloatKind.f64.format.order a0 18442240474082181119 == some .lt))
def beaconref01_sign.f (a0:Nat):Option (Bool):=some (((a0:Int) / 9223372036854775808) == 1)
def beaconref01_quarter.f (a0:Nat):Option (Bool):=(floatBits .mul .f64 a0 4616189618054758400).bind fun t129 => ((math_Trunc.f t129).bind fun t130 => (some (FloatKind.f64.format.order t130 t129 == some .eq)))
def beaconref01_bounded.f (a0:Nat) (a1:Nat):Option (Int):=(beaconref01_nan.f a0).bind fun t131 => (if t131 = true then (some 10) else ((beaconref01_inf.f a0).bind fun t132 => (if t132 = true then (some 11) else ((beaconref01_sign.f a0).bind fun t133 => (if t133 = true then (some 12) else (if (FloatKind.f64.format.order a0 4607182418800017408 == some .lt) = true then (some 13) else (if (FloatKind.f64.format.order a0 a1 == some .gt) = true then (some 14) else ((beaconref01_quarter.f a0).bind fun t134 => (if t134 = true then (some 0) else (some 15))))))))))
def beaconref01_Weight.f (a0:Nat):Option (Int):=(beaconref01_bounded.f a0 4697254411347427328).bind fun t135 => (some t135)
end Go.Proofs.Ytjcnmpkaiopihaa.PA
namespace Go.Proofs.Ytjcnmpkaiopihaa.PA
open Go.RowKit Go.Proofs.YtjcnmpkaiopihaaW.PrintWords Go.Proofs.YtjcnmpkaiopihaaW.PrintLast Go.Proofs.YtjcnmpkaiopihaaW.PrintMore
attribute [local go_sem] max2_int min2_int max_two min_two max_three min_three max_four min_four
set_option linter.unusedVariables false
set_option linter.unusedSimpArgs false
def beaconref01_Limit.f (a0:Nat):Option (Int):=(beaconref01_bounded.f a0 4742290407621132288).bind fun t145 => (some t145)
def math_Inf.f (a0:Int):Option (Nat):=if a0 ≥ 0 then (some 9218868437227405312) else (some 18442240474082181120)
set_option maxHeartbeats 8000000 in
set_option maxRecDepth 100000 in
theorem math_Inf.calls (a0:Int) (r:Nat) (w:World) (h:math_Inf.f a0 = some r) :
  Calls Try.prog 40 #[.int .i64 a0] w fun e w' => e = .returned (.float .f64 r) ∧ Drawn0 w w':=by
 have hX72:=run_Float64frombits Try.func72 (by kernel_rfl) (by kernel_rfl) (by kernel_rfl) (by kernel_rfl)
 have H:(if a0 ≥ 0 then (some 9218868437227405312) else (some 18442240474082181120)) = some r:=h
 clear h
 by_cases c2:a0 ≥ 0
 ·rw [if_pos c2] at H
  have c2b0:decide (0 ≤ a0) = true:=decide_eq_true c2
  clear c2
  obtain rfl:=Option.some.inj H
  go_enter Try.func40,Try.ntmps40
  go_wp2
  go_ret
  exact ⟨by first | rfl | (simp;done) | (simp [*];done),by repeat (first | exact Drawn0.refl _ | apply Drawn0.step)⟩
 rw [if_neg c2] at H
 have c2b0:decide (0 ≤ a0) = false:=decide_eq_false c2
 clear c2
 obtain rfl:=Option.some.inj H
 go_enter Try.func40,Try.ntmps40
 go_wp2
 go_ret
 exact ⟨by first | rfl | (simp;done) | (simp [*];done),by repeat (first | exact Drawn0.refl _ | apply Drawn0.step)⟩
end Go.Proofs.Ytjcnmpkaiopihaa.PA
