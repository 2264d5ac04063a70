/- Printed by a program of this session (wip/tools/patch_print.py and pr.py, over the kit's print): each Go function as a plain Lean function, and that the Go code comes to just its answers. Conditions: those that each theorem names. -/
import Derived.Test.YtjcnmpkaiopihaaZhMn
import Derived.Test.YtjcnmpkaiopihaaZhPAx0
namespace Go.Proofs.Ytjcnmpkaiopihaa.PA
open Go.RowKit Go.Proofs.YtjcnmpkaiopihaaW.PrintWords Go.Proofs.YtjcnmpkaiopihaaW.PrintLast Go.Proofs.YtjcnmpkaiopihaaW.PrintMore
attribute [local go_sem] max2_int min2_int max_two min_two max_three min_three max_four min_four
set_option linter.unusedVariables false
set_option linter.unusedSimpArgs false
def beaconref01_Same.f (a0:Nat) (a1:Nat):Option (Bool):=some ((a0:Int) == (a1:Int))
set_option maxHeartbeats 8000000 in
set_option maxRecDepth 100000 in
theorem beaconref01_Same.calls (a0:Nat) (a1:Nat) (r:Bool) (w:World) (h:beaconref01_Same.f a0 a1 = some r) :
  Calls Try.prog 48 #[.float .f64 a0,.float .f64 a1] w fun e w' => e = .returned (.bool r) ∧ Drawn0 w w':=by
 have hX39:=run_Float64bits Try.func39 (by kernel_rfl) (by kernel_rfl) (by kernel_rfl) (by kernel_rfl)
 have H:(some ((a0:Int) == (a1:Int))) = some r:=h
 clear h
 obtain rfl:=Option.some.inj H
 go_enter Try.func48,Try.ntmps48
 go_wp2
 go_ret
 exact ⟨by first | rfl | (simp;done) | (simp [*];done),by repeat (first | exact Drawn0.refl _ | apply Drawn0.step)⟩
end Go.Proofs.Ytjcnmpkaiopihaa.PA
