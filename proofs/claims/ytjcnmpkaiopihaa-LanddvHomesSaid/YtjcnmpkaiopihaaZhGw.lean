/- scopedv.Balls: an error, or what is kept of all that was heard, sorted. Conditions: the floats are words, the lists fit in memory. -/
import Derived.Test.YtjcnmpkaiopihaaZhMn
import Derived.Test.YtjcnmpkaiopihaaZhPAx0
import Derived.Test.YtjcnmpkaiopihaaZhGu
import Derived.Test.YtjcnmpkaiopihaaZhMq
import Derived.Test.YtjcnmpkaiopihaaZhPAx2
import Derived.Test.YtjcnmpkaiopihaaZhPAx26
import Derived.Test.YtjcnmpkaiopihaaZhPAx17
import Derived.Test.YtjcnmpkaiopihaaZhPAx23
namespace Go.Proofs.Ytjcnmpkaiopihaa.PA
open Go.RowKit Go.Proofs.YtjcnmpkaiopihaaW.PrintWords Go.Proofs.YtjcnmpkaiopihaaW.PrintLast Go.Proofs.YtjcnmpkaiopihaaW.PrintMore
set_option linter.unusedVariables false
set_option linter.unusedSimpArgs false
def HeldB (w wr : World) (b : Nat) (M : List S58) : Prop := IsMap wr b (Value.int .i64) (enM M) ∧ KeptOk M ∧ Below w.heap.size w wr ∧ w.heap.size ≤ b
theorem heldB_made (w w1 : World) (hb : Below w.heap.size w w1) : HeldB w (w1.alloc (.map #[] 0)) w1.heap.size [] :=
  ⟨isMap_made w1,keptOk_nil,below_alloc hb _,hb.size⟩
end Go.Proofs.Ytjcnmpkaiopihaa.PA
namespace Go.Proofs.Ytjcnmpkaiopihaa.PA
open Go.RowKit Go.Proofs.YtjcnmpkaiopihaaW.PrintWords Go.Proofs.YtjcnmpkaiopihaaW.PrintLast Go.Proofs.YtjcnmpkaiopihaaW.PrintMore
set_option linter.unusedVariables false
set_option linter.unusedSimpArgs false
theorem inf_far {a : Nat} (h : infB a = true) : farB a = true := by
  unfold farB beaconref06_Far.f
  rw [isInf1]
  show ((if infB a = true then _ else _ : Option Bool)).getD false = true
  rw [if_pos h]
  rfl
def zeroB (a : Nat) : Bool := FloatKind.f64.format.order a 0 == some .eq
end Go.Proofs.Ytjcnmpkaiopihaa.PA
