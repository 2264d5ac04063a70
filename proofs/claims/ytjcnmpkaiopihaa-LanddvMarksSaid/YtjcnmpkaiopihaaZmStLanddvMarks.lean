/- LanddvHomes, of numbers and lists alone. No condition. -/
import Derived.Test.YtjcnmpkaiopihaaZmGu
import Derived.Test.YtjcnmpkaiopihaaZmPAx0
import Derived.Test.YtjcnmpkaiopihaaZmPAx2
import Derived.Test.YtjcnmpkaiopihaaZmPAx26
import Derived.Test.YtjcnmpkaiopihaaZmMn
import Derived.Test.YtjcnmpkaiopihaaZmPAx17
import Derived.Test.YtjcnmpkaiopihaaZmPAx23
import Derived.Test.YtjcnmpkaiopihaaZmGr
import Derived.Test.YtjcnmpkaiopihaaZmPAx4
import Derived.Test.YtjcnmpkaiopihaaZmPAx6
import Derived.Test.YtjcnmpkaiopihaaZmPAx13
import Derived.Test.YtjcnmpkaiopihaaZmPAx19
import Derived.Test.YtjcnmpkaiopihaaZmGk
import Derived.Test.YtjcnmpkaiopihaaZmPAx42
import Derived.Test.YtjcnmpkaiopihaaZmGs
import Derived.Test.YtjcnmpkaiopihaaZmPAx44
namespace Go.Proofs.Ytjcnmpkaiopihaa.PA
open Go.RowKit Go.Proofs.YtjcnmpkaiopihaaW.PrintWords
set_option linter.unusedVariables false
theorem awake15 : beaconlaw15_awake.f = some true := by
  unfold beaconlaw15_awake.f
  show (landdv_Marks.f 1 smallM 4621819117588971520).bind _ = _
  rw [smallM_marks,Option.bind_some]
  decide
end Go.Proofs.Ytjcnmpkaiopihaa.PA
namespace Go.Proofs.Ytjcnmpkaiopihaa.PA
open Go.RowKit Go.Proofs.YtjcnmpkaiopihaaW.PrintWords
set_option linter.unusedVariables false
def beaconlaw15_LanddvMarks.Pure : Prop := ∀ (a0 : Int) (l1 : List S54) (a2 : Nat),((Lit.int .i64 a0).wf = true) → (l1.length * 40 ≤ 140737488351232 ∧ ∀ y ∈ l1,ok54 y) → (a2 < 18446744073709551616) → ∃ k,beaconlaw15_LanddvMarks.f k a0 l1 a2 = some true
end Go.Proofs.Ytjcnmpkaiopihaa.PA
