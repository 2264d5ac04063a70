/- What is to be shown of the law LanddvTells, of numbers and lists alone. No condition. -/
import Derived.Test.YtjcnmpkaiopihaaZgPAx43
import Derived.Test.YtjcnmpkaiopihaaZgOkA
import Derived.Test.YtjcnmpkaiopihaaZgGh
import Derived.Test.YtjcnmpkaiopihaaZgGk
import Derived.Test.YtjcnmpkaiopihaaZgPAx42
namespace Go.Proofs.Ytjcnmpkaiopihaa.PA
open Go.RowKit Go.Proofs.YtjcnmpkaiopihaaW.PrintWords
set_option linter.unusedVariables false
def beaconlaw15_LanddvTells.Pure : Prop := ∀ (a0 : Int) (a1 : Bool) (l2 : List S58),((Lit.int .i64 a0).wf = true) → (l2.length * 48 ≤ 140737488351232 ∧ ∀ y ∈ l2,ok58 y) → ∃ k,beaconlaw15_LanddvTells.f k a0 a1 l2 = some true
end Go.Proofs.Ytjcnmpkaiopihaa.PA
namespace Go.Proofs.Ytjcnmpkaiopihaa.PA
open Go.RowKit Go.Proofs.YtjcnmpkaiopihaaW.PrintWords
set_option linter.unusedVariables false
theorem awake15 : beaconlaw15_awake.f = some true := by
  unfold beaconlaw15_awake.f
  show (landdv_Marks.f 1 smallM 4621819117588971520).bind _ = _
  rw [smallM_marks,Option.bind_some]
  decide
end Go.Proofs.Ytjcnmpkaiopihaa.PA
namespace Go.Proofs.Ytjcnmpkaiopihaa.PA
open Go.RowKit Go.Proofs.YtjcnmpkaiopihaaW.PrintWords
set_option linter.unusedVariables false
theorem LanddvTells_pure : beaconlaw15_LanddvTells.Pure := by
  intro self mark l hs hl
  have hw : EntsF l := fun x hx => (hl.2 x hx).2.2.1
  have hll : l.length < 2932031007402 := by have := hl.1;omega
  have hlen : (tellM self mark l).1.length ≤ l.length + 1 := by
    unfold tellM
    split
    · show (sortN _).length ≤ _
      rw [sortN_len]
      exact tellTo_len _ _ _ _
    simp
  refine ⟨3 * l.length + 5,?_⟩
  unfold beaconlaw15_LanddvTells.f
  rw [ent_all l hll _ (by omega),Option.bind_some,landdv_Tell.is self mark l hw hll,Option.bind_some,rtell_all self mark l hll _ (by omega),Option.bind_some,if_pos rfl,sameN_ref _ (by omega) _ (by omega),Option.bind_some,if_pos rfl,awake15,Option.bind_some]
end Go.Proofs.Ytjcnmpkaiopihaa.PA
