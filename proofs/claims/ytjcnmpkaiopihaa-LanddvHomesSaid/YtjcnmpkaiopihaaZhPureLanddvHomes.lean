/- LanddvHomes, of numbers and lists alone. No condition. -/
import Derived.Test.YtjcnmpkaiopihaaZhGh
import Derived.Test.YtjcnmpkaiopihaaZhGk
import Derived.Test.YtjcnmpkaiopihaaZhStLanddvHomes
namespace Go.Proofs.Ytjcnmpkaiopihaa.PA
open Go.RowKit Go.Proofs.YtjcnmpkaiopihaaW.PrintWords
set_option linter.unusedVariables false
theorem awake15 : beaconlaw15_awake.f = some true := by
  unfold beaconlaw15_awake.f
  show (landdv_Marks.f 1 smallM 4621819117588971520).bind _ = _
  rw [smallM_marks,Option.bind_some]
  decide
theorem LanddvHomes_pure : beaconlaw15_LanddvHomes.Pure := by
  intro self mark l hs hl
  have hw : EntsF l := fun x hx => (hl.2 x hx).2.2.1
  have hll : l.length < 2932031007402 := by have := hl.1;omega
  refine ⟨5 * l.length + 3,?_⟩
  obtain ⟨a,b,c,d,h1,h2⟩ := homes_same self mark l hw hll (5 * l.length + 3) (Nat.le_refl _)
  unfold beaconlaw15_LanddvHomes.f
  rw [ent_all l hll _ (by omega),Option.bind_some,h1,Option.bind_some,h2,Option.bind_some,if_pos rfl,same_one _ _ (by omega),Option.bind_some,if_pos rfl,awake15,Option.bind_some]
end Go.Proofs.Ytjcnmpkaiopihaa.PA
