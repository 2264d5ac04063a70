/- PathsDists, of numbers and lists alone. No condition. -/
import Derived.Test.YtmdkcecbklgihaaDiGh
import Derived.Test.YtmdkcecbklgihaaDiGi
import Derived.Test.YtmdkcecbklgihaaDiStPathsDists
namespace Go.Proofs.Ytmdkcecbklgihaa.PA
open Go.RowKit Go.Proofs.YtmdkcecbklgihaaW.PrintWords
open Classical
set_option linter.unusedVariables false
theorem PathsDists_pure : beaconlaw08_PathsDists.Pure := by
  intro nodes links mx id hn hl hm hid
  have hF : Fits links := fun y hy => (hl.2 y hy).2.2.1
  obtain ⟨K,hK⟩ := Dists_tells (nodes := nodes) hF hm id
  refine ⟨K,?_⟩
  have h1 : beaconref08_Dists.f K nodes links mx id = some (distsSpec nodes links mx id) := hK K (Nat.le_refl _)
  unfold beaconlaw08_PathsDists.f paths_Dists.f beaconlaw08_floats.f
  rw [if_pos ⟨hF,hm⟩,Option.bind_some,h1,Option.bind_some,if_pos rfl,Option.bind_some,if_pos (by simp),awake_true,Option.bind_some]
end Go.Proofs.Ytmdkcecbklgihaa.PA
