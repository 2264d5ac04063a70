/- PathsNexts, of numbers and lists alone. No condition. -/
import Derived.Test.YtmdkcecbklgihaaNxGh
import Derived.Test.YtmdkcecbklgihaaNxStPathsNexts
namespace Go.Proofs.Ytmdkcecbklgihaa.PA
open Go.RowKit Go.Proofs.YtmdkcecbklgihaaW.PrintWords
open Classical
set_option linter.unusedVariables false
theorem ok74_fits {l : List S74} (h : ∀ y ∈ l,ok74 y) : Fits l := fun y hy => (h y hy).2.2.1
theorem nextsSpec_len (nodes : List S40) (links : List S74) (mx : Nat) (hm : mx < 18446744073709551616) (id : Int) : (nextsSpec nodes links mx id).1.length ≤ 256 := by
  by_cases h0 : askSpec nodes links mx id = 0
  · rw [nextsSpec_ok h0]
    have := (askSpec_zero hm h0).1.good.n256
    simpa using this
  · rw [nextsSpec_no rfl h0]
    simp
theorem PathsNexts_pure : beaconlaw08_PathsNexts.Pure := by
  intro nodes links mx id hn hl hm hid
  have hF := ok74_fits hl.2
  have hlen := nextsSpec_len nodes links mx hm id
  obtain ⟨K1,h1⟩ := Nexts_tells (nodes := nodes) hF hm id
  obtain ⟨K2,h2⟩ := ints_same (nextsSpec nodes links mx id).1 (by omega)
  refine ⟨max K1 K2,?_⟩
  have h1' : beaconref08_Nexts.f (max K1 K2) nodes links mx id = some (nextsSpec nodes links mx id) := h1 _ (by omega)
  have h2' : beaconlaw08_ints.f (max K1 K2) (nextsSpec nodes links mx id).1 (nextsSpec nodes links mx id).1 = some true := h2 _ (by omega)
  unfold beaconlaw08_PathsNexts.f paths_Nexts.f
  rw [if_pos ⟨hF,hm⟩,Option.bind_some,h1',Option.bind_some,if_pos rfl,h2',Option.bind_some,if_pos rfl,awake_true,Option.bind_some]
end Go.Proofs.Ytmdkcecbklgihaa.PA
