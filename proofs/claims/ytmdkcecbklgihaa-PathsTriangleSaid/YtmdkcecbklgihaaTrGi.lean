/- The document's distances, as the law asks for them. Conditions: weights and the limit are words. -/
import Derived.Test.YtmdkcecbklgihaaTrPAx9
import Derived.Test.YtmdkcecbklgihaaCHy
namespace Go.Proofs.Ytmdkcecbklgihaa.PA
open Go.RowKit Go.Proofs.YtmdkcecbklgihaaW.PrintWords
open Classical
set_option linter.unusedVariables false
set_option linter.unusedSimpArgs false
theorem Dists_tells {nodes : List S40} {links : List S74} (hF : Fits links) {mx : Nat} (hm : mx < 18446744073709551616) (id : Int) : Ev (fun k => beaconref08_Dists.f k nodes links mx id) (distsSpec nodes links mx id) := by
  obtain ⟨Ka,hKa⟩ := asked_tells (nodes := nodes) hF hm id
  by_cases h0 : askSpec nodes links mx id = 0
  · obtain ⟨T,-,-⟩ := askSpec_zero hm h0
    rw [distsSpec_ok h0]
    obtain ⟨K1,hK1⟩ := dists_tells T.good hF T.low T.high id T.there
    rw [T.lim] at hK1
    refine Ev.now (max Ka K1) (fun k hk => ?_)
    have hk1 : beaconref08_asked.f k nodes links mx id = some (askSpec nodes links mx id) := hKa k (by omega)
    have hk2 : beaconref08_dists.f k nodes links mx id = some (dbits (mqOf mx) (dQ nodes links (mqOf mx) (plc nodes id))) := hK1 k (by omega)
    unfold beaconref08_Dists.f
    rw [hk1,Option.bind_some,if_pos h0,hk2,Option.bind_some]
  · rw [distsSpec_no rfl h0]
    refine Ev.now Ka (fun k hk => ?_)
    have hk1 : beaconref08_asked.f k nodes links mx id = some (askSpec nodes links mx id) := hKa k hk
    unfold beaconref08_Dists.f
    rw [hk1,Option.bind_some,if_neg h0]
end Go.Proofs.Ytmdkcecbklgihaa.PA
