/- A list of entries is the same as itself. No condition but its length. -/
import Derived.Test.YtjcnmpkaiopihaaZbPAx28
import Derived.Test.YtjcnmpkaiopihaaZbGu
namespace Go.Proofs.Ytjcnmpkaiopihaa.PA
open Go.RowKit Go.Proofs.YtjcnmpkaiopihaaW.PrintWords Go.Proofs.YtjcnmpkaiopihaaW.PrintLast Go.Proofs.YtjcnmpkaiopihaaW.PrintMore
set_option linter.unusedVariables false
set_option linter.unusedSimpArgs false
theorem sameE_l0 (l : List S58) (hl : l.length < 4611686018427387904) : ∀ (n i k : Nat),i + n = l.length → 2 * n + 1 ≤ k → beaconref16_SameEntries.l0 k l l (i : Int) = some true
  | 0,i,k + 1,e,hk => by
    rw [beaconref16_SameEntries.l0,if_neg (by omega)]
  | n + 1,i,k + 2,e,hk => by
    have ih := sameE_l0 l hl n (i + 1) k (by omega) (by omega)
    rw [beaconref16_SameEntries.l0,if_pos (by omega),if_pos (by omega),if_pos (by omega),if_pos rfl,if_pos rfl,if_pos rfl,if_pos rfl,if_pos rfl,bne_self_eq_false,beaconref16_SameEntries.j1,if_neg (by decide),next64 _ (by omega),ih]
theorem sameE_ref (l : List S58) (hl : l.length < 4611686018427387904) (k : Nat) (hk : 2 * l.length + 1 ≤ k) : beaconref16_SameEntries.f k l l = some true := by
  unfold beaconref16_SameEntries.f
  rw [if_pos rfl]
  exact sameE_l0 l hl l.length 0 k (by omega) hk
theorem ballsV_len (self : Int) (l : List S54) (max : Nat) (hw : HeardW l) : (ballsV self l max).1.length ≤ 2147483647 := by
  unfold ballsV
  split
  · rename_i hc
    split
    · show (sortE (allB self max l)).length ≤ _
      rw [sortE_len]
      exact (allB_ok (okH_of hw hc)).len
    simp
  simp
end Go.Proofs.Ytjcnmpkaiopihaa.PA
