/- LanddvMarks, of numbers and lists alone. No condition. -/
import Derived.Test.YtjcnmpkaiopihaaZmGk
import Derived.Test.YtjcnmpkaiopihaaZmStLanddvMarks
namespace Go.Proofs.Ytjcnmpkaiopihaa.PA
open Go.RowKit Go.Proofs.YtjcnmpkaiopihaaW.PrintWords
set_option linter.unusedVariables false
theorem same09_l0 (l : List S58) (hl : l.length < 4611686018427387904) : ∀ (n i k : Nat),i + n = l.length → 2 * n + 1 ≤ k → beaconref09_SameEntries.l0 k l l (i : Int) = some true
  | 0,i,k + 1,e,hk => by
    rw [beaconref09_SameEntries.l0,if_neg (by omega)]
  | n + 1,i,k + 2,e,hk => by
    have ih := same09_l0 l hl n (i + 1) k (by omega) (by omega)
    have hs : ∀ a : Nat,beaconref01_Same.f a a = some true := fun a => by
      unfold beaconref01_Same.f
      simp
    rw [beaconref09_SameEntries.l0,if_pos (by omega),if_pos (by omega),if_pos (by omega),if_pos rfl,if_pos rfl,if_pos rfl,if_pos rfl,hs,Option.bind_some,if_pos rfl,hs,Option.bind_some,beaconref09_SameEntries.j1]
    show (if (!true) = true then _ else _) = _
    rw [if_neg (by decide),next64 _ (by omega),ih]
theorem same09 (l : List S58) (hl : l.length < 4611686018427387904) (k : Nat) (hk : 2 * l.length + 1 ≤ k) : beaconref09_SameEntries.f k l l = some true := by
  unfold beaconref09_SameEntries.f
  rw [if_pos rfl]
  exact same09_l0 l hl l.length 0 k (by omega) hk
theorem LanddvMarks_pure : beaconlaw15_LanddvMarks.Pure := by
  intro self l max hs hl hx
  have hW := heardW_of hl.2
  have hll : l.length < 3518437208883 := by have := hl.1;omega
  have hnl : ∀ h ∈ l,h.f2.length < 3518437208883 := fun h hm => by
    obtain ⟨_,_,h2,_⟩ := hl.2 h hm
    omega
  obtain ⟨K,hK⟩ := copy_all l hll hnl
  have hlen : (marksV self l max).1.length ≤ 2147483647 := by
    unfold marksV
    by_cases h0 : ckE self l = 0
    · rw [if_pos h0]
      by_cases h1 : lE max = 0
      · rw [if_pos h1]
        show (marksL (markA self max l)).length ≤ _
        have hk := markA_ok (self := self) (max := max) (okH_of hW h0)
        unfold marksL keysV
        rw [List.length_map,List.length_mergeSort,List.length_map]
        exact hk.len
      rw [if_neg h1]
      simp
    rw [if_neg h0]
    simp
  refine ⟨K + 2 * l.length + 10555311626640 + 2 * 2147483647 + 1,?_⟩
  generalize hk : K + 2 * l.length + 10555311626640 + 2 * 2147483647 + 1 = k
  have hC : beaconref13_Copy.f k l = some l := hK k (by omega)
  unfold beaconlaw15_LanddvMarks.f
  rw [hC,Option.bind_some,landdv_Marks.is self l max hW (by omega) hx,Option.bind_some,beaconref15_Marks.is k self l max hW hll hx,Option.bind_some,if_pos rfl,same09 _ (by omega) k (by omega),Option.bind_some,if_pos rfl,Option.bind_some,prog_ck self l hW (by omega) k (by omega),Option.bind_some,ref_ck self l hW (by omega) k (by omega),Option.bind_some,if_pos rfl,awake15,Option.bind_some]
end Go.Proofs.Ytjcnmpkaiopihaa.PA
