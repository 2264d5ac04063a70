/- The law's own small question; a list of news is the same as itself; what comes in is of words. No condition but those each theorem names. -/
import Derived.Test.YtjcnmpkaiopihaaZgPAx0
import Derived.Test.YtjcnmpkaiopihaaZgHi
import Derived.Test.YtjcnmpkaiopihaaZgPAx6
import Derived.Test.YtjcnmpkaiopihaaZgPAx16
import Derived.Test.YtjcnmpkaiopihaaZgMn
import Derived.Test.YtjcnmpkaiopihaaZgPAx26
import Derived.Test.YtjcnmpkaiopihaaZgHd
import Derived.Test.YtjcnmpkaiopihaaZgPAx2
import Derived.Test.YtjcnmpkaiopihaaZgHj
import Derived.Test.YtjcnmpkaiopihaaZgHn
import Derived.Test.YtjcnmpkaiopihaaZgOkA
import Derived.Test.YtjcnmpkaiopihaaZgGu
import Derived.Test.YtjcnmpkaiopihaaZgHt
namespace Go.Proofs.Ytjcnmpkaiopihaa.PA
open Go.RowKit Go.Proofs.YtjcnmpkaiopihaaW.PrintWords Go.Proofs.YtjcnmpkaiopihaaW.PrintLast Go.Proofs.YtjcnmpkaiopihaaW.PrintMore
set_option linter.unusedVariables false
set_option linter.unusedSimpArgs false
theorem sameN_l0 (l : List S56) (hl : l.length < 4611686018427387904) : ∀ (n i k : Nat),i + n = l.length → 2 * n + 1 ≤ k → beaconref06_SameNews.l0 k l l (i : Int) = some true
  | 0,i,k + 1,e,hk => by
    rw [beaconref06_SameNews.l0,if_neg (by omega)]
  | n + 1,i,k + 2,e,hk => by
    have ih := sameN_l0 l hl n (i + 1) k (by omega) (by omega)
    rw [beaconref06_SameNews.l0,if_pos (by omega),if_pos (by omega),if_pos (by omega),if_pos rfl,if_pos rfl,if_pos rfl,if_pos rfl,bne_self_eq_false,beaconref06_SameNews.j1,if_neg (by decide),next64 _ (by omega),ih]
theorem sameN_ref (l : List S56) (hl : l.length < 4611686018427387904) (k : Nat) (hk : 2 * l.length + 1 ≤ k) : beaconref06_SameNews.f k l l = some true := by
  unfold beaconref06_SameNews.f
  rw [if_pos rfl]
  exact sameN_l0 l hl l.length 0 k (by omega) hk
end Go.Proofs.Ytjcnmpkaiopihaa.PA
namespace Go.Proofs.Ytjcnmpkaiopihaa.PA
open Go.RowKit Go.Proofs.YtjcnmpkaiopihaaW.PrintWords
set_option linter.unusedVariables false
set_option linter.unusedSimpArgs false
def smallM : List S54 := [(⟨2,4609434218613702656,[(⟨7,1,4613937818241073152,0,0⟩ : S56)]⟩ : S54)]
theorem smallM_w : HeardW smallM := by
  intro h hm
  rw [List.mem_singleton.1 hm]
  refine ⟨by show (4609434218613702656 : Nat) < _;decide,fun n hn => ?_,by show (1 : Nat) * 40 ≤ _;decide⟩
  rw [List.mem_singleton.1 hn]
  exact ⟨by show (4613937818241073152 : Nat) < _;decide,by show (0 : Nat) < _;decide⟩
theorem smallM_ck : ckE 1 smallM = 0 := by decide
theorem smallM_l : lE 4621819117588971520 = 0 := by decide
theorem smallM_all : markA 1 4621819117588971520 smallM = [(⟨7,1,4616752568008179712,2,0,0⟩ : S58)] := by rfl
theorem smallM_marks : landdv_Marks.f 1 smallM 4621819117588971520 = some ([(⟨7,1,4616752568008179712,2,0,0⟩ : S58)],0) := by
  rw [landdv_Marks.is 1 smallM _ smallM_w (by decide) (by decide)]
  unfold marksV
  rw [if_pos smallM_ck,if_pos smallM_l,smallM_all]
  have hk : keysV [(⟨7,1,4616752568008179712,2,0,0⟩ : S58)] = [7] := List.mergeSort_singleton _
  unfold marksL
  rw [hk]
  rfl
end Go.Proofs.Ytjcnmpkaiopihaa.PA
