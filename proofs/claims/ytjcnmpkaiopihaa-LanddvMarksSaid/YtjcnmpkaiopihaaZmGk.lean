/- The law's own small question; a list of news is the same as itself; what comes in is of words. No condition but those each theorem names. -/
import Derived.Test.YtjcnmpkaiopihaaZmPAx0
import Derived.Test.YtjcnmpkaiopihaaZmHn
import Derived.Test.YtjcnmpkaiopihaaZmPAx4
import Derived.Test.YtjcnmpkaiopihaaZmMn
import Derived.Test.YtjcnmpkaiopihaaZmPAx5
import Derived.Test.YtjcnmpkaiopihaaZmPAx6
import Derived.Test.YtjcnmpkaiopihaaZmPAx26
import Derived.Test.YtjcnmpkaiopihaaZmHf
import Derived.Test.YtjcnmpkaiopihaaZmPAx2
import Derived.Test.YtjcnmpkaiopihaaZmHj
import Derived.Test.YtjcnmpkaiopihaaZmGs
import Derived.Test.YtjcnmpkaiopihaaZmGu
import Derived.Test.YtjcnmpkaiopihaaZmHt
namespace Go.Proofs.Ytjcnmpkaiopihaa.PA
open Go.RowKit Go.Proofs.YtjcnmpkaiopihaaW.PrintWords Go.Proofs.YtjcnmpkaiopihaaW.PrintLast Go.Proofs.YtjcnmpkaiopihaaW.PrintMore
set_option linter.unusedVariables false
set_option linter.unusedSimpArgs false
theorem heardW_of {l : List S54} (h : ∀ y ∈ l,ok54 y) : HeardW l := fun y hy => by
  obtain ⟨_,h1,h2,h3⟩ := h y hy
  exact ⟨h1,fun n hn => ⟨(h3 n hn).2.2.1,(h3 n hn).2.2.2.1⟩,by omega⟩
end Go.Proofs.Ytjcnmpkaiopihaa.PA
namespace Go.Proofs.Ytjcnmpkaiopihaa.PA
open Go.RowKit Go.Proofs.YtjcnmpkaiopihaaW.PrintWords
set_option linter.unusedVariables false
set_option linter.unusedSimpArgs false
def smallM : List S54 := [(⟨2,4609434218613702656,[(⟨7,1,4613937818241073152,0,0⟩ : S56)]⟩ : S54)]
theorem smallM_w : HeardW smallM := by
  intro h hm
  rw [List.mem_singleton.1 hm]
  refine ⟨by show (4609434218613702656 : Nat) < _;decide,fun n hn => ?_,by show (1 : Nat) * 40 ≤ _;decide⟩
  rw [List.mem_singleton.1 hn]
  exact ⟨by show (4613937818241073152 : Nat) < _;decide,by show (0 : Nat) < _;decide⟩
theorem smallM_ck : ckE 1 smallM = 0 := by decide
theorem smallM_l : lE 4621819117588971520 = 0 := by decide
theorem smallM_all : markA 1 4621819117588971520 smallM = [(⟨7,1,4616752568008179712,2,0,0⟩ : S58)] := by rfl
theorem smallM_marks : landdv_Marks.f 1 smallM 4621819117588971520 = some ([(⟨7,1,4616752568008179712,2,0,0⟩ : S58)],0) := by
  rw [landdv_Marks.is 1 smallM _ smallM_w (by decide) (by decide)]
  unfold marksV
  rw [if_pos smallM_ck,if_pos smallM_l,smallM_all]
  have hk : keysV [(⟨7,1,4616752568008179712,2,0,0⟩ : S58)] = [7] := List.mergeSort_singleton _
  unfold marksL
  rw [hk]
  rfl
end Go.Proofs.Ytjcnmpkaiopihaa.PA
