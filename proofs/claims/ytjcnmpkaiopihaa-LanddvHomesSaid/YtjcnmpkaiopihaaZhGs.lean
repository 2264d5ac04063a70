/- The document's Balls in plain terms: what counts is kept by destination, the nearest of each; then sorted. Conditions: as each theorem names. -/
import Derived.Test.YtjcnmpkaiopihaaZhGr
import Derived.Test.YtjcnmpkaiopihaaZhMn
import Derived.Test.YtjcnmpkaiopihaaZhPAx0
import Derived.Test.YtjcnmpkaiopihaaZhPAx4
import Derived.Test.YtjcnmpkaiopihaaZhPAx6
import Derived.Test.YtjcnmpkaiopihaaZhPAx26
import Derived.Test.YtjcnmpkaiopihaaZhHd
import Derived.Test.YtjcnmpkaiopihaaZhPAz
namespace Go.Proofs.Ytjcnmpkaiopihaa.PA
open Go.RowKit Go.Proofs.YtjcnmpkaiopihaaW.PrintWords Go.Proofs.YtjcnmpkaiopihaaW.PrintLast Go.Proofs.YtjcnmpkaiopihaaW.PrintMore
set_option linter.unusedVariables false
set_option linter.unusedSimpArgs false
def Ev {α : Type} (F : Nat → Option α) (r : α) : Prop := ∃ K,∀ k,K ≤ k → F k = some r
theorem Ev.next {α : Type} {F G : Nat → Option α} {r : α} (h : Ev G r) (e : ∀ k,F (k + 1) = G k) : Ev F r := by
  obtain ⟨K,hK⟩ := h
  refine ⟨K + 1,fun k hk => ?_⟩
  obtain ⟨j,rfl⟩ : ∃ j,k = j + 1 := ⟨k - 1,by omega⟩
  rw [e]
  exact hK j (by omega)
theorem rde (l : List S58) (i : Nat) : rd_T58 l (i : Int) = l.getD i z58 := by unfold rd_T58;rw [Int.toNat_natCast]
end Go.Proofs.Ytjcnmpkaiopihaa.PA
