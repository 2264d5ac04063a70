/- The document's Balls in plain terms: what counts is kept by destination, the nearest of each; then sorted. Conditions: as each theorem names. -/
import Derived.Test.YtjcnmpkaiopihaaZoGr
import Derived.Test.YtjcnmpkaiopihaaZoMn
import Derived.Test.YtjcnmpkaiopihaaZoPAx0
import Derived.Test.YtjcnmpkaiopihaaZoPAx4
import Derived.Test.YtjcnmpkaiopihaaZoPAx1
import Derived.Test.YtjcnmpkaiopihaaZoPAx26
import Derived.Test.YtjcnmpkaiopihaaZoHd
import Derived.Test.YtjcnmpkaiopihaaZoHh
namespace Go.Proofs.Ytjcnmpkaiopihaa.PA
open Go.RowKit Go.Proofs.YtjcnmpkaiopihaaW.PrintWords Go.Proofs.YtjcnmpkaiopihaaW.PrintLast Go.Proofs.YtjcnmpkaiopihaaW.PrintMore
set_option linter.unusedVariables false
set_option linter.unusedSimpArgs false
def cntB (self : Int) (w : Nat) (n : S56) (max : Nat) : Bool := (n.f1 == 2) && knownC self w n max
def addB (e : S58) (M : List S58) : List S58 :=
  match enGet e.f0 M with
  | none => enPut e M
  | some b => if (FloatKind.f64.format.order e.f2 b.f2 == some .lt) = true then enPut e M else M
def stepB (self : Int) (max : Nat) (frm : Int) (w : Nat) (M : List S58) (n : S56) : List S58 :=
  if cntB self w n max = true then addB (knownE self frm w n max) M else M
def Ev {α : Type} (F : Nat → Option α) (r : α) : Prop := ∃ K,∀ k,K ≤ k → F k = some r
theorem Ev.next {α : Type} {F G : Nat → Option α} {r : α} (h : Ev G r) (e : ∀ k,F (k + 1) = G k) : Ev F r := by
  obtain ⟨K,hK⟩ := h
  refine ⟨K + 1,fun k hk => ?_⟩
  obtain ⟨j,rfl⟩ : ∃ j,k = j + 1 := ⟨k - 1,by omega⟩
  rw [e]
  exact hK j (by omega)
theorem rde (l : List S58) (i : Nat) : rd_T58 l (i : Int) = l.getD i z58 := by unfold rd_T58;rw [Int.toNat_natCast]
end Go.Proofs.Ytjcnmpkaiopihaa.PA
namespace Go.Proofs.Ytjcnmpkaiopihaa.PA
open Go.RowKit Go.Proofs.YtjcnmpkaiopihaaW.PrintWords Go.Proofs.YtjcnmpkaiopihaaW.PrintLast Go.Proofs.YtjcnmpkaiopihaaW.PrintMore
set_option linter.unusedVariables false
set_option linter.unusedSimpArgs false
theorem ahead16_is (a b : S58) : beaconref16_ahead.f a.f0 a.f1 a.f2 a.f3 a.f4 a.f5 b.f0 b.f1 b.f2 b.f3 b.f4 b.f5 = some (ltE a b) := by
  unfold beaconref16_ahead.f ltE
  by_cases h1 : a.f1 < b.f1
  · simp [h1]
  by_cases h2 : a.f1 = b.f1
  · simp [h1,h2]
  simp [h1,h2]
theorem addB_dests {e : S58} {M : List S58} (h : (M.map (·.f0)).Nodup) : ((addB e M).map (·.f0)).Nodup := by
  unfold addB
  split
  · exact enPut_dests h
  split
  · exact enPut_dests h
  exact h
theorem addB_mem {e x : S58} {M : List S58} (h : x ∈ addB e M) : x = e ∨ x ∈ M := by
  unfold addB at h
  split at h
  · exact enPut_mem h
  split at h
  · exact enPut_mem h
  exact .inr h
theorem stepB_dests {self : Int} {max : Nat} {frm : Int} {w : Nat} {M : List S58} {n : S56} (h : (M.map (·.f0)).Nodup) : ((stepB self max frm w M n).map (·.f0)).Nodup := by
  unfold stepB
  split
  · exact addB_dests h
  exact h
def oneB (self : Int) (max : Nat) (M : List S58) (h : S54) : List S58 := h.f2.foldl (stepB self max h.f0 h.f1) M
def allB (self : Int) (max : Nat) (l : List S54) : List S58 := l.foldl (oneB self max) []
theorem foldB_dests (self : Int) (max : Nat) (frm : Int) (w : Nat) : ∀ (ns : List S56) (M : List S58),(M.map (·.f0)).Nodup → ((ns.foldl (stepB self max frm w) M).map (·.f0)).Nodup
  | [],M,h => h
  | n :: r,M,h => foldB_dests self max frm w r _ (stepB_dests h)
theorem allB_dests' (self : Int) (max : Nat) : ∀ (l : List S54) (M : List S58),(M.map (·.f0)).Nodup → ((l.foldl (oneB self max) M).map (·.f0)).Nodup
  | [],M,h => h
  | a :: r,M,h => allB_dests' self max r _ (foldB_dests self max a.f0 a.f1 a.f2 M h)
theorem allB_dests (self : Int) (max : Nat) (l : List S54) : ((allB self max l).map (·.f0)).Nodup := allB_dests' self max l [] (by simp)
end Go.Proofs.Ytjcnmpkaiopihaa.PA
