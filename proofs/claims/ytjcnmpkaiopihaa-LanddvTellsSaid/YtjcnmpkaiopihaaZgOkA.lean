/- The document's Balls in plain terms: what counts is kept by destination, the nearest of each; then sorted. Conditions: as each theorem names. -/
import Derived.Test.YtjcnmpkaiopihaaZgGr
import Derived.Test.YtjcnmpkaiopihaaZgMn
import Derived.Test.YtjcnmpkaiopihaaZgPAx0
import Derived.Test.YtjcnmpkaiopihaaZgPAx6
import Derived.Test.YtjcnmpkaiopihaaZgPAx26
import Derived.Test.YtjcnmpkaiopihaaZgHd
import Derived.Test.YtjcnmpkaiopihaaZgHh
import Derived.Test.YtjcnmpkaiopihaaZgOp
import Derived.KernelRfl
namespace Go.Proofs.Ytjcnmpkaiopihaa.PA
open Go.RowKit Go.Proofs.YtjcnmpkaiopihaaW.PrintWords Go.Proofs.YtjcnmpkaiopihaaW.PrintLast Go.Proofs.YtjcnmpkaiopihaaW.PrintMore
set_option linter.unusedVariables false
set_option linter.unusedSimpArgs false
def Ev {α : Type} (F : Nat → Option α) (r : α) : Prop := ∃ K,∀ k,K ≤ k → F k = some r
theorem Ev.next {α : Type} {F G : Nat → Option α} {r : α} (h : Ev G r) (e : ∀ k,F (k + 1) = G k) : Ev F r := by
  obtain ⟨K,hK⟩ := h
  refine ⟨K + 1,fun k hk => ?_⟩
  obtain ⟨j,rfl⟩ : ∃ j,k = j + 1 := ⟨k - 1,by omega⟩
  rw [e]
  exact hK j (by omega)
theorem rde (l : List S58) (i : Nat) : rd_T58 l (i : Int) = l.getD i z58 := by unfold rd_T58;rw [Int.toNat_natCast]
end Go.Proofs.Ytjcnmpkaiopihaa.PA
namespace Go.Proofs.Ytjcnmpkaiopihaa.PA
open Go.RowKit Go.Proofs.YtjcnmpkaiopihaaW.PrintWords
set_option linter.unusedVariables false
theorem o3 : Opens Try.prog 3 (Kd.int .i64) (fun n => (Lit.int .i64 n).wf = true) := opens_int (by kernel_rfl) Try.underlying3
theorem o23 : Opens Try.prog 23 Kd.float (fun n => n < 18446744073709551616) := opens_float (by kernel_rfl) Try.underlying23
def ok58 (x : S58) : Prop := ((Lit.int .i64 x.f0).wf = true) ∧ ((Lit.int .i64 x.f1).wf = true) ∧ (x.f2 < 18446744073709551616) ∧ ((Lit.int .i64 x.f3).wf = true) ∧ (x.f4 < 18446744073709551616) ∧ ((Lit.int .i64 x.f5).wf = true)
theorem o58 : Opens Try.prog 58 k58 ok58 := by
  have h := opens_struct (P := Try.prog) (t := 58) (f := (fun x : S58 => (x.f0,x.f1,x.f2,x.f3,x.f4,x.f5))) (mk := fun p => (⟨p.1,p.2.1,p.2.2.1,p.2.2.2.1,p.2.2.2.2.1,p.2.2.2.2.2⟩ : S58)) (fun _ => rfl) (by kernel_rfl) Try.underlying58 (opens_next rfl o3 (opens_next rfl o3 (opens_next rfl o23 (opens_next rfl o3 (opens_next rfl o23 (opens_last rfl o3))))))
  exact h
theorem o24 : Opens Try.prog 24 (Kd.slice 58 k58) (fun l => l.length * 48 ≤ 140737488351232 ∧ ∀ y ∈ l,ok58 y) := opens_slice 48 (by kernel_rfl) (by kernel_rfl) Try.underlying24 o58
end Go.Proofs.Ytjcnmpkaiopihaa.PA
