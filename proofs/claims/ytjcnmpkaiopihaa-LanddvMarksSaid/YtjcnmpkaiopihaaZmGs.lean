/- What comes in and is read as data fits the print's kinds: type by type; and what is to be shown of each law, of numbers and lists alone. No condition. -/
import Derived.Test.YtjcnmpkaiopihaaZmPAx0
import Derived.Test.YtjcnmpkaiopihaaZmOp
import Derived.KernelRfl
import Derived.Shelf.SlSortCmp.NoneTotal
import Derived.Ground.SlsfProg
import Derived.Test.YtjcnmpkaiopihaaProg
import Derived.WalkLawsBesides
import Derived.Test.YtjcnmpkaiopihaaZmGr
import Derived.Test.YtjcnmpkaiopihaaZmMn
import Derived.Test.YtjcnmpkaiopihaaZmPAx5
import Derived.Test.YtjcnmpkaiopihaaZmPAx6
import Derived.Test.YtjcnmpkaiopihaaZmPAx26
import Derived.Test.YtjcnmpkaiopihaaZmHf
namespace Go.Proofs.Ytjcnmpkaiopihaa.PA
open Go.RowKit Go.Proofs.YtjcnmpkaiopihaaW.PrintWords
set_option linter.unusedVariables false
theorem o3 : Opens Try.prog 3 (Kd.int .i64) (fun n => (Lit.int .i64 n).wf = true) := opens_int (by kernel_rfl) Try.underlying3
theorem o23 : Opens Try.prog 23 Kd.float (fun n => n < 18446744073709551616) := opens_float (by kernel_rfl) Try.underlying23
def ok56 (x : S56) : Prop := ((Lit.int .i64 x.f0).wf = true) ∧ ((Lit.int .i64 x.f1).wf = true) ∧ (x.f2 < 18446744073709551616) ∧ (x.f3 < 18446744073709551616) ∧ ((Lit.int .i64 x.f4).wf = true)
theorem o56 : Opens Try.prog 56 k56 ok56 := by
  have h := opens_struct (P := Try.prog) (t := 56) (f := (fun x : S56 => (x.f0,x.f1,x.f2,x.f3,x.f4))) (mk := fun p => (⟨p.1,p.2.1,p.2.2.1,p.2.2.2.1,p.2.2.2.2⟩ : S56)) (fun _ => rfl) (by kernel_rfl) Try.underlying56 (opens_next rfl o3 (opens_next rfl o3 (opens_next rfl o23 (opens_next rfl o23 (opens_last rfl o3)))))
  exact h
theorem o35 : Opens Try.prog 35 (Kd.slice 56 k56) (fun l => l.length * 40 ≤ 140737488351232 ∧ ∀ y ∈ l,ok56 y) := opens_slice 40 (by kernel_rfl) (by kernel_rfl) Try.underlying35 o56
def ok54 (x : S54) : Prop := ((Lit.int .i64 x.f0).wf = true) ∧ (x.f1 < 18446744073709551616) ∧ (x.f2.length * 40 ≤ 140737488351232 ∧ ∀ y ∈ x.f2,ok56 y)
theorem o54 : Opens Try.prog 54 k54 ok54 := by
  have h := opens_struct (P := Try.prog) (t := 54) (f := (fun x : S54 => (x.f0,x.f1,x.f2))) (mk := fun p => (⟨p.1,p.2.1,p.2.2⟩ : S54)) (fun _ => rfl) (by kernel_rfl) Try.underlying54 (opens_next rfl o3 (opens_next rfl o23 (opens_last rfl o35)))
  exact h
theorem o22 : Opens Try.prog 22 (Kd.slice 54 k54) (fun l => l.length * 40 ≤ 140737488351232 ∧ ∀ y ∈ l,ok54 y) := opens_slice 40 (by kernel_rfl) (by kernel_rfl) Try.underlying22 o54
end Go.Proofs.Ytjcnmpkaiopihaa.PA
namespace Go.Proofs.Ytjcnmpkaiopihaa.PA
open Go.Shelf Go.RowKit Go.Lib Go.Sort Go.Proofs.YtjcnmpkaiopihaaW.PrintWords Go.Proofs.YtjcnmpkaiopihaaW.PrintLast Go.Proofs.YtjcnmpkaiopihaaW.PrintMore
set_option linter.unusedVariables false
set_option linter.unusedSimpArgs false
def SmallE (x : S58) : Prop := 0 ≤ x.f1 ∧ x.f1 ≤ 4611686018427387904 ∧ 0 ≤ x.f0 ∧ x.f0 ≤ 4611686018427387904
abbrev ES := { x : S58 // SmallE x }
instance : Inhabited ES := ⟨⟨z58,by unfold SmallE z58;decide⟩⟩
end Go.Proofs.Ytjcnmpkaiopihaa.PA
namespace Go.Proofs.Ytjcnmpkaiopihaa.PA
open Go.RowKit Go.Proofs.YtjcnmpkaiopihaaW.PrintWords Go.Proofs.YtjcnmpkaiopihaaW.PrintLast Go.Proofs.YtjcnmpkaiopihaaW.PrintMore
set_option linter.unusedVariables false
set_option linter.unusedSimpArgs false
def Ev {α : Type} (F : Nat → Option α) (r : α) : Prop := ∃ K,∀ k,K ≤ k → F k = some r
theorem Ev.next {α : Type} {F G : Nat → Option α} {r : α} (h : Ev G r) (e : ∀ k,F (k + 1) = G k) : Ev F r := by
  obtain ⟨K,hK⟩ := h
  refine ⟨K + 1,fun k hk => ?_⟩
  obtain ⟨j,rfl⟩ : ∃ j,k = j + 1 := ⟨k - 1,by omega⟩
  rw [e]
  exact hK j (by omega)
end Go.Proofs.Ytjcnmpkaiopihaa.PA
