/- What comes in and is read as data fits the print's kinds: type by type; and what is to be shown of each law, of numbers and lists alone. No condition. -/
import Derived.Test.YtlpmblcdafdfdaaAnKd
import Derived.Test.YtlpmblcdafdfdaaAnKe
import Derived.Test.YtlpmblcdafdfdaaAcPAx0
import Derived.Test.YtlpmblcdafdfdaaAnOp
import Derived.KernelRfl
namespace Go.Proofs.Ytlpmblcdafdfdaa.PA
open Go.RowKit Go.Proofs.YtlpmblcdafdfdaaW.PrintWords
set_option linter.unusedVariables false
theorem o3 : Opens Try.prog 3 (Kd.int .i64) (fun n => (Lit.int .i64 n).wf = true) := opens_int (by kernel_rfl) Try.underlying3
theorem o22 : Opens Try.prog 22 (Kd.int .u64) (fun n => (Lit.int .u64 n).wf = true) := opens_int (by kernel_rfl) Try.underlying22
def ok24 (x : S24) : Prop := ((Lit.int .i64 x.f0).wf = true) ∧ ((Lit.int .i64 x.f1).wf = true) ∧ ((Lit.int .i64 x.f2).wf = true) ∧ ((Lit.int .u64 x.f3).wf = true)
theorem o24 : Opens Try.prog 24 k24 ok24 := by
  have h := opens_struct (P := Try.prog) (t := 24) (f := (fun x : S24 => (x.f0,x.f1,x.f2,x.f3))) (mk := fun p => (⟨p.1,p.2.1,p.2.2.1,p.2.2.2⟩ : S24)) (fun _ => rfl) (by kernel_rfl) Try.underlying24 (opens_next rfl o3 (opens_next rfl o3 (opens_next rfl o3 (opens_last rfl o22))))
  exact h
theorem o25 : Opens Try.prog 25 (Kd.slice 3 (Kd.int .i64)) (fun l => l.length * 8 ≤ 140737488351232 ∧ ∀ y ∈ l,(Lit.int .i64 y).wf = true) := opens_slice 8 (by kernel_rfl) (by kernel_rfl) Try.underlying25 o3
def ok72 (x : S72) : Prop := (ok24 (x.f0)) ∧ (ok24 (x.f1))
theorem o72 : Opens Try.prog 72 k72 ok72 := by
  have h := opens_array2 (P := Try.prog) (t := 72) (f := (fun x : S72 => (x.f0,x.f1))) (mk := fun p => (⟨p.1,p.2⟩ : S72)) (fun _ => rfl) (by kernel_rfl) Try.underlying72 o24
  exact h
def ok74 (x : S74) : Prop := (x.f0.length * 8 ≤ 140737488351232 ∧ ∀ y ∈ x.f0,(Lit.int .i64 y).wf = true) ∧ ((Lit.int .i64 x.f1).wf = true) ∧ ((Lit.int .i64 x.f2).wf = true)
theorem o74 : Opens Try.prog 74 k74 ok74 := by
  have h := opens_struct (P := Try.prog) (t := 74) (f := (fun x : S74 => (x.f0,x.f1,x.f2))) (mk := fun p => (⟨p.1,p.2.1,p.2.2⟩ : S74)) (fun _ => rfl) (by kernel_rfl) Try.underlying74 (opens_next rfl o25 (opens_next rfl o3 (opens_last rfl o3)))
  exact h
end Go.Proofs.Ytlpmblcdafdfdaa.PA
