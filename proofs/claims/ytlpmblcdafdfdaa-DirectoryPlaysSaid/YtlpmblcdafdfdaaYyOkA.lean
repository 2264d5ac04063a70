/- What comes in and is read as data fits the print's kinds: type by type; and what is to be shown of each law, of numbers and lists alone. No condition. -/
import Derived.Test.YtlpmblcdafdfdaaYyKd
import Derived.Test.YtlpmblcdafdfdaaYpPAx0
import Derived.Test.YtlpmblcdafdfdaaYyOp
import Derived.KernelRfl
namespace Go.Proofs.Ytlpmblcdafdfdaa.PA
open Go.RowKit Go.Proofs.YtlpmblcdafdfdaaW.PrintWords
set_option linter.unusedVariables false
theorem o3 : Opens Try.prog 3 (Kd.int .i64) (fun n => (Lit.int .i64 n).wf = true) := opens_int (by kernel_rfl) Try.underlying3
theorem o9 : Opens Try.prog 9 Kd.string (fun s => s.size ≤ 140737488351232) := opens_string (by kernel_rfl) Try.underlying9
theorem o22 : Opens Try.prog 22 (Kd.int .u64) (fun n => (Lit.int .u64 n).wf = true) := opens_int (by kernel_rfl) Try.underlying22
def ok30 (x : S30) : Prop := ((Lit.int .i64 x.f0).wf = true) ∧ ((Lit.int .i64 x.f1).wf = true) ∧ ((Lit.int .i64 x.f2).wf = true) ∧ ((Lit.int .i64 x.f3).wf = true) ∧ ((Lit.int .i64 x.f4).wf = true) ∧ ((Lit.int .i64 x.f5).wf = true) ∧ ((Lit.int .u64 x.f6).wf = true) ∧ ((Lit.int .i64 x.f7).wf = true) ∧ (x.f8.size ≤ 140737488351232) ∧ ((Lit.int .i64 x.f9).wf = true) ∧ ((Lit.int .i64 x.f10).wf = true) ∧ (x.f11.size ≤ 140737488351232)
theorem o30 : Opens Try.prog 30 k30 ok30 := by
  have h := opens_struct (P := Try.prog) (t := 30) (f := (fun x : S30 => (x.f0,x.f1,x.f2,x.f3,x.f4,x.f5,x.f6,x.f7,x.f8,x.f9,x.f10,x.f11))) (mk := fun p => (⟨p.1,p.2.1,p.2.2.1,p.2.2.2.1,p.2.2.2.2.1,p.2.2.2.2.2.1,p.2.2.2.2.2.2.1,p.2.2.2.2.2.2.2.1,p.2.2.2.2.2.2.2.2.1,p.2.2.2.2.2.2.2.2.2.1,p.2.2.2.2.2.2.2.2.2.2.1,p.2.2.2.2.2.2.2.2.2.2.2⟩ : S30)) (fun _ => rfl) (by kernel_rfl) Try.underlying30 (opens_next rfl o3 (opens_next rfl o3 (opens_next rfl o3 (opens_next rfl o3 (opens_next rfl o3 (opens_next rfl o3 (opens_next rfl o22 (opens_next rfl o3 (opens_next rfl o9 (opens_next rfl o3 (opens_next rfl o3 (opens_last rfl o9))))))))))))
  exact h
def ok46 (x : S46) : Prop := ((Lit.int .i64 x.f0).wf = true) ∧ (x.f1.size ≤ 140737488351232) ∧ ((Lit.int .i64 x.f2).wf = true) ∧ ((Lit.int .i64 x.f3).wf = true) ∧ ((Lit.int .i64 x.f4).wf = true) ∧ (ok30 (x.f5))
theorem o46 : Opens Try.prog 46 k46 ok46 := by
  have h := opens_struct (P := Try.prog) (t := 46) (f := (fun x : S46 => (x.f0,x.f1,x.f2,x.f3,x.f4,x.f5))) (mk := fun p => (⟨p.1,p.2.1,p.2.2.1,p.2.2.2.1,p.2.2.2.2.1,p.2.2.2.2.2⟩ : S46)) (fun _ => rfl) (by kernel_rfl) Try.underlying46 (opens_next rfl o3 (opens_next rfl o9 (opens_next rfl o3 (opens_next rfl o3 (opens_next rfl o3 (opens_last rfl o30))))))
  exact h
theorem o36 : Opens Try.prog 36 (Kd.slice 46 k46) (fun l => l.length * 160 ≤ 140737488351232 ∧ ∀ y ∈ l,ok46 y) := opens_slice 160 (by kernel_rfl) (by kernel_rfl) Try.underlying36 o46
end Go.Proofs.Ytlpmblcdafdfdaa.PA
