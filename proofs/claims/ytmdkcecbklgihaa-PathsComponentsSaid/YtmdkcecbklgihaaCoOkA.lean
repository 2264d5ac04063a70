/- What comes in and is read as data fits the print's kinds: type by type; and what is to be shown of each law, of numbers and lists alone. No condition. -/
import Derived.Test.YtmdkcecbklgihaaCcPAx0
import Derived.Test.YtmdkcecbklgihaaCoOp
import Derived.KernelRfl
namespace Go.Proofs.Ytmdkcecbklgihaa.PA
open Go.RowKit Go.Proofs.YtmdkcecbklgihaaW.PrintWords
set_option linter.unusedVariables false
theorem o3 : Opens Try.prog 3 (Kd.int .i64) (fun n => (Lit.int .i64 n).wf = true) := opens_int (by kernel_rfl) Try.underlying3
theorem o4 : Opens Try.prog 4 Kd.bool (fun _ => True) := opens_bool (by kernel_rfl) Try.underlying4
def ok40 (x : S40) : Prop := ((Lit.int .i64 x.f0).wf = true) ∧ (True) ∧ (True)
theorem o40 : Opens Try.prog 40 k40 ok40 := by
  have h := opens_struct (P := Try.prog) (t := 40) (f := (fun x : S40 => (x.f0,x.f1,x.f2))) (mk := fun p => (⟨p.1,p.2.1,p.2.2⟩ : S40)) (fun _ => rfl) (by kernel_rfl) Try.underlying40 (opens_next rfl o3 (opens_next rfl o4 (opens_last rfl o4)))
  exact h
theorem o22 : Opens Try.prog 22 (Kd.slice 40 k40) (fun l => l.length * 16 ≤ 140737488351232 ∧ ∀ y ∈ l,ok40 y) := opens_slice 16 (by kernel_rfl) (by kernel_rfl) Try.underlying22 o40
theorem o26 : Opens Try.prog 26 Kd.float (fun n => n < 18446744073709551616) := opens_float (by kernel_rfl) Try.underlying26
def ok74 (x : S74) : Prop := ((Lit.int .i64 x.f0).wf = true) ∧ ((Lit.int .i64 x.f1).wf = true) ∧ (x.f2 < 18446744073709551616) ∧ (True)
theorem o74 : Opens Try.prog 74 k74 ok74 := by
  have h := opens_struct (P := Try.prog) (t := 74) (f := (fun x : S74 => (x.f0,x.f1,x.f2,x.f3))) (mk := fun p => (⟨p.1,p.2.1,p.2.2.1,p.2.2.2⟩ : S74)) (fun _ => rfl) (by kernel_rfl) Try.underlying74 (opens_next rfl o3 (opens_next rfl o3 (opens_next rfl o26 (opens_last rfl o4))))
  exact h
theorem o23 : Opens Try.prog 23 (Kd.slice 74 k74) (fun l => l.length * 32 ≤ 140737488351232 ∧ ∀ y ∈ l,ok74 y) := opens_slice 32 (by kernel_rfl) (by kernel_rfl) Try.underlying23 o74
def ok25 (x : S25) : Prop := (x.f0.length * 16 ≤ 140737488351232 ∧ ∀ y ∈ x.f0,ok40 y) ∧ (x.f1.length * 32 ≤ 140737488351232 ∧ ∀ y ∈ x.f1,ok74 y)
theorem o25 : Opens Try.prog 25 k25 ok25 := by
  have h := opens_struct (P := Try.prog) (t := 25) (f := (fun x : S25 => (x.f0,x.f1))) (mk := fun p => (⟨p.1,p.2⟩ : S25)) (fun _ => rfl) (by kernel_rfl) Try.underlying25 (opens_next rfl o22 (opens_last rfl o23))
  exact h
end Go.Proofs.Ytmdkcecbklgihaa.PA
