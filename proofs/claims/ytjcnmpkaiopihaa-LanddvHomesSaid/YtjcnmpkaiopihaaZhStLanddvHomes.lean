/- What comes in and is read as data fits the print's kinds: type by type; and what is to be shown of each law, of numbers and lists alone. No condition. -/
import Derived.Test.YtjcnmpkaiopihaaZhPAx0
import Derived.Test.YtjcnmpkaiopihaaZhOp
import Derived.KernelRfl
import Derived.Test.YtjcnmpkaiopihaaZhGr
import Derived.Test.YtjcnmpkaiopihaaZhPAx42
namespace Go.Proofs.Ytjcnmpkaiopihaa.PA
open Go.RowKit Go.Proofs.YtjcnmpkaiopihaaW.PrintWords
set_option linter.unusedVariables false
theorem o3 : Opens Try.prog 3 (Kd.int .i64) (fun n => (Lit.int .i64 n).wf = true) := opens_int (by kernel_rfl) Try.underlying3
theorem o23 : Opens Try.prog 23 Kd.float (fun n => n < 18446744073709551616) := opens_float (by kernel_rfl) Try.underlying23
def ok58 (x : S58) : Prop := ((Lit.int .i64 x.f0).wf = true) ∧ ((Lit.int .i64 x.f1).wf = true) ∧ (x.f2 < 18446744073709551616) ∧ ((Lit.int .i64 x.f3).wf = true) ∧ (x.f4 < 18446744073709551616) ∧ ((Lit.int .i64 x.f5).wf = true)
theorem o58 : Opens Try.prog 58 k58 ok58 := by
  have h := opens_struct (P := Try.prog) (t := 58) (f := (fun x : S58 => (x.f0,x.f1,x.f2,x.f3,x.f4,x.f5))) (mk := fun p => (⟨p.1,p.2.1,p.2.2.1,p.2.2.2.1,p.2.2.2.2.1,p.2.2.2.2.2⟩ : S58)) (fun _ => rfl) (by kernel_rfl) Try.underlying58 (opens_next rfl o3 (opens_next rfl o3 (opens_next rfl o23 (opens_next rfl o3 (opens_next rfl o23 (opens_last rfl o3))))))
  exact h
theorem o24 : Opens Try.prog 24 (Kd.slice 58 k58) (fun l => l.length * 48 ≤ 140737488351232 ∧ ∀ y ∈ l,ok58 y) := opens_slice 48 (by kernel_rfl) (by kernel_rfl) Try.underlying24 o58
end Go.Proofs.Ytjcnmpkaiopihaa.PA
namespace Go.Proofs.Ytjcnmpkaiopihaa.PA
open Go.RowKit Go.Proofs.YtjcnmpkaiopihaaW.PrintWords
set_option linter.unusedVariables false
set_option linter.unusedSimpArgs false
theorem order_gt_ne (a b : Nat) (h : (FloatKind.f64.format.order a b == some .gt) = true) : (FloatKind.f64.format.order a b == some .eq) = false := by
  rw [eq_of_beq h]
  rfl
end Go.Proofs.Ytjcnmpkaiopihaa.PA
namespace Go.Proofs.Ytjcnmpkaiopihaa.PA
open Go.RowKit Go.Proofs.YtjcnmpkaiopihaaW.PrintWords
set_option linter.unusedVariables false
def beaconlaw15_LanddvHomes.Pure : Prop := ∀ (a0 : Int) (a1 : Bool) (l2 : List S58),((Lit.int .i64 a0).wf = true) → (l2.length * 48 ≤ 140737488351232 ∧ ∀ y ∈ l2,ok58 y) → ∃ k,beaconlaw15_LanddvHomes.f k a0 a1 l2 = some true
end Go.Proofs.Ytjcnmpkaiopihaa.PA
