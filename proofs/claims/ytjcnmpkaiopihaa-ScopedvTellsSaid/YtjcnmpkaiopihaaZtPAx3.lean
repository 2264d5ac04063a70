/- What comes in and is read as data fits the print's kinds: type by type; and what is to be shown of each law, of numbers and lists alone. No condition. -/
import Derived.Test.YtjcnmpkaiopihaaZtPAx0
import Derived.Test.YtjcnmpkaiopihaaZtOp
import Derived.KernelRfl
import Derived.Test.YtjcnmpkaiopihaaZtMn
import Derived.Test.YtjcnmpkaiopihaaZtPAx2
namespace Go.Proofs.Ytjcnmpkaiopihaa.PA
open Go.RowKit Go.Proofs.YtjcnmpkaiopihaaW.PrintWords
set_option linter.unusedVariables false
theorem o3 : Opens Try.prog 3 (Kd.int .i64) (fun n => (Lit.int .i64 n).wf = true) := opens_int (by kernel_rfl) Try.underlying3
theorem o23 : Opens Try.prog 23 Kd.float (fun n => n < 18446744073709551616) := opens_float (by kernel_rfl) Try.underlying23
def ok34 (x : S34) : Prop := ((Lit.int .i64 x.f0).wf = true) ∧ ((Lit.int .i64 x.f1).wf = true) ∧ (x.f2 < 18446744073709551616)
theorem o34 : Opens Try.prog 34 k34 ok34 := by
  have h := opens_struct (P := Try.prog) (t := 34) (f := (fun x : S34 => (x.f0,x.f1,x.f2))) (mk := fun p => (⟨p.1,p.2.1,p.2.2⟩ : S34)) (fun _ => rfl) (by kernel_rfl) Try.underlying34 (opens_next rfl o3 (opens_next rfl o3 (opens_last rfl o23)))
  exact h
def ok58 (x : S58) : Prop := ((Lit.int .i64 x.f0).wf = true) ∧ ((Lit.int .i64 x.f1).wf = true) ∧ (x.f2 < 18446744073709551616) ∧ ((Lit.int .i64 x.f3).wf = true) ∧ (x.f4 < 18446744073709551616) ∧ ((Lit.int .i64 x.f5).wf = true)
theorem o58 : Opens Try.prog 58 k58 ok58 := by
  have h := opens_struct (P := Try.prog) (t := 58) (f := (fun x : S58 => (x.f0,x.f1,x.f2,x.f3,x.f4,x.f5))) (mk := fun p => (⟨p.1,p.2.1,p.2.2.1,p.2.2.2.1,p.2.2.2.2.1,p.2.2.2.2.2⟩ : S58)) (fun _ => rfl) (by kernel_rfl) Try.underlying58 (opens_next rfl o3 (opens_next rfl o3 (opens_next rfl o23 (opens_next rfl o3 (opens_next rfl o23 (opens_last rfl o3))))))
  exact h
theorem o24 : Opens Try.prog 24 (Kd.slice 58 k58) (fun l => l.length * 48 ≤ 140737488351232 ∧ ∀ y ∈ l,ok58 y) := opens_slice 48 (by kernel_rfl) (by kernel_rfl) Try.underlying24 o58
end Go.Proofs.Ytjcnmpkaiopihaa.PA
namespace Go.Proofs.Ytjcnmpkaiopihaa.PA
open Go.RowKit Go.Proofs.YtjcnmpkaiopihaaW.PrintWords Go.Proofs.YtjcnmpkaiopihaaW.PrintLast Go.Proofs.YtjcnmpkaiopihaaW.PrintMore
theorem k54_mkF (W : World) (ok : Nat → Prop) (x : S54) {A2 : Option Addr} {c2 : Nat} (l2 : x.f2.length ≤ c2) (g2 : Kd.F k56 W ok A2 x.f2.length x.f2) : Kd.FK k54 W ok x [.int .i64 x.f0,.float .f64 x.f1,.slice A2 x.f2.length c2] := fun W2 hW => k54_mk W2 x l2 (g2 W2 hW)
end Go.Proofs.Ytjcnmpkaiopihaa.PA
namespace Go.Proofs.Ytjcnmpkaiopihaa.PA
open Go.RowKit Go.Proofs.YtjcnmpkaiopihaaW.PrintWords Go.Proofs.YtjcnmpkaiopihaaW.PrintLast Go.Proofs.YtjcnmpkaiopihaaW.PrintMore
attribute [local go_sem] max2_int min2_int max_two min_two max_three min_three max_four min_four
set_option linter.unusedVariables false
set_option linter.unusedSimpArgs false
def beaconref06_Before.f (a0_0:Int) (a0_1:Int) (a0_2:Nat) (a0_3:Nat) (a0_4:Int) (a1_0:Int) (a1_1:Int) (a1_2:Nat) (a1_3:Nat) (a1_4:Int):Option (Bool):=if a0_1 < a1_1 then (some true) else (if a0_1 = a1_1 then (some (decide (a0_0 < a1_0))) else (some false))
end Go.Proofs.Ytjcnmpkaiopihaa.PA
