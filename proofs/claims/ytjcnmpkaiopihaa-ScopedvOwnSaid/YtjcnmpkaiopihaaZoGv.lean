/- What comes in and is read as data fits the print's kinds: type by type; and what is to be shown of each law, of numbers and lists alone. No condition. -/
import Derived.Test.YtjcnmpkaiopihaaZoPAx0
import Derived.Test.YtjcnmpkaiopihaaZoOp
import Derived.KernelRfl
import Derived.Test.YtjcnmpkaiopihaaZoMn
import Derived.Test.YtjcnmpkaiopihaaZoGu
namespace Go.Proofs.Ytjcnmpkaiopihaa.PA
open Go.RowKit Go.Proofs.YtjcnmpkaiopihaaW.PrintWords
set_option linter.unusedVariables false
theorem o3 : Opens Try.prog 3 (Kd.int .i64) (fun n => (Lit.int .i64 n).wf = true) := opens_int (by kernel_rfl) Try.underlying3
theorem o23 : Opens Try.prog 23 Kd.float (fun n => n < 18446744073709551616) := opens_float (by kernel_rfl) Try.underlying23
def ok56 (x : S56) : Prop := ((Lit.int .i64 x.f0).wf = true) ∧ ((Lit.int .i64 x.f1).wf = true) ∧ (x.f2 < 18446744073709551616) ∧ (x.f3 < 18446744073709551616) ∧ ((Lit.int .i64 x.f4).wf = true)
theorem o56 : Opens Try.prog 56 k56 ok56 := by
  have h := opens_struct (P := Try.prog) (t := 56) (f := (fun x : S56 => (x.f0,x.f1,x.f2,x.f3,x.f4))) (mk := fun p => (⟨p.1,p.2.1,p.2.2.1,p.2.2.2.1,p.2.2.2.2⟩ : S56)) (fun _ => rfl) (by kernel_rfl) Try.underlying56 (opens_next rfl o3 (opens_next rfl o3 (opens_next rfl o23 (opens_next rfl o23 (opens_last rfl o3)))))
  exact h
theorem o35 : Opens Try.prog 35 (Kd.slice 56 k56) (fun l => l.length * 40 ≤ 140737488351232 ∧ ∀ y ∈ l,ok56 y) := opens_slice 40 (by kernel_rfl) (by kernel_rfl) Try.underlying35 o56
def ok54 (x : S54) : Prop := ((Lit.int .i64 x.f0).wf = true) ∧ (x.f1 < 18446744073709551616) ∧ (x.f2.length * 40 ≤ 140737488351232 ∧ ∀ y ∈ x.f2,ok56 y)
theorem o54 : Opens Try.prog 54 k54 ok54 := by
  have h := opens_struct (P := Try.prog) (t := 54) (f := (fun x : S54 => (x.f0,x.f1,x.f2))) (mk := fun p => (⟨p.1,p.2.1,p.2.2⟩ : S54)) (fun _ => rfl) (by kernel_rfl) Try.underlying54 (opens_next rfl o3 (opens_next rfl o23 (opens_last rfl o35)))
  exact h
theorem o22 : Opens Try.prog 22 (Kd.slice 54 k54) (fun l => l.length * 40 ≤ 140737488351232 ∧ ∀ y ∈ l,ok54 y) := opens_slice 40 (by kernel_rfl) (by kernel_rfl) Try.underlying22 o54
def ok34 (x : S34) : Prop := ((Lit.int .i64 x.f0).wf = true) ∧ ((Lit.int .i64 x.f1).wf = true) ∧ (x.f2 < 18446744073709551616)
theorem o34 : Opens Try.prog 34 k34 ok34 := by
  have h := opens_struct (P := Try.prog) (t := 34) (f := (fun x : S34 => (x.f0,x.f1,x.f2))) (mk := fun p => (⟨p.1,p.2.1,p.2.2⟩ : S34)) (fun _ => rfl) (by kernel_rfl) Try.underlying34 (opens_next rfl o3 (opens_next rfl o3 (opens_last rfl o23)))
  exact h
end Go.Proofs.Ytjcnmpkaiopihaa.PA
namespace Go.Proofs.Ytjcnmpkaiopihaa.PA
open Go.RowKit Go.Proofs.YtjcnmpkaiopihaaW.PrintWords Go.Proofs.YtjcnmpkaiopihaaW.PrintLast Go.Proofs.YtjcnmpkaiopihaaW.PrintMore
theorem k54_mkF (W : World) (ok : Nat → Prop) (x : S54) {A2 : Option Addr} {c2 : Nat} (l2 : x.f2.length ≤ c2) (g2 : Kd.F k56 W ok A2 x.f2.length x.f2) : Kd.FK k54 W ok x [.int .i64 x.f0,.float .f64 x.f1,.slice A2 x.f2.length c2] := fun W2 hW => k54_mk W2 x l2 (g2 W2 hW)
end Go.Proofs.Ytjcnmpkaiopihaa.PA
namespace Go.Proofs.Ytjcnmpkaiopihaa.PA
open Go.RowKit Go.Proofs.YtjcnmpkaiopihaaW.PrintWords Go.Proofs.YtjcnmpkaiopihaaW.PrintLast Go.Proofs.YtjcnmpkaiopihaaW.PrintMore
set_option linter.unusedVariables false
set_option linter.unusedSimpArgs false
theorem ballsV_len (self : Int) (l : List S54) (max : Nat) (hw : HeardW l) : (ballsV self l max).1.length ≤ 2147483647 := by
  unfold ballsV
  split
  · rename_i hc
    split
    · show (sortE (allB self max l)).length ≤ _
      rw [sortE_len]
      exact (allB_ok (okH_of hw hc)).len
    simp
  simp
end Go.Proofs.Ytjcnmpkaiopihaa.PA
