/- News, sorted by destination: slices.SortFunc by the shelf, and what it leaves. Conditions: destinations are small, none stands twice. -/
import Derived.Test.YtjcnmpkaiopihaaZbHh
import Derived.Test.YtjcnmpkaiopihaaZbMn
import Derived.Test.YtjcnmpkaiopihaaZbGu
import Derived.Test.YtjcnmpkaiopihaaZbPAz
import Derived.Test.YtjcnmpkaiopihaaZbPAx2
import Derived.Test.YtjcnmpkaiopihaaZbPAx26
import Derived.Test.YtjcnmpkaiopihaaZbPAx17
import Derived.Test.YtjcnmpkaiopihaaZbPAx23
import Derived.Test.YtjcnmpkaiopihaaZbMp
namespace Go.Proofs.Ytjcnmpkaiopihaa.PA
open Go.Shelf Go.RowKit Go.Lib Go.Sort Go.Proofs.YtjcnmpkaiopihaaW.PrintWords Go.Proofs.YtjcnmpkaiopihaaW.PrintLast Go.Proofs.YtjcnmpkaiopihaaW.PrintMore
set_option linter.unusedVariables false
set_option linter.unusedSimpArgs false
def SmallN (x : S56) : Prop := 0 ≤ x.f0 ∧ x.f0 ≤ 4611686018427387904
abbrev NS := { x : S56 // SmallN x }
instance : Inhabited NS := ⟨⟨z56,by unfold SmallN z56;decide⟩⟩
end Go.Proofs.Ytjcnmpkaiopihaa.PA
namespace Go.Proofs.Ytjcnmpkaiopihaa.PA
open Go.RowKit Go.Proofs.YtjcnmpkaiopihaaW.PrintWords Go.Proofs.YtjcnmpkaiopihaaW.PrintLast Go.Proofs.YtjcnmpkaiopihaaW.PrintMore
set_option linter.unusedVariables false
set_option linter.unusedSimpArgs false
def EntsW (l : List S58) : Prop := ∀ x ∈ l,x.f2 < 18446744073709551616 ∧ x.f4 < 18446744073709551616
theorem EntsW.at {l : List S58} (h : EntsW l) (i : Nat) (hi : i < l.length) : (l.getD i z58).f2 < 18446744073709551616 ∧ (l.getD i z58).f4 < 18446744073709551616 := by
  rw [List.getD_eq_getElem?_getD,List.getElem?_eq_getElem hi]
  exact h _ (List.getElem_mem hi)
def TInv (w wr : World) (v : Value) (P : List S56) : Prop := Kd.R k56 56 wr w.heap.size (fun _ => True) v P ∧ Below w.heap.size w wr
theorem TInv.below {w wr W : World} {v : Value} {P : List S56} (h : TInv w wr v P) (hb : Below wr.heap.size wr W) : TInv w W v P := ⟨Kd.R_below h.1 hb,below_then h.2 h.2.size hb⟩
end Go.Proofs.Ytjcnmpkaiopihaa.PA
