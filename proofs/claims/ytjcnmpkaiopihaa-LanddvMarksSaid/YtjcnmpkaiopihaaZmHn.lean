/- scopedv.Balls: an error, or what is kept of all that was heard, sorted. Conditions: the floats are words, the lists fit in memory. -/
import Derived.Test.YtjcnmpkaiopihaaZmMn
import Derived.Test.YtjcnmpkaiopihaaZmPAx0
import Derived.Test.YtjcnmpkaiopihaaZmGu
import Derived.Test.YtjcnmpkaiopihaaZmMq
import Derived.Test.YtjcnmpkaiopihaaZmGs
import Derived.Test.YtjcnmpkaiopihaaZmPAx2
import Derived.Test.YtjcnmpkaiopihaaZmPAx26
import Derived.Test.YtjcnmpkaiopihaaZmPAx17
import Derived.Test.YtjcnmpkaiopihaaZmPAx23
import Derived.Test.YtjcnmpkaiopihaaZmMp
namespace Go.Proofs.Ytjcnmpkaiopihaa.PA
open Go.RowKit Go.Proofs.YtjcnmpkaiopihaaW.PrintWords Go.Proofs.YtjcnmpkaiopihaaW.PrintLast Go.Proofs.YtjcnmpkaiopihaaW.PrintMore
set_option linter.unusedVariables false
set_option linter.unusedSimpArgs false
def HeldB (w wr : World) (b : Nat) (M : List S58) : Prop := IsMap wr b (Value.int .i64) (enM M) ∧ KeptOk M ∧ Below w.heap.size w wr ∧ w.heap.size ≤ b
theorem heldB_made (w w1 : World) (hb : Below w.heap.size w w1) : HeldB w (w1.alloc (.map #[] 0)) w1.heap.size [] :=
  ⟨isMap_made w1,keptOk_nil,below_alloc hb _,hb.size⟩
end Go.Proofs.Ytjcnmpkaiopihaa.PA
namespace Go.Proofs.Ytjcnmpkaiopihaa.PA
open Go.Shelf Go.RowKit Go.Lib Go.Sort Go.Proofs.YtjcnmpkaiopihaaW.PrintWords Go.Proofs.YtjcnmpkaiopihaaW.PrintLast Go.Proofs.YtjcnmpkaiopihaaW.PrintMore
set_option linter.unusedVariables false
set_option linter.unusedSimpArgs false
def SmallN (x : S56) : Prop := 0 ≤ x.f0 ∧ x.f0 ≤ 4611686018427387904
abbrev NS := { x : S56 // SmallN x }
instance : Inhabited NS := ⟨⟨z56,by unfold SmallN z56;decide⟩⟩
end Go.Proofs.Ytjcnmpkaiopihaa.PA
namespace Go.Proofs.Ytjcnmpkaiopihaa.PA
open Go.RowKit Go.Proofs.YtjcnmpkaiopihaaW.PrintWords Go.Proofs.YtjcnmpkaiopihaaW.PrintLast Go.Proofs.YtjcnmpkaiopihaaW.PrintMore
theorem k54_mkF (W : World) (ok : Nat → Prop) (x : S54) {A2 : Option Addr} {c2 : Nat} (l2 : x.f2.length ≤ c2) (g2 : Kd.F k56 W ok A2 x.f2.length x.f2) : Kd.FK k54 W ok x [.int .i64 x.f0,.float .f64 x.f1,.slice A2 x.f2.length c2] := fun W2 hW => k54_mk W2 x l2 (g2 W2 hW)
end Go.Proofs.Ytjcnmpkaiopihaa.PA
namespace Go.Proofs.Ytjcnmpkaiopihaa.PA
open Go.RowKit Go.Proofs.YtjcnmpkaiopihaaW.PrintWords Go.Proofs.YtjcnmpkaiopihaaW.PrintLast Go.Proofs.YtjcnmpkaiopihaaW.PrintMore
set_option linter.unusedVariables false
set_option linter.unusedSimpArgs false
def EntsW (l : List S58) : Prop := ∀ x ∈ l,x.f2 < 18446744073709551616 ∧ x.f4 < 18446744073709551616
theorem EntsW.at {l : List S58} (h : EntsW l) (i : Nat) (hi : i < l.length) : (l.getD i z58).f2 < 18446744073709551616 ∧ (l.getD i z58).f4 < 18446744073709551616 := by
  rw [List.getD_eq_getElem?_getD,List.getElem?_eq_getElem hi]
  exact h _ (List.getElem_mem hi)
def TInv (w wr : World) (v : Value) (P : List S56) : Prop := Kd.R k56 56 wr w.heap.size (fun _ => True) v P ∧ Below w.heap.size w wr
theorem TInv.below {w wr W : World} {v : Value} {P : List S56} (h : TInv w wr v P) (hb : Below wr.heap.size wr W) : TInv w W v P := ⟨Kd.R_below h.1 hb,below_then h.2 h.2.size hb⟩
end Go.Proofs.Ytjcnmpkaiopihaa.PA
