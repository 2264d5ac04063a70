/- What a router may tell: its home and its entries: the program checks them as the document does. Conditions: the floats are words. -/
import Derived.Test.YtjcnmpkaiopihaaZgGu
import Derived.Test.YtjcnmpkaiopihaaZgPAx0
import Derived.Test.YtjcnmpkaiopihaaZgPAx2
import Derived.Test.YtjcnmpkaiopihaaZgPAx26
import Derived.Test.YtjcnmpkaiopihaaZgMn
import Derived.Test.YtjcnmpkaiopihaaZgPAx17
import Derived.Test.YtjcnmpkaiopihaaZgPAx23
import Derived.Test.YtjcnmpkaiopihaaZgGr
import Derived.Test.YtjcnmpkaiopihaaZgHm
import Derived.Test.YtjcnmpkaiopihaaZgHd
namespace Go.Proofs.Ytjcnmpkaiopihaa.PA
open Go.RowKit Go.Proofs.YtjcnmpkaiopihaaW.PrintWords Go.Proofs.YtjcnmpkaiopihaaW.PrintLast Go.Proofs.YtjcnmpkaiopihaaW.PrintMore
set_option linter.unusedVariables false
set_option linter.unusedSimpArgs false
theorem inf_far {a : Nat} (h : infB a = true) : farB a = true := by
  unfold farB beaconref06_Far.f
  rw [isInf1]
  show ((if infB a = true then _ else _ : Option Bool)).getD false = true
  rw [if_pos h]
  rfl
def zeroB (a : Nat) : Bool := FloatKind.f64.format.order a 0 == some .eq
end Go.Proofs.Ytjcnmpkaiopihaa.PA
namespace Go.Proofs.Ytjcnmpkaiopihaa.PA
open Go.RowKit Go.Proofs.YtjcnmpkaiopihaaW.PrintWords
set_option linter.unusedVariables false
set_option linter.unusedSimpArgs false
theorem order_gt_ne (a b : Nat) (h : (FloatKind.f64.format.order a b == some .gt) = true) : (FloatKind.f64.format.order a b == some .eq) = false := by
  rw [eq_of_beq h]
  rfl
end Go.Proofs.Ytjcnmpkaiopihaa.PA
namespace Go.Proofs.Ytjcnmpkaiopihaa.PA
open Go.RowKit Go.Proofs.YtjcnmpkaiopihaaW.PrintWords Go.Proofs.YtjcnmpkaiopihaaW.PrintLast Go.Proofs.YtjcnmpkaiopihaaW.PrintMore
theorem k54_mkF (W : World) (ok : Nat → Prop) (x : S54) {A2 : Option Addr} {c2 : Nat} (l2 : x.f2.length ≤ c2) (g2 : Kd.F k56 W ok A2 x.f2.length x.f2) : Kd.FK k54 W ok x [.int .i64 x.f0,.float .f64 x.f1,.slice A2 x.f2.length c2] := fun W2 hW => k54_mk W2 x l2 (g2 W2 hW)
end Go.Proofs.Ytjcnmpkaiopihaa.PA
namespace Go.Proofs.Ytjcnmpkaiopihaa.PA
open Go.RowKit Go.Proofs.YtjcnmpkaiopihaaW.PrintWords Go.Proofs.YtjcnmpkaiopihaaW.PrintLast Go.Proofs.YtjcnmpkaiopihaaW.PrintMore
set_option linter.unusedVariables false
set_option linter.unusedSimpArgs false
theorem ltN_lt {a b : S56} (h : ltN a b = true) : a.f0 < b.f0 := by simpa [ltN] using h
theorem sortN_of {L M : List S56} (hp : L.Perm M) (hn : (M.map (·.f0)).Nodup) (h : ByDst L) : L = sortN M :=
  byDst_unique (hp.trans (sortN_perm M).symm) h (sortN_byDst hn)
end Go.Proofs.Ytjcnmpkaiopihaa.PA
namespace Go.Proofs.Ytjcnmpkaiopihaa.PA
open Go.RowKit Go.Proofs.YtjcnmpkaiopihaaW.PrintWords Go.Proofs.YtjcnmpkaiopihaaW.PrintLast Go.Proofs.YtjcnmpkaiopihaaW.PrintMore
set_option linter.unusedVariables false
set_option linter.unusedSimpArgs false
def HeldB (w wr : World) (b : Nat) (M : List S58) : Prop := IsMap wr b (Value.int .i64) (enM M) ∧ KeptOk M ∧ Below w.heap.size w wr ∧ w.heap.size ≤ b
theorem heldB_made (w w1 : World) (hb : Below w.heap.size w w1) : HeldB w (w1.alloc (.map #[] 0)) w1.heap.size [] :=
  ⟨isMap_made w1,keptOk_nil,below_alloc hb _,hb.size⟩
end Go.Proofs.Ytjcnmpkaiopihaa.PA
