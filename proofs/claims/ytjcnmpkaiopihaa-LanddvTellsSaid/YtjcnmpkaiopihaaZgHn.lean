/- Printed by a program of this session (wip/tools/patch_print.py and pr.py, over the kit's print): each Go function as a plain Lean function, and that the Go code comes to just its answers. Conditions: those that each theorem names. -/
import Derived.Test.YtjcnmpkaiopihaaZgPAx0
import Derived.Test.YtjcnmpkaiopihaaZgMn
import Derived.Test.YtjcnmpkaiopihaaZgHi
import Derived.Test.YtjcnmpkaiopihaaZgMp
namespace Go.Proofs.Ytjcnmpkaiopihaa.PA
open Go.RowKit Go.Proofs.YtjcnmpkaiopihaaW.PrintWords Go.Proofs.YtjcnmpkaiopihaaW.PrintLast Go.Proofs.YtjcnmpkaiopihaaW.PrintMore
attribute [local go_sem] max2_int min2_int max_two min_two max_three min_three max_four min_four
set_option linter.unusedVariables false
set_option linter.unusedSimpArgs false
def beaconref15_Far.f (a0:Nat):Option (Bool):=some (FloatKind.f64.format.order a0 9218868437227405311 == some .gt)
set_option maxHeartbeats 8000000 in
set_option maxRecDepth 100000 in
theorem beaconref15_Far.calls (a0:Nat) (r:Bool) (w:World) (h:beaconref15_Far.f a0 = some r) :
  Calls Try.prog 67 #[.float .f64 a0] w fun e w' => e = .returned (.bool r) ∧ Drawn0 w w':=by
 have H:(some (FloatKind.f64.format.order a0 9218868437227405311 == some .gt)) = some r:=h
 clear h
 obtain rfl:=Option.some.inj H
 go_enter Try.func67,Try.ntmps67
 go_wp2
 go_ret
 exact ⟨by first | rfl | (simp;done) | (simp [*];done),by repeat (first | exact Drawn0.refl _ | apply Drawn0.step)⟩
end Go.Proofs.Ytjcnmpkaiopihaa.PA
namespace Go.Proofs.Ytjcnmpkaiopihaa.PA
open Go.RowKit Go.Proofs.YtjcnmpkaiopihaaW.PrintWords Go.Proofs.YtjcnmpkaiopihaaW.PrintLast Go.Proofs.YtjcnmpkaiopihaaW.PrintMore
set_option linter.unusedVariables false
set_option linter.unusedSimpArgs false
def EntsW (l : List S58) : Prop := ∀ x ∈ l,x.f2 < 18446744073709551616 ∧ x.f4 < 18446744073709551616
theorem EntsW.at {l : List S58} (h : EntsW l) (i : Nat) (hi : i < l.length) : (l.getD i z58).f2 < 18446744073709551616 ∧ (l.getD i z58).f4 < 18446744073709551616 := by
  rw [List.getD_eq_getElem?_getD,List.getElem?_eq_getElem hi]
  exact h _ (List.getElem_mem hi)
def TInv (w wr : World) (v : Value) (P : List S56) : Prop := Kd.R k56 56 wr w.heap.size (fun _ => True) v P ∧ Below w.heap.size w wr
theorem TInv.below {w wr W : World} {v : Value} {P : List S56} (h : TInv w wr v P) (hb : Below wr.heap.size wr W) : TInv w W v P := ⟨Kd.R_below h.1 hb,below_then h.2 h.2.size hb⟩
end Go.Proofs.Ytjcnmpkaiopihaa.PA
