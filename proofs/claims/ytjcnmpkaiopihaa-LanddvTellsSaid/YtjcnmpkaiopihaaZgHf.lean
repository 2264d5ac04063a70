/- Printed by a program of this session (wip/tools/patch_print.py and pr.py, over the kit's print): each Go function as a plain Lean function, and that the Go code comes to just its answers. Conditions: those that each theorem names. -/
import Derived.Test.YtjcnmpkaiopihaaZgMn
import Derived.Test.YtjcnmpkaiopihaaZgPAx0
import Derived.Test.YtjcnmpkaiopihaaZgPAx6
import Derived.Test.YtjcnmpkaiopihaaZgHc
import Derived.Test.YtjcnmpkaiopihaaZgGo
namespace Go.Proofs.Ytjcnmpkaiopihaa.PA
open Go.RowKit Go.Proofs.YtjcnmpkaiopihaaW.PrintWords Go.Proofs.YtjcnmpkaiopihaaW.PrintLast Go.Proofs.YtjcnmpkaiopihaaW.PrintMore
attribute [local go_sem] max2_int min2_int max_two min_two max_three min_three max_four min_four
set_option linter.unusedVariables false
set_option linter.unusedSimpArgs false
def beaconref01_Nan.f  : Option (Nat):=some 9221120237041090560
def beaconref01_Add.f (a0:Nat) (a1:Nat) (a2:Nat):Option (Nat):=(floatBits .add .f64 a0 a1).bind fun t203 => ((beaconref01_nan.f t203).bind fun t204 => (if t204 = true then ((beaconref01_Nan.f).bind fun t205 => (some t205)) else (if (FloatKind.f64.format.order t203 a2 == some .lt) = true then (if (FloatKind.f64.format.order t203 0 == some .eq) = true then (some 0) else (some t203)) else ((math_Inf.f 1).bind fun t206 => (some t206)))))
end Go.Proofs.Ytjcnmpkaiopihaa.PA
namespace Go.Proofs.Ytjcnmpkaiopihaa.PA
open Go.RowKit Go.Proofs.YtjcnmpkaiopihaaW.PrintWords
set_option linter.unusedVariables false
set_option linter.unusedSimpArgs false
open Classical
noncomputable def landdv_list.f (l0 : List S56) : Option Bool := if l0.length * 40 ≤ 140737488355000 ∧ WordsN l0 then some (listB l0) else none
theorem landdv_list.calls (A0 : Option Addr) (c0 : Nat) (l0 : List S56) (r : Bool) (w : World) (hr0 : Kd.C k56 w A0 l0.length l0) (hc0 : l0.length ≤ c0) (h : landdv_list.f l0 = some r) :
    Calls Try.prog 51 #[.slice A0 l0.length c0] w fun e w' => e = .returned (.bool r) ∧ Below w.heap.size w w' := by
  unfold landdv_list.f at h
  by_cases hc : l0.length * 40 ≤ 140737488355000 ∧ WordsN l0
  · rw [if_pos hc] at h
    obtain rfl := Option.some.inj h
    exact list_any (2 * l0.length + 540) A0 c0 l0 _ w hr0 hc0 (list_prog l0 hc.2 (by omega) _ (Nat.le_refl _)) hc.1 (by omega)
  rw [if_neg hc] at h
  cases h
end Go.Proofs.Ytjcnmpkaiopihaa.PA
