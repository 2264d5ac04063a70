/- landdv.list: whether news are a list. Conditions: they fit in memory, their floats are words. -/
import Derived.Test.YtjcnmpkaiopihaaZbHc
import Derived.Test.YtjcnmpkaiopihaaZbGo
namespace Go.Proofs.Ytjcnmpkaiopihaa.PA
open Go.RowKit Go.Proofs.YtjcnmpkaiopihaaW.PrintWords
set_option linter.unusedVariables false
set_option linter.unusedSimpArgs false
open Classical
noncomputable def landdv_list.f (l0 : List S56) : Option Bool := if l0.length * 40 ≤ 140737488355000 ∧ WordsN l0 then some (listB l0) else none
theorem landdv_list.calls (A0 : Option Addr) (c0 : Nat) (l0 : List S56) (r : Bool) (w : World) (hr0 : Kd.C k56 w A0 l0.length l0) (hc0 : l0.length ≤ c0) (h : landdv_list.f l0 = some r) :
    Calls Try.prog 51 #[.slice A0 l0.length c0] w fun e w' => e = .returned (.bool r) ∧ Below w.heap.size w w' := by
  unfold landdv_list.f at h
  by_cases hc : l0.length * 40 ≤ 140737488355000 ∧ WordsN l0
  · rw [if_pos hc] at h
    obtain rfl := Option.some.inj h
    exact list_any (2 * l0.length + 540) A0 c0 l0 _ w hr0 hc0 (list_prog l0 hc.2 (by omega) _ (Nat.le_refl _)) hc.1 (by omega)
  rw [if_neg hc] at h
  cases h
end Go.Proofs.Ytjcnmpkaiopihaa.PA
