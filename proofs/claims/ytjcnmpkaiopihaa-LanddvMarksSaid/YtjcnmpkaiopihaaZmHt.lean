/- landdv.Marks as a plain function, and that the Go call tells what it tells. Conditions: the floats are words, the lists fit in memory (else the plain function is none). -/
import Derived.Test.YtjcnmpkaiopihaaZmHs
namespace Go.Proofs.Ytjcnmpkaiopihaa.PA
open Go.RowKit Go.Proofs.YtjcnmpkaiopihaaW.PrintWords Go.Proofs.YtjcnmpkaiopihaaW.PrintLast Go.Proofs.YtjcnmpkaiopihaaW.PrintMore
set_option linter.unusedVariables false
set_option linter.unusedSimpArgs false
def marksV (self : Int) (l : List S54) (max : Nat) : List S58 × Int :=
  if ckE self l = 0 then (if lE max = 0 then (marksL (markA self max l),0) else ([],lE max)) else ([],ckE self l)
open Classical in
noncomputable def landdv_Marks.f (a0 : Int) (l1 : List (S54)) (a2 : Nat) : Option (List (S58) × Int) :=
  if HeardW l1 ∧ l1.length < 2305843009213693952 ∧ a2 < 18446744073709551616 then some (marksV a0 l1 a2) else none
theorem landdv_Marks.is (a0 : Int) (l1 : List S54) (a2 : Nat) (hw : HeardW l1) (hl : l1.length < 2305843009213693952) (hx : a2 < 18446744073709551616) : landdv_Marks.f a0 l1 a2 = some (marksV a0 l1 a2) := by
  unfold landdv_Marks.f
  rw [if_pos ⟨hw,hl,hx⟩]
theorem landdv_Marks.calls (a0 : Int) (A1 : Option Addr) (c1 : Nat) (l1 : List (S54)) (a2 : Nat) (r1 : List (S58)) (r2 : Int) (w : World) (hr1 : Kd.C k54 w A1 l1.length l1) (hc1 : l1.length ≤ c1) (h : landdv_Marks.f a0 l1 a2 = some (r1,r2)) :
    Calls Try.prog 13 #[.int .i64 a0,.slice A1 l1.length c1,.float .f64 a2] w fun e w' => ∃ v0_ : Value,e = .returned (.tuple #[v0_,.int .i64 r2]) ∧ Kd.R k58 58 w' w.heap.size (fun _ => True) v0_ r1 ∧ Below w.heap.size w w' := by
  unfold landdv_Marks.f at h
  split at h
  · rename_i hc
    obtain ⟨hw,hl,hx⟩ := hc
    unfold marksV at h
    by_cases h0 : ckE a0 l1 = 0
    · by_cases h1 : lE a2 = 0
      · rw [if_pos h0,if_pos h1] at h
        obtain ⟨rfl,rfl⟩ := Prod.mk.inj (Option.some.inj h)
        exact marks_good a0 A1 c1 l1 a2 w hr1 hc1 hw hl hx h0 h1
      rw [if_pos h0,if_neg h1] at h
      obtain ⟨rfl,rfl⟩ := Prod.mk.inj (Option.some.inj h)
      refine (marks_lim a0 A1 c1 l1 a2 w hr1 hc1 hw hl hx h0 h1).mono ?_
      rintro e w' ⟨rfl,hb⟩
      exact ⟨_,rfl,Kd.R_nil _ _ _ _ _,hb⟩
    rw [if_neg h0] at h
    obtain ⟨rfl,rfl⟩ := Prod.mk.inj (Option.some.inj h)
    refine (marks_bad a0 A1 c1 l1 a2 w hr1 hc1 hw hl hx h0).mono ?_
    rintro e w' ⟨rfl,hb⟩
    exact ⟨_,rfl,Kd.R_nil _ _ _ _ _,hb⟩
  cases h
end Go.Proofs.Ytjcnmpkaiopihaa.PA
