/- landdv.Tell as a plain function, and that the Go call tells what it tells. Conditions: the floats are words, the list fits in memory (else the plain function is none). -/
import Derived.Test.YtjcnmpkaiopihaaZgHp
import Derived.Test.YtjcnmpkaiopihaaZgHs
namespace Go.Proofs.Ytjcnmpkaiopihaa.PA
open Go.RowKit Go.Proofs.YtjcnmpkaiopihaaW.PrintWords Go.Proofs.YtjcnmpkaiopihaaW.PrintLast Go.Proofs.YtjcnmpkaiopihaaW.PrintMore
set_option linter.unusedVariables false
set_option linter.unusedSimpArgs false
open Classical in
noncomputable def landdv_Tell.f (a0 : Int) (a1 : Bool) (l2 : List (S58)) : Option (List (S56) × Int) :=
  if EntsF l2 ∧ l2.length < 2932031007402 then some (tellM a0 a1 l2) else none
theorem landdv_Tell.is (a0 : Int) (a1 : Bool) (l2 : List S58) (hw : EntsF l2) (hl : l2.length < 2932031007402) : landdv_Tell.f a0 a1 l2 = some (tellM a0 a1 l2) := by
  unfold landdv_Tell.f
  rw [if_pos ⟨hw,hl⟩]
theorem landdv_Tell.calls (a0 : Int) (a1 : Bool) (A2 : Option Addr) (c2 : Nat) (l2 : List (S58)) (r1 : List (S56)) (r2 : Int) (w : World) (hr2 : Kd.C k58 w A2 l2.length l2) (hc2 : l2.length ≤ c2) (h : landdv_Tell.f a0 a1 l2 = some (r1,r2)) :
    Calls Try.prog 30 #[.int .i64 a0,.bool a1,.slice A2 l2.length c2] w fun e w' => ∃ v0_ : Value,e = .returned (.tuple #[v0_,.int .i64 r2]) ∧ Kd.R k56 56 w' w.heap.size (fun _ => True) v0_ r1 ∧ Below w.heap.size w w' := by
  unfold landdv_Tell.f at h
  split at h
  · rename_i hc
    obtain ⟨hw,hl⟩ := hc
    unfold tellM at h
    by_cases h0 : askM a0 l2 = 0
    · rw [if_pos h0] at h
      obtain ⟨rfl,rfl⟩ := Prod.mk.inj (Option.some.inj h)
      exact ltell_good a0 a1 A2 c2 l2 w hr2 hc2 hw hl h0
    rw [if_neg h0] at h
    obtain ⟨rfl,rfl⟩ := Prod.mk.inj (Option.some.inj h)
    refine (ltell_bad a0 a1 A2 c2 l2 w hr2 hc2 hw hl h0).mono ?_
    rintro e w' ⟨rfl,hb⟩
    exact ⟨_,rfl,Kd.R_nil _ _ _ _ _,hb⟩
  cases h
end Go.Proofs.Ytjcnmpkaiopihaa.PA
namespace Go.Proofs.Ytjcnmpkaiopihaa.PA
open Go.RowKit Go.Proofs.YtjcnmpkaiopihaaW.PrintWords Go.Proofs.YtjcnmpkaiopihaaW.PrintLast Go.Proofs.YtjcnmpkaiopihaaW.PrintMore
set_option linter.unusedVariables false
set_option linter.unusedSimpArgs false
def marksV (self : Int) (l : List S54) (max : Nat) : List S58 × Int :=
  if ckE self l = 0 then (if lE max = 0 then (marksL (markA self max l),0) else ([],lE max)) else ([],ckE self l)
open Classical in
noncomputable def landdv_Marks.f (a0 : Int) (l1 : List (S54)) (a2 : Nat) : Option (List (S58) × Int) :=
  if HeardW l1 ∧ l1.length < 2305843009213693952 ∧ a2 < 18446744073709551616 then some (marksV a0 l1 a2) else none
theorem landdv_Marks.is (a0 : Int) (l1 : List S54) (a2 : Nat) (hw : HeardW l1) (hl : l1.length < 2305843009213693952) (hx : a2 < 18446744073709551616) : landdv_Marks.f a0 l1 a2 = some (marksV a0 l1 a2) := by
  unfold landdv_Marks.f
  rw [if_pos ⟨hw,hl,hx⟩]
theorem landdv_Marks.calls (a0 : Int) (A1 : Option Addr) (c1 : Nat) (l1 : List (S54)) (a2 : Nat) (r1 : List (S58)) (r2 : Int) (w : World) (hr1 : Kd.C k54 w A1 l1.length l1) (hc1 : l1.length ≤ c1) (h : landdv_Marks.f a0 l1 a2 = some (r1,r2)) :
    Calls Try.prog 13 #[.int .i64 a0,.slice A1 l1.length c1,.float .f64 a2] w fun e w' => ∃ v0_ : Value,e = .returned (.tuple #[v0_,.int .i64 r2]) ∧ Kd.R k58 58 w' w.heap.size (fun _ => True) v0_ r1 ∧ Below w.heap.size w w' := by
  unfold landdv_Marks.f at h
  split at h
  · rename_i hc
    obtain ⟨hw,hl,hx⟩ := hc
    unfold marksV at h
    by_cases h0 : ckE a0 l1 = 0
    · by_cases h1 : lE a2 = 0
      · rw [if_pos h0,if_pos h1] at h
        obtain ⟨rfl,rfl⟩ := Prod.mk.inj (Option.some.inj h)
        exact marks_good a0 A1 c1 l1 a2 w hr1 hc1 hw hl hx h0 h1
      rw [if_pos h0,if_neg h1] at h
      obtain ⟨rfl,rfl⟩ := Prod.mk.inj (Option.some.inj h)
      refine (marks_lim a0 A1 c1 l1 a2 w hr1 hc1 hw hl hx h0 h1).mono ?_
      rintro e w' ⟨rfl,hb⟩
      exact ⟨_,rfl,Kd.R_nil _ _ _ _ _,hb⟩
    rw [if_neg h0] at h
    obtain ⟨rfl,rfl⟩ := Prod.mk.inj (Option.some.inj h)
    refine (marks_bad a0 A1 c1 l1 a2 w hr1 hc1 hw hl hx h0).mono ?_
    rintro e w' ⟨rfl,hb⟩
    exact ⟨_,rfl,Kd.R_nil _ _ _ _ _,hb⟩
  cases h
end Go.Proofs.Ytjcnmpkaiopihaa.PA
