/- scopedv.Tell as a plain function, and that the Go call tells what it tells. Conditions: the floats are words, the list fits in memory (else the plain function is none). -/
import Derived.Test.YtjcnmpkaiopihaaZoHn
import Derived.Test.YtjcnmpkaiopihaaZoHj
namespace Go.Proofs.Ytjcnmpkaiopihaa.PA
open Go.RowKit Go.Proofs.YtjcnmpkaiopihaaW.PrintWords Go.Proofs.YtjcnmpkaiopihaaW.PrintLast Go.Proofs.YtjcnmpkaiopihaaW.PrintMore
set_option linter.unusedVariables false
set_option linter.unusedSimpArgs false
open Classical in
noncomputable def scopedv_Tell.f (a0 : Int) (a1_0 : Int) (a1_1 : Int) (a1_2 : Nat) (l2 : List (S58)) : Option (List (S56) × Int) :=
  if EntsW l2 ∧ l2.length < 2932031007402 ∧ a1_2 < 18446744073709551616 then some (tellV a0 a1_0 a1_1 a1_2 l2) else none
theorem scopedv_Tell.is (a0 : Int) (a1_0 : Int) (a1_1 : Int) (a1_2 : Nat) (l2 : List S58) (hw : EntsW l2) (hl : l2.length < 2932031007402) (hx : a1_2 < 18446744073709551616) : scopedv_Tell.f a0 a1_0 a1_1 a1_2 l2 = some (tellV a0 a1_0 a1_1 a1_2 l2) := by
  unfold scopedv_Tell.f
  rw [if_pos ⟨hw,hl,hx⟩]
theorem scopedv_Tell.calls (a0 : Int) (a1_0 : Int) (a1_1 : Int) (a1_2 : Nat) (A2 : Option Addr) (c2 : Nat) (l2 : List (S58)) (r1 : List (S56)) (r2 : Int) (w : World) (hr2 : Kd.C k58 w A2 l2.length l2) (hc2 : l2.length ≤ c2) (h : scopedv_Tell.f a0 a1_0 a1_1 a1_2 l2 = some (r1,r2)) :
    Calls Try.prog 20 #[.int .i64 a0,.agg #[.int .i64 a1_0,.int .i64 a1_1,.float .f64 a1_2],.slice A2 l2.length c2] w fun e w' => ∃ v0_ : Value,e = .returned (.tuple #[v0_,.int .i64 r2]) ∧ Kd.R k56 56 w' w.heap.size (fun _ => True) v0_ r1 ∧ Below w.heap.size w w' := by
  unfold scopedv_Tell.f at h
  split at h
  · rename_i hc
    obtain ⟨hw,hl,hx⟩ := hc
    unfold tellV at h
    cases h0 : okId a0
    · rw [h0,if_neg (by decide)] at h
      obtain ⟨rfl,rfl⟩ := Prod.mk.inj (Option.some.inj h)
      refine (stell_id a0 a1_0 a1_1 a1_2 A2 c2 l2 w h0).mono ?_
      rintro e w' ⟨rfl,hb⟩
      exact ⟨_,rfl,Kd.R_nil _ _ _ _ _,hb⟩
    rw [h0,if_pos rfl] at h
    cases h1 : okHome a0 a1_0 a1_1 a1_2
    · rw [h1,if_neg (by simp)] at h
      obtain ⟨rfl,rfl⟩ := Prod.mk.inj (Option.some.inj h)
      refine (stell_bad a0 a1_0 a1_1 a1_2 A2 c2 l2 w hx h0 h1).mono ?_
      rintro e w' ⟨rfl,hb⟩
      exact ⟨_,rfl,Kd.R_nil _ _ _ _ _,hb⟩
    have hg := stell_good a0 a1_0 a1_1 a1_2 A2 c2 l2 w hr2 hc2 hw hl hx h0 h1
    cases h2 : ballsFrom a0 l2 l2.length 0
    · rw [h1,h2,if_neg (by simp)] at h
      obtain ⟨rfl,rfl⟩ := Prod.mk.inj (Option.some.inj h)
      rw [h2] at hg
      exact hg
    rw [h1,h2,if_pos ⟨rfl,rfl⟩] at h
    obtain ⟨rfl,rfl⟩ := Prod.mk.inj (Option.some.inj h)
    rw [h2] at hg
    exact hg
  cases h
end Go.Proofs.Ytjcnmpkaiopihaa.PA
namespace Go.Proofs.Ytjcnmpkaiopihaa.PA
open Go.RowKit Go.Proofs.YtjcnmpkaiopihaaW.PrintWords Go.Proofs.YtjcnmpkaiopihaaW.PrintLast Go.Proofs.YtjcnmpkaiopihaaW.PrintMore
set_option linter.unusedVariables false
set_option linter.unusedSimpArgs false
open Classical in
noncomputable def scopedv_Balls.f (a0 : Int) (l1 : List (S54)) (a2 : Nat) : Option (List (S58) × Int) :=
  if HeardW l1 ∧ l1.length < 2305843009213693952 ∧ a2 < 18446744073709551616 then some (ballsV a0 l1 a2) else none
theorem scopedv_Balls.is (a0 : Int) (l1 : List S54) (a2 : Nat) (hw : HeardW l1) (hl : l1.length < 2305843009213693952) (hx : a2 < 18446744073709551616) : scopedv_Balls.f a0 l1 a2 = some (ballsV a0 l1 a2) := by
  unfold scopedv_Balls.f
  rw [if_pos ⟨hw,hl,hx⟩]
theorem scopedv_Balls.calls (a0 : Int) (A1 : Option Addr) (c1 : Nat) (l1 : List (S54)) (a2 : Nat) (r1 : List (S58)) (r2 : Int) (w : World) (hr1 : Kd.C k54 w A1 l1.length l1) (hc1 : l1.length ≤ c1) (h : scopedv_Balls.f a0 l1 a2 = some (r1,r2)) :
    Calls Try.prog 9 #[.int .i64 a0,.slice A1 l1.length c1,.float .f64 a2] w fun e w' => ∃ v0_ : Value,e = .returned (.tuple #[v0_,.int .i64 r2]) ∧ Kd.R k58 58 w' w.heap.size (fun _ => True) v0_ r1 ∧ Below w.heap.size w w' := by
  unfold scopedv_Balls.f at h
  split at h
  · rename_i hc
    obtain ⟨hw,hl,hx⟩ := hc
    unfold ballsV at h
    by_cases h0 : ckE a0 l1 = 0
    · by_cases h1 : lE a2 = 0
      · rw [if_pos h0,if_pos h1] at h
        obtain ⟨rfl,rfl⟩ := Prod.mk.inj (Option.some.inj h)
        exact balls_good a0 A1 c1 l1 a2 w hr1 hc1 hw hl hx h0 h1
      rw [if_pos h0,if_neg h1] at h
      obtain ⟨rfl,rfl⟩ := Prod.mk.inj (Option.some.inj h)
      refine (balls_lim a0 A1 c1 l1 a2 w hr1 hc1 hw hl hx h0 h1).mono ?_
      rintro e w' ⟨rfl,hb⟩
      exact ⟨_,rfl,Kd.R_nil _ _ _ _ _,hb⟩
    rw [if_neg h0] at h
    obtain ⟨rfl,rfl⟩ := Prod.mk.inj (Option.some.inj h)
    refine (balls_bad a0 A1 c1 l1 a2 w hr1 hc1 hw hl hx h0).mono ?_
    rintro e w' ⟨rfl,hb⟩
    exact ⟨_,rfl,Kd.R_nil _ _ _ _ _,hb⟩
  cases h
end Go.Proofs.Ytjcnmpkaiopihaa.PA
