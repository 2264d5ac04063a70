/- What may have been heard: the program's check tells what the document's does. Conditions: the floats are words, the lists fit in memory. -/
import Derived.Test.YtjcnmpkaiopihaaZmHf
import Derived.Test.YtjcnmpkaiopihaaZmPAx5
import Derived.Test.YtjcnmpkaiopihaaZmPAx34
namespace Go.Proofs.Ytjcnmpkaiopihaa.PA
open Go.RowKit Go.Proofs.YtjcnmpkaiopihaaW.PrintWords
set_option linter.unusedVariables false
set_option linter.unusedSimpArgs false
open Classical
theorem beaconref15_Check_l0_eq (k : Nat) (x0 : Int) (x1 : List (S54)) (x5 : Int) : beaconref15_Check.l0 (k + 1) x0 x1 x5 = if x5 < (x1.length : Int) then (if 0 ≤ x5 then ((beaconref15_number.f ((rd_T54 x1 x5).f0)).bind fun t139 => (if t139 = true then (if ((rd_T54 x1 x5).f0) = x0 then (beaconref15_Check.j1 k x0 x1 x5 true) else (if x5 > 0 then (if 0 ≤ (wrap64 (x5 - 1)) then (if (wrap64 (x5 - 1)) < (x1.length : Int) then (if ((rd_T54 x1 (wrap64 (x5 - 1))).f0) ≥ ((rd_T54 x1 x5).f0) then (beaconref15_Check.j1 k x0 x1 x5 true) else ((beaconref01_Weight.f ((rd_T54 x1 x5).f1)).bind fun t141 => (if t141 = 0 then ((beaconref14_List.f k ((rd_T54 x1 x5).f2)).bind fun t142 => (beaconref15_Check.j1 k x0 x1 x5 (!t142))) else (beaconref15_Check.j1 k x0 x1 x5 true)))) else (none)) else (none)) else ((beaconref01_Weight.f ((rd_T54 x1 x5).f1)).bind fun t143 => (if t143 = 0 then ((beaconref14_List.f k ((rd_T54 x1 x5).f2)).bind fun t144 => (beaconref15_Check.j1 k x0 x1 x5 (!t144))) else (beaconref15_Check.j1 k x0 x1 x5 true))))) else (beaconref15_Check.j1 k x0 x1 x5 true))) else (none)) else (some 0) := rfl
theorem beaconref15_Check_j1_eq (k : Nat) (x0 : Int) (x1 : List (S54)) (x5 : Int) (x56 : Bool) : beaconref15_Check.j1 (k + 1) x0 x1 x5 x56 = if x56 = true then (some 1) else (beaconref15_Check.l0 k x0 x1 (wrap64 (x5 + 1))) := rfl
theorem landdv_Check_l0_eq (k : Nat) (x0 : Int) (x1 : List (S54)) (x13 : List (S54)) (x14 : Int) (x15 : Int) : landdv_Check.l0 (k + 1) x0 x1 x13 x14 x15 = if x15 < x14 then (if 0 ≤ x15 then (if x15 < (x13.length : Int) then (if ((rd_T54 x13 x15).f0) = x0 then (landdv_Check.j1 k x0 x1 x13 x14 x15 true) else ((ident_CheckId.f ((rd_T54 x13 x15).f0)).bind fun t493 => (if t493 = 0 then (if x15 > 0 then (if 0 ≤ (wrap64 (x15 - 1)) then (if (wrap64 (x15 - 1)) < (x1.length : Int) then (if ((rd_T54 x13 x15).f0) ≤ ((rd_T54 x1 (wrap64 (x15 - 1))).f0) then (landdv_Check.j1 k x0 x1 x13 x14 x15 true) else ((metric_Weight.f ((rd_T54 x13 x15).f1)).bind fun t495 => (if t495 = 0 then ((landdv_list.f ((rd_T54 x13 x15).f2)).bind fun t496 => (landdv_Check.j1 k x0 x1 x13 x14 x15 (!t496))) else (landdv_Check.j1 k x0 x1 x13 x14 x15 true)))) else (none)) else (none)) else ((metric_Weight.f ((rd_T54 x13 x15).f1)).bind fun t497 => (if t497 = 0 then ((landdv_list.f ((rd_T54 x13 x15).f2)).bind fun t498 => (landdv_Check.j1 k x0 x1 x13 x14 x15 (!t498))) else (landdv_Check.j1 k x0 x1 x13 x14 x15 true)))) else (landdv_Check.j1 k x0 x1 x13 x14 x15 true)))) else (none)) else (none)) else (some 0) := rfl
theorem landdv_Check_j1_eq (k : Nat) (x0 : Int) (x1 : List (S54)) (x13 : List (S54)) (x14 : Int) (x15 : Int) (x56 : Bool) : landdv_Check.j1 (k + 1) x0 x1 x13 x14 x15 x56 = if x56 = true then (some 1) else (landdv_Check.l0 k x0 x1 x13 x14 (wrap64 (x15 + 1))) := rfl
def HeardW (l : List S54) : Prop := ∀ h ∈ l,h.f1 < 18446744073709551616 ∧ WordsN h.f2 ∧ h.f2.length * 40 ≤ 140737488355000
theorem HeardW.at {l : List S54} (h : HeardW l) (i : Nat) (hi : i < l.length) : (l.getD i z54).f1 < 18446744073709551616 ∧ WordsN (l.getD i z54).f2 ∧ (l.getD i z54).f2.length * 40 ≤ 140737488355000 := by
  have : l.getD i z54 = l[i] := by simp [List.getD_eq_getElem?_getD,hi]
  rw [this]
  exact h _ (List.getElem_mem hi)
theorem rdh (l : List S54) (i : Nat) : rd_T54 l (i : Int) = l.getD i z54 := by unfold rd_T54;rw [Int.toNat_natCast]
def okHeard (self : Int) (l : List S54) (j : Nat) : Bool :=
  okId (l.getD j z54).f0 && (!((l.getD j z54).f0 == self) && ((j == 0 || decide ((l.getD (j - 1) z54).f0 < (l.getD j z54).f0)) && ((wE (l.getD j z54).f1 == 0) && listB (l.getD j z54).f2)))
def heardFrom (self : Int) (l : List S54) : Nat → Nat → Bool
  | 0,_ => true
  | n + 1,i => okHeard self l i && heardFrom self l n (i + 1)
def ckE (self : Int) (l : List S54) : Int := bif okId self then (bif heardFrom self l l.length 0 then 0 else 1) else 20
theorem num15 (i : Int) : beaconref15_number.f i = some (okId i) := by
  unfold beaconref15_number.f
  rw [check_ref,Option.bind_some]
  cases okId i <;> rfl
theorem ref_ck_l0 (self : Int) (l : List S54) (hw : HeardW l) (hl : l.length < 4611686018427387904) : ∀ (n i k : Nat),i + n = l.length → 2 * n + 10555311626640 ≤ k → beaconref15_Check.l0 k self l (i : Int) = some (bif heardFrom self l n i then 0 else 1)
  | 0,i,k,e,hk => by
    obtain ⟨k,rfl⟩ : ∃ q,k = q + 1 := ⟨k - 1,by omega⟩
    rw [beaconref15_Check_l0_eq,if_neg (by omega)]
    rfl
  | n + 1,i,k,e,hk => by
    obtain ⟨k,rfl⟩ : ∃ q,k = q + 2 := ⟨k - 2,by omega⟩
    have ih := ref_ck_l0 self l hw hl n (i + 1) k (by omega) (by omega)
    obtain ⟨hw1,hw2,hw3⟩ := hw.at i (by omega)
    have hW := (weight_all _ hw1).1
    have hL := ref_list (l.getD i z54).f2 (by omega) (k + 1) (by omega)
    have hbad : beaconref15_Check.j1 (k + 1) self l (i : Int) true = some 1 := by rw [beaconref15_Check_j1_eq,if_pos rfl]
    have hgood : beaconref15_Check.j1 (k + 1) self l (i : Int) false = some (bif heardFrom self l n (i + 1) then 0 else 1) := by rw [beaconref15_Check_j1_eq,if_neg (by decide),next64 _ (by omega),ih]
    rw [beaconref15_Check_l0_eq,if_pos (by omega),if_pos (by omega),rdh,num15,Option.bind_some]
    simp only [heardFrom,okHeard]
    cases okId (l.getD i z54).f0
    · rw [if_neg (by decide),hbad]
      rfl
    rw [if_pos rfl]
    by_cases hs : (l.getD i z54).f0 = self
    · have es : ((l.getD i z54).f0 == self) = true := by simpa using hs
      rw [if_pos hs,hbad,es]
      rfl
    have es : ((l.getD i z54).f0 == self) = false := by simpa using hs
    rw [if_neg hs,es]
    have tail : ((beaconref01_Weight.f ((l.getD i z54).f1)).bind fun t141 => (if t141 = 0 then ((beaconref14_List.f (k + 1) ((l.getD i z54).f2)).bind fun t142 => (beaconref15_Check.j1 (k + 1) self l (i : Int) (!t142))) else (beaconref15_Check.j1 (k + 1) self l (i : Int) true))) = some (bif ((wE (l.getD i z54).f1 == 0) && listB (l.getD i z54).f2) && heardFrom self l n (i + 1) then 0 else 1) := by
      rw [hW,Option.bind_some]
      by_cases h0 : wE (l.getD i z54).f1 = 0
      · rw [if_pos h0,hL,Option.bind_some,h0]
        cases listB (l.getD i z54).f2
        · exact hbad
        exact hgood
      have e0 : (wE (l.getD i z54).f1 == 0) = false := by simpa using h0
      rw [if_neg h0,hbad,e0]
      rfl
    by_cases hi0 : i = 0
    · subst hi0
      rw [if_neg (by omega),tail]
      rfl
    have ei : (i == 0) = false := by simpa using hi0
    rw [if_pos (by omega),prev64 i (by omega) (by omega),if_pos (by omega),if_pos (by omega),rdh,ei]
    by_cases hlt : (l.getD (i - 1) z54).f0 < (l.getD i z54).f0
    · rw [if_neg (by omega),tail,decide_eq_true hlt]
      rfl
    rw [if_pos (by omega),hbad,decide_eq_false hlt]
    rfl
theorem prog_ck_l0 (self : Int) (l : List S54) (hw : HeardW l) (hl : l.length < 4611686018427387904) : ∀ (n i k : Nat),i + n = l.length → 2 * n + 3 ≤ k → landdv_Check.l0 k self l l (l.length : Int) (i : Int) = some (bif heardFrom self l n i then 0 else 1)
  | 0,i,k,e,hk => by
    obtain ⟨k,rfl⟩ : ∃ q,k = q + 1 := ⟨k - 1,by omega⟩
    rw [landdv_Check_l0_eq,if_neg (by omega)]
    rfl
  | n + 1,i,k,e,hk => by
    obtain ⟨k,rfl⟩ : ∃ q,k = q + 2 := ⟨k - 2,by omega⟩
    have ih := prog_ck_l0 self l hw hl n (i + 1) k (by omega) (by omega)
    obtain ⟨hw1,hw2,hw3⟩ := hw.at i (by omega)
    have hW := (weight_all _ hw1).2.1
    have hL : landdv_list.f (l.getD i z54).f2 = some (listB (l.getD i z54).f2) := by
      unfold landdv_list.f
      rw [if_pos ⟨hw3,hw2⟩]
    have hbad : landdv_Check.j1 (k + 1) self l l (l.length : Int) (i : Int) true = some 1 := by rw [landdv_Check_j1_eq,if_pos rfl]
    have hgood : landdv_Check.j1 (k + 1) self l l (l.length : Int) (i : Int) false = some (bif heardFrom self l n (i + 1) then 0 else 1) := by rw [landdv_Check_j1_eq,if_neg (by decide),next64 _ (by omega),ih]
    rw [landdv_Check_l0_eq,if_pos (by omega),if_pos (by omega),if_pos (by omega),rdh,check_prog]
    simp only [heardFrom,okHeard]
    by_cases hs : (l.getD i z54).f0 = self
    · have es : ((l.getD i z54).f0 == self) = true := by simpa using hs
      rw [if_pos hs,hbad,es]
      cases okId (l.getD i z54).f0 <;> rfl
    have es : ((l.getD i z54).f0 == self) = false := by simpa using hs
    rw [if_neg hs,es,Option.bind_some]
    have tail : ((metric_Weight.f ((l.getD i z54).f1)).bind fun t495 => (if t495 = 0 then ((landdv_list.f ((l.getD i z54).f2)).bind fun t496 => (landdv_Check.j1 (k + 1) self l l (l.length : Int) (i : Int) (!t496))) else (landdv_Check.j1 (k + 1) self l l (l.length : Int) (i : Int) true))) = some (bif ((wE (l.getD i z54).f1 == 0) && listB (l.getD i z54).f2) && heardFrom self l n (i + 1) then 0 else 1) := by
      rw [hW,Option.bind_some]
      by_cases h0 : wE (l.getD i z54).f1 = 0
      · rw [if_pos h0,hL,Option.bind_some,h0]
        cases listB (l.getD i z54).f2
        · exact hbad
        exact hgood
      have e0 : (wE (l.getD i z54).f1 == 0) = false := by simpa using h0
      rw [if_neg h0,hbad,e0]
      rfl
    cases okId (l.getD i z54).f0
    · rw [if_neg (by decide),hbad]
      rfl
    rw [if_pos (by rfl)]
    by_cases hi0 : i = 0
    · subst hi0
      rw [if_neg (by omega),tail]
      rfl
    have ei : (i == 0) = false := by simpa using hi0
    rw [if_pos (by omega),prev64 i (by omega) (by omega),if_pos (by omega),if_pos (by omega),rdh,ei]
    by_cases hlt : (l.getD (i - 1) z54).f0 < (l.getD i z54).f0
    · rw [if_neg (by omega),tail,decide_eq_true hlt]
      rfl
    rw [if_pos (by omega),hbad,decide_eq_false hlt]
    rfl
theorem ref_ck (self : Int) (l : List S54) (hw : HeardW l) (hl : l.length < 2305843009213693952) (k : Nat) (hk : 2 * l.length + 10555311626640 ≤ k) : beaconref15_Check.f k self l = some (ckE self l) := by
  unfold beaconref15_Check.f ckE
  rw [num15,Option.bind_some]
  cases okId self
  · rfl
  rw [if_pos rfl]
  exact ref_ck_l0 self l hw (by omega) l.length 0 k (by omega) hk
theorem prog_ck (self : Int) (l : List S54) (hw : HeardW l) (hl : l.length < 2305843009213693952) (k : Nat) (hk : 2 * l.length + 3 ≤ k) : landdv_Check.f k self l = some (ckE self l) := by
  unfold landdv_Check.f ckE
  rw [check_prog,Option.bind_some]
  cases okId self
  · rfl
  rw [if_pos rfl,if_pos rfl]
  exact prog_ck_l0 self l hw (by omega) l.length 0 k (by omega) hk
end Go.Proofs.Ytjcnmpkaiopihaa.PA
