/- What may be told of landmarks, and the nearest of them: the program tells what the document tells. Condition: the floats are words. -/
import Derived.Test.YtjcnmpkaiopihaaZgHi
import Derived.Test.YtjcnmpkaiopihaaZgPAx10
import Derived.Test.YtjcnmpkaiopihaaZgPAx0
import Derived.Test.YtjcnmpkaiopihaaZgPAx6
import Derived.Test.YtjcnmpkaiopihaaZgPAx12
import Derived.Test.YtjcnmpkaiopihaaZgMn
import Derived.Test.YtjcnmpkaiopihaaZgPAx18
import Derived.Test.YtjcnmpkaiopihaaZgPAx19
namespace Go.Proofs.Ytjcnmpkaiopihaa.PA
open Go.RowKit Go.Proofs.YtjcnmpkaiopihaaW.PrintWords Go.Proofs.YtjcnmpkaiopihaaW.PrintLast Go.Proofs.YtjcnmpkaiopihaaW.PrintMore
set_option linter.unusedVariables false
set_option linter.unusedSimpArgs false
theorem beaconref15_may_l0_eq (k : Nat) (x0 : Int) (x1 : List (S58)) (x5 : Int) : beaconref15_may.l0 (k + 1) x0 x1 x5 = if x5 < (x1.length : Int) then (if 0 ≤ x5 then (if ((rd_T58 x1 x5).f1) = 1 then ((beaconref06_May.f k ((rd_T58 x1 x5).f0) ((rd_T58 x1 x5).f1) ((rd_T58 x1 x5).f2) ((rd_T58 x1 x5).f4) ((rd_T58 x1 x5).f5)).bind fun t235 => (if t235 = true then (if ((rd_T58 x1 x5).f0) = x0 then (beaconref15_may.j1 k x0 x1 x5 true ((rd_T58 x1 x5).f0) ((rd_T58 x1 x5).f1) ((rd_T58 x1 x5).f2) ((rd_T58 x1 x5).f3) ((rd_T58 x1 x5).f4) ((rd_T58 x1 x5).f5)) else (if (FloatKind.f64.format.order ((rd_T58 x1 x5).f2) 0 == some .eq) = true then (beaconref15_may.j1 k x0 x1 x5 true ((rd_T58 x1 x5).f0) ((rd_T58 x1 x5).f1) ((rd_T58 x1 x5).f2) ((rd_T58 x1 x5).f3) ((rd_T58 x1 x5).f4) ((rd_T58 x1 x5).f5)) else (if x5 > 0 then (if 0 ≤ (wrap64 (x5 - 1)) then (if (wrap64 (x5 - 1)) < (x1.length : Int) then (beaconref15_may.j1 k x0 x1 x5 (decide (((rd_T58 x1 (wrap64 (x5 - 1))).f0) ≥ ((rd_T58 x1 x5).f0))) ((rd_T58 x1 x5).f0) ((rd_T58 x1 x5).f1) ((rd_T58 x1 x5).f2) ((rd_T58 x1 x5).f3) ((rd_T58 x1 x5).f4) ((rd_T58 x1 x5).f5)) else (none)) else (none)) else (beaconref15_may.j1 k x0 x1 x5 false ((rd_T58 x1 x5).f0) ((rd_T58 x1 x5).f1) ((rd_T58 x1 x5).f2) ((rd_T58 x1 x5).f3) ((rd_T58 x1 x5).f4) ((rd_T58 x1 x5).f5))))) else (beaconref15_may.j1 k x0 x1 x5 true ((rd_T58 x1 x5).f0) ((rd_T58 x1 x5).f1) ((rd_T58 x1 x5).f2) ((rd_T58 x1 x5).f3) ((rd_T58 x1 x5).f4) ((rd_T58 x1 x5).f5)))) else (beaconref15_may.j1 k x0 x1 x5 true ((rd_T58 x1 x5).f0) ((rd_T58 x1 x5).f1) ((rd_T58 x1 x5).f2) ((rd_T58 x1 x5).f3) ((rd_T58 x1 x5).f4) ((rd_T58 x1 x5).f5))) else (none)) else (some 0) := by rw [beaconref15_may.l0]
theorem beaconref15_may_j1_eq (k : Nat) (x0 : Int) (x1 : List (S58)) (x5 : Int) (x65 : Bool) (x234000 : Int) (x234001 : Int) (x234002 : Nat) (x234003 : Int) (x234004 : Nat) (x234005 : Int) : beaconref15_may.j1 (k + 1) x0 x1 x5 x65 x234000 x234001 x234002 x234003 x234004 x234005 = if x65 = true then (some 1) else ((beaconref15_Far.f x234002).bind fun t237 => (if t237 = true then (if x234003 = 0 then ((beaconref15_Far.f x234002).bind fun t238 => (if t238 = true then (beaconref15_may.j2 k x0 x1 x5 false) else ((beaconref15_number.f x234003).bind fun t239 => (beaconref15_may.j2 k x0 x1 x5 (!t239))))) else (beaconref15_may.j2 k x0 x1 x5 true)) else ((beaconref15_Far.f x234002).bind fun t240 => (if t240 = true then (beaconref15_may.j2 k x0 x1 x5 false) else ((beaconref15_number.f x234003).bind fun t241 => (beaconref15_may.j2 k x0 x1 x5 (!t241))))))) := by rw [beaconref15_may.j1]
theorem beaconref15_may_j2_eq (k : Nat) (x0 : Int) (x1 : List (S58)) (x5 : Int) (x85 : Bool) : beaconref15_may.j2 (k + 1) x0 x1 x5 x85 = if x85 = true then (some 1) else (beaconref15_may.l0 k x0 x1 (wrap64 (x5 + 1))) := by rw [beaconref15_may.j2]
theorem beaconref15_Entries_l0_eq (k : Nat) (x0 : List (S58)) (x3 : List (S58)) (x4 : Int) : beaconref15_Entries.l0 (k + 1) x0 x3 x4 = if x4 < (x0.length : Int) then (if 0 ≤ x4 then (if x3.length < 2932031007402 then (beaconref15_Entries.l0 k x0 (x3 ++ [(⟨(rd_T58 x0 x4).f0,(rd_T58 x0 x4).f1,(rd_T58 x0 x4).f2,(rd_T58 x0 x4).f3,(rd_T58 x0 x4).f4,(rd_T58 x0 x4).f5⟩ : S58)]) (wrap64 (x4 + 1))) else (none)) else (none)) else (some x3) := by rw [beaconref15_Entries.l0]
theorem landdv_may_l0_eq (k : Nat) (x0 : Int) (x1 : List (S58)) (x11 : List (S58)) (x12 : Int) (x13 : Int) : landdv_may.l0 (k + 1) x0 x1 x11 x12 x13 = if x13 < x12 then (if 0 ≤ x13 then (if x13 < (x11.length : Int) then ((math_IsInf.f ((rd_T58 x11 x13).f2) 1).bind fun t325 => (if t325 = true then (landdv_may.j1 k x0 x1 x13 t325 true x11 x12 x13 ((rd_T58 x11 x13).f0) ((rd_T58 x11 x13).f1) ((rd_T58 x11 x13).f2) ((rd_T58 x11 x13).f3) ((rd_T58 x11 x13).f4) ((rd_T58 x11 x13).f5)) else (if (FloatKind.f64.format.order ((rd_T58 x11 x13).f2) 0 == some .gt) = true then ((metric_Dist.f ((rd_T58 x11 x13).f2) 4742290407621132288).bind fun t326 => (landdv_may.j1 k x0 x1 x13 t325 (t326 == 0) x11 x12 x13 ((rd_T58 x11 x13).f0) ((rd_T58 x11 x13).f1) ((rd_T58 x11 x13).f2) ((rd_T58 x11 x13).f3) ((rd_T58 x11 x13).f4) ((rd_T58 x11 x13).f5))) else (landdv_may.j1 k x0 x1 x13 t325 false x11 x12 x13 ((rd_T58 x11 x13).f0) ((rd_T58 x11 x13).f1) ((rd_T58 x11 x13).f2) ((rd_T58 x11 x13).f3) ((rd_T58 x11 x13).f4) ((rd_T58 x11 x13).f5))))) else (none)) else (none)) else (some true) := by rw [landdv_may.l0]
theorem landdv_may_j1_eq (k : Nat) (x0 : Int) (x1 : List (S58)) (x5 : Int) (x7 : Bool) (x8 : Bool) (x11 : List (S58)) (x12 : Int) (x13 : Int) (x325000 : Int) (x325001 : Int) (x325002 : Nat) (x325003 : Int) (x325004 : Nat) (x325005 : Int) : landdv_may.j1 (k + 1) x0 x1 x5 x7 x8 x11 x12 x13 x325000 x325001 x325002 x325003 x325004 x325005 = (ident_CheckId.f x325003).bind fun t327 => (if t327 = 0 then (if x7 = true then (if x325003 = 0 then (landdv_may.j2 k x0 x1 x5 x8 x7 x11 x12 x13 x325000 x325001 x325002 x325003 x325004 x325005) else (landdv_may.j2 k x0 x1 x5 x8 false x11 x12 x13 x325000 x325001 x325002 x325003 x325004 x325005)) else (landdv_may.j2 k x0 x1 x5 x8 true x11 x12 x13 x325000 x325001 x325002 x325003 x325004 x325005)) else (if x325003 = 0 then (landdv_may.j2 k x0 x1 x5 x8 x7 x11 x12 x13 x325000 x325001 x325002 x325003 x325004 x325005) else (landdv_may.j2 k x0 x1 x5 x8 false x11 x12 x13 x325000 x325001 x325002 x325003 x325004 x325005))) := by rw [landdv_may.j1]
theorem landdv_may_j2_eq (k : Nat) (x0 : Int) (x1 : List (S58)) (x5 : Int) (x8 : Bool) (x9 : Bool) (x11 : List (S58)) (x12 : Int) (x13 : Int) (x325000 : Int) (x325001 : Int) (x325002 : Nat) (x325003 : Int) (x325004 : Nat) (x325005 : Int) : landdv_may.j2 (k + 1) x0 x1 x5 x8 x9 x11 x12 x13 x325000 x325001 x325002 x325003 x325004 x325005 = if x325001 = 1 then (if (x325004 : Int) = 0 then (landdv_may.j3 k x0 x1 x5 x8 x9 (x325005 == 0) x11 x12 x13 x325000 x325001 x325002 x325003 x325004 x325005) else (landdv_may.j3 k x0 x1 x5 x8 x9 false x11 x12 x13 x325000 x325001 x325002 x325003 x325004 x325005)) else (landdv_may.j3 k x0 x1 x5 x8 x9 false x11 x12 x13 x325000 x325001 x325002 x325003 x325004 x325005) := by rw [landdv_may.j2]
theorem landdv_may_j3_eq (k : Nat) (x0 : Int) (x1 : List (S58)) (x5 : Int) (x8 : Bool) (x9 : Bool) (x10 : Bool) (x11 : List (S58)) (x12 : Int) (x13 : Int) (x325000 : Int) (x325001 : Int) (x325002 : Nat) (x325003 : Int) (x325004 : Nat) (x325005 : Int) : landdv_may.j3 (k + 1) x0 x1 x5 x8 x9 x10 x11 x12 x13 x325000 x325001 x325002 x325003 x325004 x325005 = if x10 = true then (if x8 = true then (if x9 = true then (if x325000 = x0 then (landdv_may.j4 k x0 x1 x11 x12 x13 true) else ((ident_CheckId.f x325000).bind fun t328 => (if t328 = 0 then (if x5 > 0 then (if 0 ≤ (wrap64 (x5 - 1)) then (if (wrap64 (x5 - 1)) < (x1.length : Int) then (landdv_may.j4 k x0 x1 x11 x12 x13 (decide (x325000 ≤ ((rd_T58 x1 (wrap64 (x5 - 1))).f0)))) else (none)) else (none)) else (landdv_may.j4 k x0 x1 x11 x12 x13 false)) else (landdv_may.j4 k x0 x1 x11 x12 x13 true)))) else (landdv_may.j4 k x0 x1 x11 x12 x13 true)) else (landdv_may.j4 k x0 x1 x11 x12 x13 true)) else (landdv_may.j4 k x0 x1 x11 x12 x13 true) := by rw [landdv_may.j3]
theorem landdv_may_j4_eq (k : Nat) (x0 : Int) (x1 : List (S58)) (x11 : List (S58)) (x12 : Int) (x13 : Int) (x99 : Bool) : landdv_may.j4 (k + 1) x0 x1 x11 x12 x13 x99 = if x99 = true then (some false) else (landdv_may.l0 k x0 x1 x11 x12 (wrap64 (x13 + 1))) := by rw [landdv_may.j4]
theorem inf_zero (d : Nat) (h : d < 18446744073709551616) (hi : infB d = true) : zeroB d = false := by
  unfold infB at hi
  rcases Nat.lt_or_ge d 9223372036854775808 with h3 | h3
  · rcases Nat.lt_or_ge d 9218868437227405312 with h4 | h4
    · by_cases h0 : d = 0
      · rw [h0] at hi
        exact absurd hi (by decide)
      exact order_gt_ne _ _ (pos_gt_zero d h0 h4)
    by_cases h5 : d = 9218868437227405312
    · rw [h5]
      decide
    exfalso
    have hn : (Ieee.double.read d).isNaN = true := by
      have hmod : d % 9223372036854775808 = d := Nat.mod_eq_of_lt h3
      rw [read_rr,hmod]
      unfold rr
      rw [if_neg (by omega),if_neg (by omega),if_neg h5]
      rfl
    rw [nan_order d _ hn] at hi
    cases hi
  rw [neg_not_gt d _ _ _ h3 h read_max] at hi
  cases hi
theorem lim30 : lE 4742290407621132288 = 0 := by decide
theorem dist_pos (d : Nat) (h : d < 18446744073709551616) (hi : infB d = false) (hg : (FloatKind.f64.format.order d 0 == some .gt) = true) : ∃ e,metric_Dist.f d 4742290407621132288 = some e ∧ (e == 0) = farB d := by
  have hn : (Ieee.double.read d).isNaN = false := by
    cases hn : (Ieee.double.read d).isNaN
    · rfl
    rw [nan_order d _ hn] at hg
    cases hg
  have hs : d < 9223372036854775808 := by
    rcases Nat.lt_or_ge d 9223372036854775808 with h3 | h3
    · exact h3
    rw [neg_not_gt d _ _ _ h3 h read_zero] at hg
    cases hg
  have h0 : d ≠ 0 := by
    rintro rfl
    exact absurd hg (by decide)
  have hfr := far_ref d
  unfold beaconref06_Far.f at hfr
  have hi2 : (FloatKind.f64.format.order d 9218868437227405311 == some .gt) = false := hi
  rw [isInf1,Option.bind_some,hi2,if_neg (by decide),if_neg (by omega),if_pos hg] at hfr
  unfold metric_Dist.f
  rw [(limit_all _ (by decide)).2.1,lim30,Option.bind_some,if_pos rfl,nan_read,hn,Option.bind_some,if_neg (by decide),(sign_same d h).1,(sign_same d h).2,Option.bind_some,if_neg (by simp;omega),isInf1,Option.bind_some,hi2,if_neg (by decide)]
  by_cases hl : (FloatKind.f64.format.order d 4742290407621132288 == some .lt) = true
  · rw [if_pos hl] at hfr ⊢
    have hq : metric_quarter.f d = some (farB d) := hfr
    rw [hq,Option.bind_some]
    cases farB d
    · exact ⟨15,rfl,rfl⟩
    exact ⟨0,rfl,rfl⟩
  rw [if_neg hl] at hfr ⊢
  rw [← Option.some.inj hfr]
  exact ⟨16,rfl,rfl⟩
theorem far_pos (d : Nat) (hi : infB d = false) (hg : (FloatKind.f64.format.order d 0 == some .gt) = false) : farB d = false ∨ zeroB d = true := by
  by_cases h0 : d = 0
  · right
    rw [h0]
    decide
  left
  have hfr := far_ref d
  unfold beaconref06_Far.f at hfr
  have hi2 : (FloatKind.f64.format.order d 9218868437227405311 == some .gt) = false := hi
  rw [isInf1,Option.bind_some,hi2,if_neg (by decide),if_neg (by omega),hg,if_neg (by decide)] at hfr
  exact (Option.some.inj hfr).symm
def restM (x : S58) : Bool := if infB x.f2 = true then x.f3 == 0 else okId x.f3
def markOk (self : Int) (l : List S58) (j : Nat) : Bool :=
  (((l.getD j z58).f1 == 1) && (decide ((l.getD j z58).f4 = 0) && ((l.getD j z58).f5 == 0))) && ((farB (l.getD j z58).f2 && !(zeroB (l.getD j z58).f2)) && (restM (l.getD j z58) && (!((l.getD j z58).f0 == self) && (okId (l.getD j z58).f0 && (j == 0 || decide ((l.getD (j - 1) z58).f0 < (l.getD j z58).f0))))))
def marksFrom (self : Int) (l : List S58) : Nat → Nat → Bool
  | 0,_ => true
  | n + 1,i => markOk self l i && marksFrom self l n (i + 1)
theorem rm_j2 (k : Nat) (self : Int) (l : List S58) (i : Nat) (b : Bool) (hi : i < 4611686018427387904) : beaconref15_may.j2 (k + 1) self l (i : Int) b = if b = true then some 1 else beaconref15_may.l0 k self l ((i + 1 : Nat) : Int) := by
  rw [beaconref15_may_j2_eq,next64 _ hi]
theorem rm_j1 (k : Nat) (self : Int) (l : List S58) (i : Nat) (b : Bool) (x : S58) (hi : i < 4611686018427387904) : beaconref15_may.j1 (k + 2) self l (i : Int) b x.f0 x.f1 x.f2 x.f3 x.f4 x.f5 = if (b || !(restM x)) = true then some 1 else beaconref15_may.l0 k self l ((i + 1 : Nat) : Int) := by
  have hf : beaconref15_Far.f x.f2 = some (infB x.f2) := rfl
  rw [beaconref15_may_j1_eq,hf,num15]
  simp only [Option.bind_some,rm_j2 _ _ _ _ _ hi]
  unfold restM
  cases b
  · cases infB x.f2
    · cases okId x.f3 <;> simp
    by_cases h3 : x.f3 = 0
    · simp [h3]
    simp [h3]
  simp
theorem rm_l0 (self : Int) (l : List S58) (hl : l.length < 4611686018427387904) : ∀ (n i k : Nat),i + n = l.length → 3 * n + 3 ≤ k → beaconref15_may.l0 k self l (i : Int) = some (if marksFrom self l n i = true then 0 else 1)
  | 0,i,k + 1,e,hk => by
    rw [beaconref15_may_l0_eq,if_neg (by omega)]
    rfl
  | n + 1,i,k + 3,e,hk => by
    have ih := rm_l0 self l hl n (i + 1) k (by omega) (by omega)
    obtain ⟨x,hx⟩ : ∃ x,l.getD i z58 = x := ⟨_,rfl⟩
    have hm := may_all (k + 2) ⟨x.f0,x.f1,x.f2,x.f4,x.f5⟩ (by omega)
    rw [beaconref15_may_l0_eq,if_pos (by omega),if_pos (by omega),rde,hx]
    rw [show (beaconref06_May.f (k + 2) x.f0 x.f1 x.f2 x.f4 x.f5) = some (mayB ⟨x.f0,x.f1,x.f2,x.f4,x.f5⟩) from hm]
    simp only [Option.bind_some,rm_j1 _ _ _ _ _ _ (show i < 4611686018427387904 by omega)]
    rw [ih]
    have hz : (FloatKind.f64.format.order x.f2 0 == some .eq) = zeroB x.f2 := rfl
    rw [hz]
    show _ = some (if (markOk self l i && marksFrom self l n (i + 1)) = true then 0 else 1)
    generalize marksFrom self l n (i + 1) = R
    unfold markOk
    rw [hx]
    by_cases h1 : x.f1 = 1
    rotate_left
    · rw [if_neg h1]
      have h1' : (x.f1 == 1) = false := by simpa using h1
      rw [h1']
      simp
    rw [if_pos h1]
    have hmb : mayB ⟨x.f0,x.f1,x.f2,x.f4,x.f5⟩ = (okId x.f0 && (farB x.f2 && (decide (x.f4 = 0) && (x.f5 == 0)))) := by
      unfold mayB restB
      simp [h1]
    rw [hmb]
    have h1' : (x.f1 == 1) = true := by simpa using h1
    rw [h1']
    generalize decide (x.f4 = 0) = b4
    generalize (x.f5 == 0) = b5
    generalize restM x = rm
    generalize farB x.f2 = bf
    generalize zeroB x.f2 = bz
    by_cases h6 : x.f0 = self
    · have h6' : (x.f0 == self) = true := by simpa using h6
      rw [if_pos h6,h6']
      generalize okId x.f0 = bo
      cases bo <;> cases bf <;> cases b4 <;> cases b5 <;> simp
    have h6' : (x.f0 == self) = false := by simpa using h6
    rw [if_neg h6,h6']
    generalize okId x.f0 = bo
    by_cases h0 : i = 0
    · subst h0
      rw [if_neg (show ¬ ((0 : Nat) : Int) > 0 by omega)]
      cases bo <;> cases bf <;> cases b4 <;> cases b5 <;> cases bz <;> cases rm <;> simp
    have hb0 : (i == 0) = false := by simpa using h0
    rw [if_pos (show ((i : Nat) : Int) > 0 by omega),prev64 _ (by omega) (by omega),if_pos (show 0 ≤ ((i - 1 : Nat) : Int) by omega),if_pos (show ((i - 1 : Nat) : Int) < (l.length : Int) by omega),rde,hb0]
    have hd : decide ((l.getD (i - 1) z58).f0 ≥ x.f0) = !(decide ((l.getD (i - 1) z58).f0 < x.f0)) := by
      by_cases h : (l.getD (i - 1) z58).f0 < x.f0
      · rw [decide_eq_true h,decide_eq_false (by omega)];rfl
      rw [decide_eq_false h,decide_eq_true (by omega)];rfl
    rw [hd]
    generalize decide ((l.getD (i - 1) z58).f0 < x.f0) = bd
    cases bo <;> cases bf <;> cases b4 <;> cases b5 <;> cases bz <;> cases rm <;> cases bd <;> simp
def askM (self : Int) (l : List S58) : Int := if okId self = true then (if marksFrom self l l.length 0 = true then 0 else 1) else 20
theorem rmay_all (self : Int) (l : List S58) (hl : l.length < 4611686018427387904) (k : Nat) (hk : 3 * l.length + 3 ≤ k) : beaconref15_may.f k self l = some (askM self l) := by
  unfold beaconref15_may.f askM
  rw [num15,Option.bind_some]
  split
  · exact rm_l0 self l hl l.length 0 k (by omega) hk
  rfl
def EntsF (l : List S58) : Prop := ∀ x ∈ l,x.f2 < 18446744073709551616
theorem pm_j4 (k : Nat) (self : Int) (l : List S58) (n : Int) (i : Nat) (b : Bool) (hi : i < 4611686018427387904) : landdv_may.j4 (k + 1) self l l n (i : Int) b = if b = true then some false else landdv_may.l0 k self l l n ((i + 1 : Nat) : Int) := by
  rw [landdv_may_j4_eq,next64 _ hi]
theorem pm_j3 (k : Nat) (self : Int) (l : List S58) (n : Int) (i : Nat) (b8 b9 b10 : Bool) (x : S58) (hi : i < 4611686018427387904) (hl : i < l.length) :
    landdv_may.j3 (k + 2) self l (i : Int) b8 b9 b10 l n (i : Int) x.f0 x.f1 x.f2 x.f3 x.f4 x.f5 = if (b10 && (b8 && (b9 && (!(x.f0 == self) && (okId x.f0 && (i == 0 || decide ((l.getD (i - 1) z58).f0 < x.f0))))))) = true then landdv_may.l0 k self l l n ((i + 1 : Nat) : Int) else some false := by
  rw [landdv_may_j3_eq,check_prog]
  simp only [Option.bind_some,pm_j4 _ _ _ _ _ _ hi]
  by_cases h0 : i = 0
  · subst h0
    rw [if_neg (show ¬ ((0 : Nat) : Int) > 0 by omega)]
    by_cases h6 : x.f0 = self
    · simp [h6]
    cases b10 <;> cases b8 <;> cases b9 <;> cases okId x.f0 <;> simp [h6]
  have hb0 : (i == 0) = false := by simpa using h0
  rw [if_pos (show ((i : Nat) : Int) > 0 by omega),prev64 _ (by omega) (by omega),if_pos (show 0 ≤ ((i - 1 : Nat) : Int) by omega),if_pos (show ((i - 1 : Nat) : Int) < (l.length : Int) by omega),rde,hb0]
  have hd : decide (x.f0 ≤ (l.getD (i - 1) z58).f0) = !(decide ((l.getD (i - 1) z58).f0 < x.f0)) := by
    by_cases h : (l.getD (i - 1) z58).f0 < x.f0
    · rw [decide_eq_true h,decide_eq_false (by omega)];rfl
    rw [decide_eq_false h,decide_eq_true (by omega)];rfl
  rw [hd]
  generalize decide ((l.getD (i - 1) z58).f0 < x.f0) = bd
  by_cases h6 : x.f0 = self
  · simp [h6]
  have h6' : (x.f0 == self) = false := by simpa using h6
  rw [if_neg h6,h6']
  generalize okId x.f0 = bo
  cases b10 <;> cases b8 <;> cases b9 <;> cases bo <;> cases bd <;> simp
theorem pm_j2 (k : Nat) (self : Int) (l : List S58) (n : Int) (i : Nat) (b8 b9 : Bool) (x : S58) (hi : i < 4611686018427387904) (hl : i < l.length) :
    landdv_may.j2 (k + 3) self l (i : Int) b8 b9 l n (i : Int) x.f0 x.f1 x.f2 x.f3 x.f4 x.f5 = if (((x.f1 == 1) && (decide (x.f4 = 0) && (x.f5 == 0))) && (b8 && (b9 && (!(x.f0 == self) && (okId x.f0 && (i == 0 || decide ((l.getD (i - 1) z58).f0 < x.f0))))))) = true then landdv_may.l0 k self l l n ((i + 1 : Nat) : Int) else some false := by
  rw [landdv_may_j2_eq]
  simp only [pm_j3 _ _ _ _ _ _ _ _ _ hi hl]
  by_cases h1 : x.f1 = 1
  · rw [if_pos h1]
    by_cases h4 : x.f4 = 0
    · rw [if_pos (by omega)]
      simp [h1,h4]
    rw [if_neg (by omega)]
    simp [h1,h4]
  rw [if_neg h1]
  simp [h1]
theorem pm_j1 (k : Nat) (self : Int) (l : List S58) (n : Int) (i : Nat) (b8 : Bool) (x : S58) (hi : i < 4611686018427387904) (hl : i < l.length) :
    landdv_may.j1 (k + 4) self l (i : Int) (infB x.f2) b8 l n (i : Int) x.f0 x.f1 x.f2 x.f3 x.f4 x.f5 = if (((x.f1 == 1) && (decide (x.f4 = 0) && (x.f5 == 0))) && (b8 && (restM x && (!(x.f0 == self) && (okId x.f0 && (i == 0 || decide ((l.getD (i - 1) z58).f0 < x.f0))))))) = true then landdv_may.l0 k self l l n ((i + 1 : Nat) : Int) else some false := by
  rw [landdv_may_j1_eq,check_prog]
  simp only [Option.bind_some,pm_j2 _ _ _ _ _ _ _ _ hi hl]
  unfold restM
  cases hI : infB x.f2
  · cases hk : okId x.f3
    · rw [if_neg (by decide)]
      by_cases h3 : x.f3 = 0
      · simp [h3]
      simp [h3]
    simp
  by_cases h3 : x.f3 = 0
  · have : okId x.f3 = false := by rw [h3];decide
    rw [this]
    simp [h3]
  cases hk : okId x.f3 <;> simp [h3]
theorem pm_l0 (self : Int) (l : List S58) (hw : EntsF l) (hl : l.length < 4611686018427387904) : ∀ (n i k : Nat),i + n = l.length → 5 * n + 1 ≤ k → landdv_may.l0 k self l l (l.length : Int) (i : Int) = some (marksFrom self l n i)
  | 0,i,k + 1,e,hk => by
    rw [landdv_may_l0_eq,if_neg (by omega)]
    rfl
  | n + 1,i,k + 5,e,hk => by
    have ih := pm_l0 self l hw hl n (i + 1) k (by omega) (by omega)
    have hil : i < l.length := by omega
    obtain ⟨x,hx⟩ : ∃ x,l.getD i z58 = x := ⟨_,rfl⟩
    have hxw : x.f2 < 18446744073709551616 := by
      have e : l.getD i z58 = l[i] := by simp [List.getD_eq_getElem?_getD,hil]
      rw [← hx,e]
      exact hw _ (List.getElem_mem hil)
    have hI : math_IsInf.f x.f2 1 = some (infB x.f2) := isInf1 x.f2
    rw [landdv_may_l0_eq,if_pos (by omega),if_pos (by omega),if_pos (by omega),rde,hx,hI,Option.bind_some]
    simp only [pm_j1 _ _ _ _ _ _ _ (show i < 4611686018427387904 by omega) hil]
    rw [ih]
    show _ = some (markOk self l i && marksFrom self l n (i + 1))
    generalize marksFrom self l n (i + 1) = R
    unfold markOk
    rw [hx]
    have hdist : ∀ Y : Bool → Option Bool,(if infB x.f2 = true then Y true else if (FloatKind.f64.format.order x.f2 0 == some .gt) = true then (metric_Dist.f x.f2 4742290407621132288).bind fun t => Y (t == 0) else Y false) = Y (farB x.f2 && !(zeroB x.f2)) := by
      intro Y
      by_cases h7 : infB x.f2 = true
      · rw [if_pos h7,inf_far h7,inf_zero _ hxw h7]
        rfl
      have h7' : infB x.f2 = false := by simpa using h7
      rw [if_neg h7]
      by_cases h8 : (FloatKind.f64.format.order x.f2 0 == some .gt) = true
      · obtain ⟨e,h9,h10⟩ := dist_pos _ hxw h7' h8
        rw [if_pos h8,h9,Option.bind_some,h10]
        have : zeroB x.f2 = false := order_gt_ne _ _ h8
        rw [this]
        simp
      rw [if_neg h8]
      have h8' : (FloatKind.f64.format.order x.f2 0 == some .gt) = false := by simpa using h8
      rcases far_pos _ h7' h8' with h | h <;> rw [h] <;> simp
    rw [hdist fun b => if (((x.f1 == 1) && (decide (x.f4 = 0) && (x.f5 == 0))) && (b && (restM x && (!(x.f0 == self) && (okId x.f0 && (i == 0 || decide ((l.getD (i - 1) z58).f0 < x.f0))))))) = true then some R else some false]
    cases (((x.f1 == 1) && (decide (x.f4 = 0) && (x.f5 == 0))) && ((farB x.f2 && !(zeroB x.f2)) && (restM x && (!(x.f0 == self) && (okId x.f0 && (i == 0 || decide ((l.getD (i - 1) z58).f0 < x.f0))))))) <;> rfl
theorem pmay_all (self : Int) (l : List S58) (hw : EntsF l) (hl : l.length < 4611686018427387904) (k : Nat) (hk : 5 * l.length + 1 ≤ k) : landdv_asked.f k self l = some (askM self l) := by
  have h : landdv_may.f k self l = some (marksFrom self l l.length 0) := pm_l0 self l hw hl l.length 0 k (by omega) hk
  unfold landdv_asked.f askM
  rw [check_prog,Option.bind_some,h]
  cases okId self
  · rfl
  cases marksFrom self l l.length 0 <;> rfl
theorem drop_at {l : List S58} {i : Nat} (hi : i < l.length) : l.drop i = l.getD i z58 :: l.drop (i + 1) := by
  rw [List.drop_eq_getElem_cons hi]
  simp [List.getD_eq_getElem?_getD,hi]
theorem ent_l0 (l : List S58) (hl : l.length < 2932031007402) : ∀ (n i k : Nat),i + n = l.length → n + 1 ≤ k → beaconref15_Entries.l0 k l (l.take i) (i : Int) = some l
  | 0,i,k + 1,e,hk => by
    rw [beaconref15_Entries_l0_eq,if_neg (by omega),List.take_of_length_le (by omega)]
  | n + 1,i,k + 1,e,hk => by
    have hi : i < l.length := by omega
    have h2 : l.take i ++ [l.getD i z58] = l.take (i + 1) := by
      rw [List.take_succ_eq_append_getElem hi]
      simp [List.getD_eq_getElem?_getD,hi]
    have h3 : (l.take i).length < 2932031007402 := by rw [List.length_take];omega
    rw [beaconref15_Entries_l0_eq,if_pos (by omega),if_pos (by omega),if_pos h3,rde,next64 _ (by omega),← ent_l0 l hl n (i + 1) k (by omega) (by omega),← h2]
theorem ent_all (l : List S58) (hl : l.length < 2932031007402) (k : Nat) (hk : l.length + 1 ≤ k) : beaconref15_Entries.f k l = some l := ent_l0 l hl l.length 0 k (by omega) hk
end Go.Proofs.Ytjcnmpkaiopihaa.PA
