/- News: whether they may be: the program's check tells what the document's does. Condition: their floats are words below 2^64. -/
import Derived.Test.YtblemmagkehanaaGreatZkFf
namespace Go.Proofs.YtblemmagkehanaaGreat.PA
open Go.RowKit Go.Proofs.YtblemmagkehanaaGreatW.PrintWords
set_option linter.unusedVariables false
set_option linter.unusedSimpArgs false
def okId (i : Int) : Bool := decide (1 ≤ i ∧ i ≤ 2147483647)
theorem check_ref (i : Int) : beaconref02_CheckId.f i = some (if okId i = true then 0 else 20) := by
  unfold beaconref02_CheckId.f okId
  by_cases h1 : i < 1
  · rw [if_pos h1,if_neg (by simp;omega)]
  rw [if_neg h1]
  by_cases h2 : i > 2147483647
  · rw [if_pos h2,if_neg (by simp;omega)]
  rw [if_neg h2,if_pos (by simp;omega)]
theorem check_prog (i : Int) : ident_CheckId.f i = some (if okId i = true then 0 else 20) := check_ref i
theorem num_ref (i : Int) : beaconref06_number.f i = some (okId i) := by
  unfold beaconref06_number.f;rw [check_ref,Option.bind_some]
  cases okId i <;> rfl
theorem num_msg (i : Int) : message_number.f i = some (okId i) := by
  unfold message_number.f;rw [check_prog,Option.bind_some]
  cases okId i <;> rfl
def infB (a : Nat) : Bool := FloatKind.f64.format.order a 9218868437227405311 == some .gt
def restB (x : Bool) (r : Nat) (h : Int) : Bool := if x = true then decide (r = 0) && (h == 0) else if infB r = true then h == 0 else farB r && okId h
def mayB (n : S61) : Bool := okId n.f0 && ((n.f1 == 1 || n.f1 == 2) && (farB n.f2 && restB (n.f1 == 1 || infB n.f2) n.f3 n.f4))
theorem may_j1 (k : Nat) (x : Bool) (a b : Int) (c d : Nat) (e : Int) : beaconref06_May.j1 (k + 1) x a b c d e = some (restB x d e) := by
  show (if x = true then ((beaconref06_zero.f d).bind fun t114 => (if t114 = true then (some (e == 0)) else (some false))) else ((math_IsInf.f d 1).bind fun t115 => (if t115 = true then (some (e == 0)) else ((beaconref06_Far.f d).bind fun t116 => (if t116 = true then ((beaconref06_number.f e).bind fun t117 => (some t117)) else (some false)))))) = _
  unfold restB
  cases x
  · rw [if_neg (by decide),if_neg (by decide),isInf1,Option.bind_some]
    show (if infB d = true then _ else _) = _
    cases infB d
    · rw [if_neg (by decide),if_neg (by decide),far_ref,Option.bind_some]
      cases farB d
      · rfl
      rw [if_pos rfl,num_ref];rfl
    rfl
  rw [if_pos rfl,if_pos rfl];unfold beaconref06_zero.f;rw [Option.bind_some];have e1 : ((d : Int) == 0) = decide (d = 0) := by
    by_cases h : d = 0
    · simp [h]
    have : ¬ ((d : Int) = 0) := by omega
    simp [h]
  rw [e1]
  cases decide (d = 0) <;> rfl
theorem news_j1 (k : Nat) (x : Bool) (a b : Int) (c d : Nat) (e : Int) (hd : d < 18446744073709551616) (hk : 1 ≤ k) : message_news.j1 (k + 1) x a b c d e = some (restB x d e) := by
  show (if x = true then (if (d : Int) = 0 then (some (e == 0)) else (some false)) else ((math_IsInf.f d 1).bind fun t350 => (if t350 = true then (some (e == 0)) else ((message_distance.f k d).bind fun t351 => (if t351 = true then ((message_number.f e).bind fun t352 => (some t352)) else (some false)))))) = _
  unfold restB
  cases x
  · rw [if_neg (by decide),if_neg (by decide),isInf1,Option.bind_some]
    show (if infB d = true then _ else _) = _
    cases infB d
    · rw [if_neg (by decide),if_neg (by decide),dist_all d k hd hk,Option.bind_some]
      cases farB d
      · rfl
      rw [if_pos rfl,num_msg];rfl
    rfl
  rw [if_pos rfl,if_pos rfl]
  by_cases h : d = 0
  · simp [h]
  have : ¬ ((d : Int) = 0) := by omega
  simp [h]
theorem may_j0 (k : Nat) (x : Bool) (a b : Int) (c d : Nat) (e : Int) : beaconref06_May.j0 (k + 2) x a b c d e = some (!x && restB (b == 1 || infB c) d e) := by
  show (if x = true then (some false) else (if b = 1 then (beaconref06_May.j1 (k + 1) true a b c d e) else ((math_IsInf.f c 1).bind fun t113 => (beaconref06_May.j1 (k + 1) t113 a b c d e)))) = _
  cases x
  · rw [if_neg (by decide)]
    by_cases hb : b = 1
    · rw [if_pos hb,may_j1]
      simp [hb]
    have hb' : (b == 1) = false := by simpa using hb
    rw [if_neg hb,isInf1,Option.bind_some,may_j1,hb'];rfl
  rfl
theorem news_j0 (k : Nat) (x : Bool) (a b : Int) (c d : Nat) (e : Int) (hd : d < 18446744073709551616) (hk : 1 ≤ k) : message_news.j0 (k + 2) x a b c d e = some (!x && restB (b == 1 || infB c) d e) := by
  show (if x = true then (some false) else (if b = 1 then (message_news.j1 (k + 1) true a b c d e) else ((math_IsInf.f c 1).bind fun t349 => (message_news.j1 (k + 1) t349 a b c d e)))) = _
  cases x
  · rw [if_neg (by decide)]
    by_cases hb : b = 1
    · rw [if_pos hb,news_j1 _ _ _ _ _ _ _ hd hk]
      simp [hb]
    have hb' : (b == 1) = false := by simpa using hb
    rw [if_neg hb,isInf1,Option.bind_some,news_j1 _ _ _ _ _ _ _ hd hk,hb'];rfl
  rfl
theorem may_all (k : Nat) (n : S61) (hk : 2 ≤ k) : beaconref06_May.f k n.f0 n.f1 n.f2 n.f3 n.f4 = some (mayB n) := by
  obtain ⟨k,rfl⟩ : ∃ q,k = q + 2 := ⟨k - 2,by omega⟩
  unfold beaconref06_May.f mayB;rw [num_ref,Option.bind_some,far_ref];simp only [Option.bind_some,may_j0]
  cases okId n.f0
  · rfl
  rw [if_pos rfl]
  by_cases h1 : n.f1 = 1
  · simp [h1]
  have e1 : (n.f1 == 1) = false := by simpa using h1
  rw [if_neg h1]
  by_cases h2 : n.f1 = 2
  · simp [h2]
  have e2 : (n.f1 == 2) = false := by simpa using h2
  rw [if_neg h2,e1,e2];rfl
theorem news_all (k : Nat) (n : S61) (h2 : n.f2 < 18446744073709551616) (h3 : n.f3 < 18446744073709551616) (hk : 3 ≤ k) : message_news.f k n.f0 n.f1 n.f2 n.f3 n.f4 = some (mayB n) := by
  obtain ⟨k,rfl⟩ : ∃ q,k = q + 2 := ⟨k - 2,by omega⟩
  unfold message_news.f mayB;rw [num_msg,Option.bind_some,dist_all _ _ h2 (by omega)];simp only [Option.bind_some,news_j0 _ _ _ _ _ _ _ h3 (show 1 ≤ k by omega)]
  cases okId n.f0
  · rfl
  rw [if_pos rfl]
  by_cases h1 : n.f1 = 1
  · simp [h1]
  have e1 : (n.f1 == 1) = false := by simpa using h1
  rw [if_neg h1]
  by_cases h2 : n.f1 = 2
  · simp [h2]
  have e2 : (n.f1 == 2) = false := by simpa using h2
  rw [if_neg h2,e1,e2];rfl
end Go.Proofs.YtblemmagkehanaaGreat.PA
