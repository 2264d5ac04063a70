/- Lists of news: whether they may be advertised, and whether they are a list: the program and the document tell the same. Condition: their floats are words below 2^64. -/
import Derived.Test.YtjcnmpkaiopihaaZmFn
import Derived.Test.YtjcnmpkaiopihaaZmPAx4
import Derived.Test.YtjcnmpkaiopihaaZmPAx24
namespace Go.Proofs.Ytjcnmpkaiopihaa.PA
open Go.RowKit Go.Proofs.YtjcnmpkaiopihaaW.PrintWords
set_option linter.unusedVariables false
set_option linter.unusedSimpArgs false
theorem beaconref14_rising_l0_eq (k : Nat) (x0 : List (S56)) (x3 : Int) : beaconref14_rising.l0 (k + 1) x0 x3 = if x3 < (x0.length : Int) then (if 0 ≤ x3 then ((beaconref06_May.f k ((rd_T56 x0 x3).f0) ((rd_T56 x0 x3).f1) ((rd_T56 x0 x3).f2) ((rd_T56 x0 x3).f3) ((rd_T56 x0 x3).f4)).bind fun t121 => (if t121 = true then (if x3 > 0 then (if 0 ≤ (wrap64 (x3 - 1)) then (if (wrap64 (x3 - 1)) < (x0.length : Int) then ((beaconref06_Before.f ((rd_T56 x0 (wrap64 (x3 - 1))).f0) ((rd_T56 x0 (wrap64 (x3 - 1))).f1) ((rd_T56 x0 (wrap64 (x3 - 1))).f2) ((rd_T56 x0 (wrap64 (x3 - 1))).f3) ((rd_T56 x0 (wrap64 (x3 - 1))).f4) ((rd_T56 x0 x3).f0) ((rd_T56 x0 x3).f1) ((rd_T56 x0 x3).f2) ((rd_T56 x0 x3).f3) ((rd_T56 x0 x3).f4)).bind fun t124 => (beaconref14_rising.j1 k x0 x3 (!t124))) else (none)) else (none)) else (beaconref14_rising.j1 k x0 x3 false)) else (beaconref14_rising.j1 k x0 x3 true))) else (none)) else (some true) := rfl
theorem beaconref14_rising_j1_eq (k : Nat) (x0 : List (S56)) (x3 : Int) (x32 : Bool) : beaconref14_rising.j1 (k + 1) x0 x3 x32 = if x32 = true then (some false) else (beaconref14_rising.l0 k x0 (wrap64 (x3 + 1))) := rfl
theorem beaconref14_List_l0_eq (k : Nat) (x0 : List (S56)) (x3 : Int) : beaconref14_List.l0 (k + 1) x0 x3 = if x3 < (x0.length : Int) then (if 0 ≤ x3 then ((math_IsInf.f ((rd_T56 x0 x3).f2) 1).bind fun t127 => (if t127 = true then (some false) else (beaconref14_List.l0 k x0 (wrap64 (x3 + 1))))) else (none)) else ((beaconref14_rising.f k x0).bind fun t125 => (some t125)) := rfl
theorem message_Check_j3_eq (k : Nat) (x3 : Bool) : message_Check.j3 (k + 1) x3 = if x3 = true then (some 0) else (some 60) := rfl
theorem message_Check_j0_eq (k : Nat) (x3 : Bool) (x7 : Int) (x29 : Bool) (x366000 : Int) (x366001 : Int) (x366002 : Int) (x366003 : Int) (x366004 : List (S56)) (x366005 : Int) (x366006 : Int) (x366007 : Int) (x366008 : Int) (x366009 : Int) (x366010 : Int) (x366011 : Int) (x366012 : Int) (x366013 : ByteArray) (x366014 : Int) (x366015 : Int) (x366016 : ByteArray) : message_Check.j0 (k + 1) x3 x7 x29 x366000 x366001 x366002 x366003 x366004 x366005 x366006 x366007 x366008 x366009 x366010 x366011 x366012 x366013 x366014 x366015 x366016 = if x29 = true then (if x366001 > 0 then (if x366002 > 0 then (if x366003 > 0 then ((message_none.f x366005 x366006 x366007 x366008 x366009 x366010 x366011 x366012 x366013 x366014 x366015 x366016).bind fun t367 => (if t367 = true then (if (x366004.length : Int) ≤ 512 then (if x366000 = 2 then (message_Check.j1 k true x366000 x366001 x366002 x366003 x366004 x366005 x366006 x366007 x366008 x366009 x366010 x366011 x366012 x366013 x366014 x366015 x366016) else (none)) else (none)) else (none))) else (none)) else (none)) else (none)) else (none) := rfl
theorem message_Check_j1_eq (k : Nat) (x3 : Bool) (x366000 : Int) (x366001 : Int) (x366002 : Int) (x366003 : Int) (x366004 : List (S56)) (x366005 : Int) (x366006 : Int) (x366007 : Int) (x366008 : Int) (x366009 : Int) (x366010 : Int) (x366011 : Int) (x366012 : Int) (x366013 : ByteArray) (x366014 : Int) (x366015 : Int) (x366016 : ByteArray) : message_Check.j1 (k + 1) x3 x366000 x366001 x366002 x366003 x366004 x366005 x366006 x366007 x366008 x366009 x366010 x366011 x366012 x366013 x366014 x366015 x366016 = message_Check.l0 k x3 x366004 (x366004.length : Int) 0 x366000 x366001 x366002 x366003 x366004 x366005 x366006 x366007 x366008 x366009 x366010 x366011 x366012 x366013 x366014 x366015 x366016 := rfl
theorem message_Check_l0_eq (k : Nat) (x3 : Bool) (x68 : List (S56)) (x69 : Int) (x70 : Int) (x366000 : Int) (x366001 : Int) (x366002 : Int) (x366003 : Int) (x366004 : List (S56)) (x366005 : Int) (x366006 : Int) (x366007 : Int) (x366008 : Int) (x366009 : Int) (x366010 : Int) (x366011 : Int) (x366012 : Int) (x366013 : ByteArray) (x366014 : Int) (x366015 : Int) (x366016 : ByteArray) : message_Check.l0 (k + 1) x3 x68 x69 x70 x366000 x366001 x366002 x366003 x366004 x366005 x366006 x366007 x366008 x366009 x366010 x366011 x366012 x366013 x366014 x366015 x366016 = if x70 < x69 then (if 0 ≤ x70 then (if x70 < (x68.length : Int) then (if x3 = true then ((message_news.f k ((rd_T56 x68 x70).f0) ((rd_T56 x68 x70).f1) ((rd_T56 x68 x70).f2) ((rd_T56 x68 x70).f3) ((rd_T56 x68 x70).f4)).bind fun t370 => (if t370 = true then (if x70 = 0 then (message_Check.l0 k true x68 x69 (wrap64 (x70 + 1)) x366000 x366001 x366002 x366003 x366004 x366005 x366006 x366007 x366008 x366009 x366010 x366011 x366012 x366013 x366014 x366015 x366016) else (if 0 ≤ (wrap64 (x70 - 1)) then (if (wrap64 (x70 - 1)) < (x366004.length : Int) then ((message_ahead.f ((rd_T56 x366004 (wrap64 (x70 - 1))).f0) ((rd_T56 x366004 (wrap64 (x70 - 1))).f1) ((rd_T56 x366004 (wrap64 (x70 - 1))).f2) ((rd_T56 x366004 (wrap64 (x70 - 1))).f3) ((rd_T56 x366004 (wrap64 (x70 - 1))).f4) ((rd_T56 x68 x70).f0) ((rd_T56 x68 x70).f1) ((rd_T56 x68 x70).f2) ((rd_T56 x68 x70).f3) ((rd_T56 x68 x70).f4)).bind fun t372 => (message_Check.l0 k t372 x68 x69 (wrap64 (x70 + 1)) x366000 x366001 x366002 x366003 x366004 x366005 x366006 x366007 x366008 x366009 x366010 x366011 x366012 x366013 x366014 x366015 x366016)) else (none)) else (none))) else (message_Check.l0 k false x68 x69 (wrap64 (x70 + 1)) x366000 x366001 x366002 x366003 x366004 x366005 x366006 x366007 x366008 x366009 x366010 x366011 x366012 x366013 x366014 x366015 x366016))) else (message_Check.l0 k false x68 x69 (wrap64 (x70 + 1)) x366000 x366001 x366002 x366003 x366004 x366005 x366006 x366007 x366008 x366009 x366010 x366011 x366012 x366013 x366014 x366015 x366016)) else (none)) else (none)) else (message_Check.j3 k x3) := rfl
theorem delta_told_l0_eq (k : Nat) (x0 : List (S56)) (x3 : Int) : delta_told.l0 (k + 1) x0 x3 = if x3 < (x0.length : Int) then (if 0 ≤ x3 then (if x3 ≤ (mn (wrap64 (x3 + 512)) (x0.length : Int)) then (if (mn (wrap64 (x3 + 512)) (x0.length : Int)) ≤ (x0.length : Int) then ((message_Check.f k 2 1 1 1 ((x0.take ((mn (wrap64 (x3 + 512)) (x0.length : Int)) : Int).toNat).drop (x3 : Int).toNat) 0 0 0 0 0 0 0 0 (⟨#[]⟩ : ByteArray) 0 0 (⟨#[]⟩ : ByteArray)).bind fun t380 => (if t380 = 0 then (if x3 > 0 then (if 0 ≤ (wrap64 (x3 - 1)) then (if (wrap64 (x3 - 1)) < (x0.length : Int) then ((delta_ahead.f ((rd_T56 x0 (wrap64 (x3 - 1))).f0) ((rd_T56 x0 (wrap64 (x3 - 1))).f1) ((rd_T56 x0 (wrap64 (x3 - 1))).f2) ((rd_T56 x0 (wrap64 (x3 - 1))).f3) ((rd_T56 x0 (wrap64 (x3 - 1))).f4) ((rd_T56 x0 x3).f0) ((rd_T56 x0 x3).f1) ((rd_T56 x0 x3).f2) ((rd_T56 x0 x3).f3) ((rd_T56 x0 x3).f4)).bind fun t383 => (if t383 = true then (delta_told.l0 k x0 (wrap64 (x3 + 512))) else (some false))) else (none)) else (none)) else (delta_told.l0 k x0 (wrap64 (x3 + 512)))) else (some false))) else (none)) else (none)) else (none)) else (some true) := rfl
theorem delta_list_l0_eq (k : Nat) (x0 : List (S56)) (x5 : List (S56)) (x6 : Int) (x7 : Int) : delta_list.l0 (k + 1) x0 x5 x6 x7 = if x7 < x6 then (if 0 ≤ x7 then (if x7 < (x5.length : Int) then ((math_IsInf.f ((rd_T56 x5 x7).f2) 1).bind fun t387 => (if t387 = true then (some false) else (delta_list.l0 k x0 x5 x6 (wrap64 (x7 + 1))))) else (none)) else (none)) else ((delta_told.f k x0).bind fun t384 => (some t384)) := rfl
theorem w64n {x : Int} (h1 : -9223372036854775808 ≤ x) (h2 : x ≤ 9223372036854775807) : wrap64 x = x := by unfold wrap64;omega
theorem next64 (i : Nat) (h : i < 4611686018427387904) : wrap64 ((i : Int) + 1) = ((i + 1 : Nat) : Int) := by rw [w64n (by omega) (by omega)];omega
theorem prev64 (i : Nat) (h0 : 0 < i) (h : i < 4611686018427387904) : wrap64 ((i : Int) - 1) = ((i - 1 : Nat) : Int) := by rw [w64n (by omega) (by omega)];omega
def aheadB (a b : S56) : Bool := decide (a.f1 < b.f1) || (a.f1 == b.f1 && decide (a.f0 < b.f0))
theorem ahead_ref (a b : S56) : beaconref06_Before.f a.f0 a.f1 a.f2 a.f3 a.f4 b.f0 b.f1 b.f2 b.f3 b.f4 = some (aheadB a b) := by
  unfold beaconref06_Before.f aheadB
  by_cases h1 : a.f1 < b.f1
  · simp [h1]
  by_cases h2 : a.f1 = b.f1
  · simp [h1,h2]
  simp [h1,h2]
theorem ahead_msg (a b : S56) : message_ahead.f a.f0 a.f1 a.f2 a.f3 a.f4 b.f0 b.f1 b.f2 b.f3 b.f4 = some (aheadB a b) := ahead_ref a b
theorem ahead_delta (a b : S56) : delta_ahead.f a.f0 a.f1 a.f2 a.f3 a.f4 b.f0 b.f1 b.f2 b.f3 b.f4 = some (aheadB a b) := ahead_ref a b
def okAt (l : List S56) (j : Nat) : Bool := mayB (l.getD j z56) && (j == 0 || aheadB (l.getD (j - 1) z56) (l.getD j z56))
def risFrom (l : List S56) : Nat → Nat → Bool
  | 0,_ => true
  | n + 1,i => okAt l i && risFrom l n (i + 1)
theorem rdn (l : List S56) (i : Nat) : rd_T56 l (i : Int) = l.getD i z56 := by unfold rd_T56;rw [Int.toNat_natCast]
theorem ris_l0 (l : List S56) (hl : l.length < 4611686018427387904) : ∀ (n i k : Nat),i + n = l.length → 2 * n + 3 ≤ k → beaconref14_rising.l0 k l (i : Int) = some (risFrom l n i)
  | 0,i,k + 1,e,_ => by
    rw [beaconref14_rising_l0_eq,if_neg (by omega)]
    rfl
  | n + 1,i,k + 2,e,hk => by
    have ih := ris_l0 l hl n (i + 1) k (by omega) (by omega)
    rw [beaconref14_rising_l0_eq,if_pos (by omega),if_pos (by omega),rdn,may_all _ _ (by omega),Option.bind_some]
    simp only [risFrom,okAt]
    cases mayB (l.getD i z56)
    · rw [if_neg (by decide),beaconref14_rising_j1_eq,if_pos rfl]
      rfl
    rw [if_pos rfl]
    by_cases h0 : i = 0
    · subst h0
      rw [if_neg (by omega),beaconref14_rising_j1_eq,if_neg (by decide),next64 _ (by omega),ih]
      rfl
    rw [if_pos (by omega),prev64 i (by omega) (by omega),if_pos (by omega),if_pos (by omega),rdn,ahead_ref,Option.bind_some,beaconref14_rising_j1_eq]
    have e0 : (i == 0) = false := by simpa using h0
    rw [e0]
    cases aheadB (l.getD (i - 1) z56) (l.getD i z56)
    · rfl
    rw [if_neg (by decide),next64 _ (by omega),ih]
    rfl
def nearFrom (l : List S56) : Nat → Nat → Bool
  | 0,_ => true
  | n + 1,i => !infB (l.getD i z56).f2 && nearFrom l n (i + 1)
def listB (l : List S56) : Bool := nearFrom l l.length 0 && risFrom l l.length 0
theorem ref_list_l0 (l : List S56) (hl : l.length < 4611686018427387904) : ∀ (n i k : Nat),i + n = l.length → n + 2 * l.length + 5 ≤ k → beaconref14_List.l0 k l (i : Int) = some (nearFrom l n i && risFrom l l.length 0)
  | 0,i,k + 1,e,hk => by
    rw [beaconref14_List_l0_eq,if_neg (by omega)]
    unfold beaconref14_rising.f
    have := ris_l0 l hl l.length 0 k (by omega) (by omega)
    rw [show ((0 : Nat) : Int) = 0 from rfl] at this
    rw [this]
    rfl
  | n + 1,i,k + 1,e,hk => by
    rw [beaconref14_List_l0_eq,if_pos (by omega),if_pos (by omega),rdn,isInf1,Option.bind_some]
    simp only [nearFrom]
    have ih := ref_list_l0 l hl n (i + 1) k (by omega) (by omega)
    show (if infB (l.getD i z56).f2 = true then _ else _) = _
    cases infB (l.getD i z56).f2
    · rw [if_neg (by decide),next64 _ (by omega),ih]
      rfl
    rfl
theorem ref_list (l : List S56) (hl : l.length < 4611686018427387904) (k : Nat) (hk : 3 * l.length + 5 ≤ k) : beaconref14_List.f k l = some (listB l) := ref_list_l0 l hl l.length 0 k (by omega) (by omega)
end Go.Proofs.Ytjcnmpkaiopihaa.PA
