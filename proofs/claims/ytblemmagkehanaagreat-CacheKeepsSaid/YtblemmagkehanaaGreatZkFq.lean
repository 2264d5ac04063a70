/- Floats that are whole numbers of quarters: how they are read, ordered, added. Conditions: below 2^53 quarters. -/
import Derived.Test.YtblemmagkehanaaGreatZkPAx10
import Derived.Test.YtblemmagkehanaaGreatZkPAx21
import Derived.Test.YtblemmagkehanaaGreatZkPAx19
namespace Go.Proofs.YtblemmagkehanaaGreat.PA
open Go.RowKit Go.Proofs.YtblemmagkehanaaGreatW.PrintWords
set_option linter.unusedVariables false
set_option linter.unusedSimpArgs false
def bq (q : Nat) : Nat := Ieee.double.nearest false q (-2)
theorem log2_mul_pow (a s : Nat) (ha : 0 < a) : (a * 2 ^ s).log2 = a.log2 + s := by
  have h1 : a * 2 ^ s ≠ 0 := Nat.mul_ne_zero (by omega) (Nat.pos_iff_ne_zero.1 (Nat.two_pow_pos s));rw [Nat.log2_eq_iff h1];have h2 := Nat.log2_self_le (n := a) (by omega);have h3 := Nat.lt_log2_self (n := a)
  constructor
  · rw [Nat.pow_add]
    exact Nat.mul_le_mul_right _ h2
  rw [show a.log2 + s + 1 = (a.log2 + 1) + s from by omega,Nat.pow_add];exact Nat.mul_lt_mul_of_pos_right h3 (Nat.two_pow_pos s)
theorem cut_exact (m d : Nat) : Ieee.Toward.even.cut false (m * 2 ^ d) d = m := by
  by_cases hm : m = 0
  · subst hm
    simp [Ieee.Toward.cut]
  have hlog := log2_mul_pow m d (by omega);have hmin : min d ((m * 2 ^ d).log2 + 2) = d := by omega
  unfold Ieee.Toward.cut;simp only [hmin,Nat.one_shiftLeft];have hp := Nat.two_pow_pos d;rw [Nat.mul_div_cancel _ hp,Nat.mul_mod_left];have h1 : decide (2 ^ d < 2 * 0) = false := decide_eq_false (by omega);have h2 : (2 ^ d == 2 * 0) = false := by
    rw [beq_eq_false_iff_ne];omega
  simp [h1,h2]
theorem nearest_shift (a s : Nat) (p : Int) (ha : 0 < a) (ha2 : a < 9007199254740992) (hp : -1074 ≤ p + s) : Ieee.double.nearest false (a * 2 ^ s) p = Ieee.double.nearest false a (p + s) := by
  have h1 : a * 2 ^ s ≠ 0 := Nat.mul_ne_zero (by omega) (Nat.pos_iff_ne_zero.1 (Nat.two_pow_pos s));have hl : a.log2 ≤ 52 := by
    have : a.log2 < 53 := (Nat.log2_lt (by omega)).2 ha2;omega
  unfold Ieee.Format.nearest;rw [if_neg h1,if_neg (by omega),log2_mul_pow a s ha];have hlp : Ieee.double.leastPlace = -1074 := by decide
  have hfb : (Ieee.double.fractionBits : Int) = 52 := by decide
  rw [hlp,hfb];have e1 : max (p + ((a.log2 + s : Nat) : Int) - 52) (-1074) = max (p + s + (a.log2 : Int) - 52) (-1074) := by
    congr 1
    omega
  rw [e1];obtain ⟨L,hL⟩ : ∃ L,max (p + s + (a.log2 : Int) - 52) (-1074) = L := ⟨_,rfl⟩
  rw [hL];have hLp : L ≤ p + s := by omega
  have e2 : Ieee.Toward.even.cut false ((a * 2 ^ s) <<< (p - L).toNat) (L - p).toNat = a <<< (p + s - L).toNat := by
    rcases Int.le_total L p with h | h
    · have d0 : (L - p).toNat = 0 := by omega
      rw [d0];have := cut_exact ((a * 2 ^ s) <<< (p - L).toNat) 0;rw [Nat.pow_zero,Nat.mul_one] at this;rw [this,Nat.shiftLeft_eq,Nat.shiftLeft_eq,Nat.mul_assoc,← Nat.pow_add]
      congr 2
      omega
    have d0 : (p - L).toNat = 0 := by omega
    rw [d0,Nat.shiftLeft_zero];have h3 : a * 2 ^ s = a <<< (p + s - L).toNat * 2 ^ (L - p).toNat := by
      rw [Nat.shiftLeft_eq,Nat.mul_assoc,← Nat.pow_add]
      congr 2
      omega
    rw [h3,cut_exact]
  have e3 : Ieee.Toward.even.cut false (a <<< (p + s - L).toNat) (L - (p + s)).toNat = a <<< (p + s - L).toNat := by
    have d0 : (L - (p + s)).toNat = 0 := by omega
    rw [d0];have := cut_exact (a <<< (p + s - L).toNat) 0
    rwa [Nat.pow_zero,Nat.mul_one] at this
  dsimp only;rw [e2,e3]
theorem pow_split (g : Nat) (h : g ≤ 52) : 2 ^ g * 2 ^ (52 - g) = 4503599627370496 := by
  rw [← Nat.pow_add,show g + (52 - g) = 52 from by omega]
theorem pow_split1 (g : Nat) (h : g ≤ 52) : 2 ^ (g + 1) * 2 ^ (52 - g) = 9007199254740992 := by
  rw [← Nat.pow_add,show g + 1 + (52 - g) = 53 from by omega]
theorem dbl_least : Ieee.double.leastPlace = -1074 := by decide
theorem dbl_frac : (Ieee.double.fractionBits : Int) = 52 := by decide
theorem dbl_binade : Ieee.double.binade = 4503599627370496 := by decide
theorem dbl_inf : Ieee.double.infRung = 9218868437227405312 := by decide
theorem dbl_sign : Ieee.double.signWeight = 9223372036854775808 := by decide
theorem sig_bounds (q g m : Nat) (hl : g ≤ 52) (hlo : 2 ^ g ≤ q) (hhi : q < 2 ^ (g + 1)) (hm : m = q * 2 ^ (52 - g)) : 4503599627370496 ≤ m ∧ m < 9007199254740992 := by
  have h1 := pow_split g hl;have h2 := pow_split1 g hl
  constructor
  · rw [hm,← h1]
    exact Nat.mul_le_mul_right _ hlo
  rw [hm,← h2];exact Nat.mul_lt_mul_of_pos_right hhi (Nat.two_pow_pos _)
theorem bits_bq (q g m : Nat) (h0 : q ≠ 0) (hg : q.log2 = g) (hl : g ≤ 52) (hm : m = q * 2 ^ (52 - g)) (h2 : m < 9007199254740992) : bq q = (1020 + g) * 4503599627370496 + m := by
  unfold bq Ieee.Format.nearest;rw [if_neg h0,hg,dbl_least,dbl_frac,dbl_binade,dbl_inf];have e1 : max (-2 + (g : Int) - 52) (-1074) = -54 + g := by omega
  rw [e1];have d0 : ((-54 + (g : Int)) - (-2)).toNat = 0 := by omega
  have d1 : ((-2 : Int) - (-54 + g)).toNat = 52 - g := by omega
  have d2 : ((-54 + (g : Int)) - (-1074)).toNat = 1020 + g := by omega
  dsimp only;rw [d0,d1,d2,Nat.shiftLeft_eq,← hm];have := cut_exact m 0;rw [Nat.pow_zero,Nat.mul_one] at this;rw [this];unfold Ieee.Format.word;rw [if_neg (by decide),Nat.min_eq_left];omega
theorem read_rung (g m : Nat) (hl : g ≤ 52) (h1 : 4503599627370496 ≤ m) (h2 : m < 9007199254740992) : Ieee.double.read ((1020 + g) * 4503599627370496 + m) = .number false m (-54 + g) := by
  unfold Ieee.Format.read;rw [dbl_sign,dbl_least,dbl_binade,dbl_inf];have c1 : ((1020 + g) * 4503599627370496 + m) / 9223372036854775808 = 0 := by
    apply Nat.div_eq_of_lt
    omega
  have c2 : ((1020 + g) * 4503599627370496 + m) % 9223372036854775808 = (1020 + g) * 4503599627370496 + m := by
    apply Nat.mod_eq_of_lt
    omega
  dsimp only;rw [c1,c2,if_neg (by omega),if_pos (by omega)];have c3 : ((1020 + g) * 4503599627370496 + m) % 4503599627370496 = m - 4503599627370496 := by omega
  have c4 : ((1020 + g) * 4503599627370496 + m) / 4503599627370496 = 1021 + g := by omega
  have c5 : 4503599627370496 + (m - 4503599627370496) = m := by omega
  have c6 : (-1074 : Int) + ((1021 + g - 1 : Nat) : Int) = -54 + g := by omega
  rw [c3,c4,c5,c6];rfl
theorem read_bq (q : Nat) (hq : q < 9007199254740992) : ∃ (m : Nat) (i : Int),Ieee.double.read (bq q) = .number false m i ∧ -1074 ≤ i ∧ i ≤ -2 ∧ m = q * 2 ^ (-2 - i).toNat := by
  by_cases h0 : q = 0
  · subst h0
    exact ⟨0,-1074,by decide,by omega,by omega,by rw [Nat.zero_mul]⟩
  have hl : q.log2 ≤ 52 := by
    have : q.log2 < 53 := (Nat.log2_lt h0).2 hq;omega
  have hlo := Nat.log2_self_le h0;have hhi := Nat.lt_log2_self (n := q);obtain ⟨g,hg⟩ : ∃ g,q.log2 = g := ⟨_,rfl⟩
  rw [hg] at hl hlo hhi;obtain ⟨m,hm⟩ : ∃ m,m = q * 2 ^ (52 - g) := ⟨_,rfl⟩
  obtain ⟨hm1,hm2⟩ := sig_bounds q g m hl hlo hhi hm;refine ⟨m,-54 + g,?_,by omega,by omega,?_⟩
  · rw [bits_bq q g m h0 hg hl hm hm2]
    exact read_rung g m hl hm1 hm2
  have : (-2 - (-54 + (g : Int))).toNat = 52 - g := by omega
  rw [this];exact hm
end Go.Proofs.YtblemmagkehanaaGreat.PA
