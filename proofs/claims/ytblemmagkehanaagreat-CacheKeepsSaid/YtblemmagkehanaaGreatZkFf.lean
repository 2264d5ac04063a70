/- Weights, limits and distances: the program and the document tell the same of every float. Condition: the word is below 2^64. -/
import Derived.Test.YtblemmagkehanaaGreatZkFc
import Derived.Test.YtblemmagkehanaaGreatZkPAx21
namespace Go.Proofs.YtblemmagkehanaaGreat.PA
open Go.RowKit Go.Proofs.YtblemmagkehanaaGreatW.PrintWords
set_option linter.unusedVariables false
set_option linter.unusedSimpArgs false
def wE (b : Nat) : Int := (beaconref01_Weight.f b).getD 0
theorem bq_W : bq 4194304 = 4697254411347427328 := by decide
theorem weight_all (b : Nat) (h : b < 18446744073709551616) : beaconref01_Weight.f b = some (wE b) ∧ metric_Weight.f b = some (wE b) ∧ (wE b = 0 → ∃ q,4 ≤ q ∧ q ≤ 4194304 ∧ b = bq q) := by
  obtain ⟨e,he,h0⟩ := bounded_quarters b 4194304 h (by decide);rw [bq_W] at he;have h1 : beaconref01_Weight.f b = some e := by
    unfold beaconref01_Weight.f;rw [he];rfl
  have h2 : wE b = e := by
    unfold wE;rw [h1];rfl
  refine ⟨by rw [h1,h2],?_,by rw [h2];exact h0⟩;unfold metric_Weight.f;rw [within_bounded b _ h,he,h2];rfl
theorem read_word (s : Bool) (r : Nat) (h : r ≤ 9218868437227405312) : (Ieee.double.read (Ieee.double.word s r)).isNaN = false := by
  have e : Ieee.double.word s r % 9223372036854775808 = r := by
    unfold Ieee.Format.word;rw [dbl_sign]
    cases s <;> simp <;> omega
  unfold Ieee.Format.read;rw [dbl_sign,dbl_binade,dbl_inf];simp only [e]
  by_cases h1 : r < 4503599627370496
  · rw [if_pos h1]
    rfl
  rw [if_neg h1]
  by_cases h2 : r < 9218868437227405312
  · rw [if_pos h2]
    rfl
  rw [if_neg h2,if_pos (by omega)];rfl
theorem read_nearest (s : Bool) (m : Nat) (p : Int) : (Ieee.double.read (Ieee.double.nearest s m p)).isNaN = false := by
  unfold Ieee.Format.nearest
  by_cases h : m = 0
  · rw [if_pos h]
    exact read_word s 0 (by decide)
  rw [if_neg h];refine read_word s _ ?_;rw [← dbl_inf];exact Nat.min_le_right _ _
theorem read_write (d : Ieee.Datum) (h : d.isNaN = false) : (Ieee.double.read (Ieee.double.write d)).isNaN = false := by
  cases d with
  | number s m p => exact read_nearest s m p
  | infinity s => exact read_word s _ (by rw [dbl_inf];exact Nat.le_refl _)
  | nan s f => cases h
theorem four_all (a : Nat) (h : (Ieee.double.read a).isNaN = false) : ∃ T U,floatBits .mul .f64 a 4616189618054758400 = some T ∧ math_Trunc.f T = some U := by
  obtain ⟨d,hd,hd2⟩ : ∃ d,(Ieee.double.read a).product (Ieee.double.read 4616189618054758400) = some d ∧ d.isNaN = false := by
    rw [read_four]
    cases hr : Ieee.double.read a with
    | number s m p => exact ⟨_,rfl,rfl⟩
    | infinity s => exact ⟨_,rfl,rfl⟩
    | nan s f => rw [hr] at h;cases h
  have h1 : floatBits .mul .f64 a 4616189618054758400 = some (Ieee.double.write d) := by
    show ((Ieee.double.read a).product (Ieee.double.read 4616189618054758400)).map Ieee.double.write = _
    rw [hd];rfl
  have h2 := read_write d hd2;refine ⟨_,FloatKind.f64.encode ((Ieee.double.read (Ieee.double.write d)).integral .zero),h1,?_⟩;unfold math_Trunc.f archTruncBits;rw [decode_read]
  cases hr : Ieee.double.read (Ieee.double.write d) with
  | number s m p => rfl
  | infinity s => rfl
  | nan s f => rw [hr] at h2;cases h2
theorem nan_read (a : Nat) : math_IsNaN.f a = some (Ieee.double.read a).isNaN := by
  unfold math_IsNaN.f;rw [order_read]
  cases Ieee.double.read a with
  | number s m p =>
    have : compare (Ieee.signed s m (p - min p p).toNat) (Ieee.signed s m (p - min p p).toNat) = .eq := by simp
    simp [Ieee.Datum.order,Ieee.Datum.isNaN,this]
  | infinity s => cases s <;> rfl
  | nan s f => rfl
def farB (a : Nat) : Bool := (beaconref06_Far.f a).getD false
theorem far_ref (a : Nat) : beaconref06_Far.f a = some (farB a) := by
  have : ∃ b,beaconref06_Far.f a = some b := by
    unfold beaconref06_Far.f math_IsInf.f;rw [if_neg (by decide),if_neg (by decide)];simp only [Option.bind_some]
    by_cases h1 : (FloatKind.f64.format.order a 9218868437227405311 == some .gt) = true
    · rw [if_pos h1]
      exact ⟨_,rfl⟩
    rw [if_neg h1]
    by_cases h2 : (a : Int) = 0
    · rw [if_pos h2]
      exact ⟨_,rfl⟩
    rw [if_neg h2]
    by_cases h3 : (FloatKind.f64.format.order a 0 == some .gt) = true
    · rw [if_pos h3]
      by_cases h4 : (FloatKind.f64.format.order a 4742290407621132288 == some .lt) = true
      · rw [if_pos h4]
        have hn : (Ieee.double.read a).isNaN = false := by
          rw [order_read] at h3
          cases hr : Ieee.double.read a with
          | nan s f =>
            rw [hr] at h3
            simp [Ieee.Datum.order] at h3
          | number s m p => rfl
          | infinity s => rfl
        obtain ⟨T,U,e1,e2⟩ := four_all a hn;rw [e1];simp only [Option.bind_some];rw [e2];exact ⟨_,rfl⟩
      rw [if_neg h4];exact ⟨_,rfl⟩
    rw [if_neg h3];exact ⟨_,rfl⟩
  obtain ⟨b,hb⟩ := this;unfold farB;rw [hb];rfl
end Go.Proofs.YtblemmagkehanaaGreat.PA
namespace Go.Proofs.YtblemmagkehanaaGreat.PA
open Go.RowKit Go.Proofs.YtblemmagkehanaaGreatW.PrintWords
set_option linter.unusedVariables false
set_option linter.unusedSimpArgs false
theorem read_zero : Ieee.double.read 0 = .number false 0 (-1074) := by decide
theorem neg_not_gt (a n : Nat) (j : Int) (b : Nat) (h : 9223372036854775808 ≤ a) (h2 : a < 18446744073709551616) (hb : Ieee.double.read b = .number false n j) : (FloatKind.f64.format.order a b == some .gt) = false := by
  rw [order_read,hb,read_rr];have e : (a / 9223372036854775808 % 2 == 1) = true := by
    have : a / 9223372036854775808 = 1 := by omega
    rw [this];rfl
  rw [e]
  generalize a % 9223372036854775808 = r
  by_cases h1 : r < 9218868437227405312
  · obtain ⟨m,i,hm,_⟩ := rr_number r h1
    rw [hm true];simp only [Ieee.Datum.order,Ieee.signed,if_true,Bool.false_eq_true,if_false];rw [beq_eq_false_iff_ne];intro he;have he2 := Option.some.inj he;rw [Int.compare_eq_gt] at he2;have h3 : (0 : Int) ≤ ((m <<< (i - min i j).toNat : Nat) : Int) := Int.natCast_nonneg _;have h4 : (0 : Int) ≤ ((n <<< (j - min i j).toNat : Nat) : Int) := Int.natCast_nonneg _;omega
  by_cases h2 : r = 9218868437227405312
  · have hrr : rr true r = .infinity true := by simp [rr,h2]
    rw [hrr];rfl
  have hrr : rr true r = .nan true (r - 9218868437227405312) := by
    unfold rr;rw [if_neg (by omega),if_neg h1,if_neg h2]
  rw [hrr];rfl
theorem pos_gt_zero (a : Nat) (h0 : a ≠ 0) (h : a < 9218868437227405312) : (FloatKind.f64.format.order a 0 == some .gt) = true := by
  rw [order_read,read_zero,read_rr];have e : (a / 9223372036854775808 % 2 == 1) = false := by
    have : a / 9223372036854775808 = 0 := by omega
    rw [this];rfl
  rw [e,Nat.mod_eq_of_lt (by omega)];obtain ⟨m,i,hm,hm2,hi0,hi1,hc⟩ := rr_number a h;rw [hm false];have hmp : 0 < m := by
    rcases hc with ⟨h7,h8,h9⟩ | ⟨h7,h8⟩ <;> omega
  simp only [Ieee.Datum.order,Ieee.signed,Bool.false_eq_true,if_false,Nat.zero_shiftLeft];have h3 : 0 < m <<< (i - min i (-1074)).toNat := by
    rw [Nat.shiftLeft_eq];exact Nat.mul_pos hmp (Nat.two_pow_pos _)
  have h4 : compare ((m <<< (i - min i (-1074)).toNat : Nat) : Int) ((0 : Nat) : Int) = .gt := Int.compare_eq_gt.2 (by omega);rw [h4];rfl
theorem far_zero : farB 0 = true := by
  have : beaconref06_Far.f 0 = some true := by
    unfold beaconref06_Far.f math_IsInf.f;have e : (FloatKind.f64.format.order 0 9218868437227405311 == some .gt) = false := by decide
    simp [e]
  unfold farB;rw [this];rfl
theorem isInf1 (a : Nat) : math_IsInf.f a 1 = some (FloatKind.f64.format.order a 9218868437227405311 == some .gt) := by
  unfold math_IsInf.f;rw [if_neg (by decide),if_neg (by decide)]
theorem nan_order (a b : Nat) (h : (Ieee.double.read a).isNaN = true) (o : Ordering) : (FloatKind.f64.format.order a b == some o) = false := by
  rw [order_read]
  cases hr : Ieee.double.read a with
  | number s m p => rw [hr] at h;cases h
  | infinity s => rw [hr] at h;cases h
  | nan s f => cases o <;> rfl
theorem dist_j (k x0 : Nat) (x8 : Bool) : message_distance.j0 (k + 1) x0 x8 = if x8 = true then (some false) else ((math_IsInf.f x0 1).bind fun t342 => (if t342 = true then (some true) else (if (FloatKind.f64.format.order x0 4742290407621132288 == some .lt) = true then ((floatBits .mul .f64 x0 4616189618054758400).bind fun t343 => ((math_Trunc.f t343).bind fun t344 => (some (FloatKind.f64.format.order t343 t344 == some .eq)))) else (some false)))) := rfl
theorem dist_all (a k : Nat) (h : a < 18446744073709551616) (hk : 1 ≤ k) : message_distance.f k a = some (farB a) := by
  obtain ⟨k,rfl⟩ : ∃ q,k = q + 1 := ⟨k - 1,by omega⟩
  have hf := far_ref a;unfold message_distance.f;rw [(sign_same a h).1,(sign_same a h).2,Option.bind_some]
  by_cases hneg : 9223372036854775808 ≤ a
  · rw [if_pos (by simpa using hneg)]
    rw [dist_j,if_pos rfl,← hf];unfold beaconref06_Far.f;rw [isInf1,neg_not_gt a _ _ _ hneg h read_max,Option.bind_some,if_neg (by decide),if_neg (by omega),neg_not_gt a _ _ _ hneg h read_zero,if_neg (by decide)]
  rw [if_neg (by simpa using hneg),nan_read,Option.bind_some];rw [dist_j]
  cases hn : (Ieee.double.read a).isNaN
  · rw [if_neg (by decide)]
    by_cases h0 : a = 0
    · subst h0
      rw [far_zero,isInf1];have e1 : (FloatKind.f64.format.order 0 9218868437227405311 == some .gt) = false := by decide
      have e2 : (FloatKind.f64.format.order 0 4742290407621132288 == some .lt) = true := by decide
      have e3 : floatBits .mul .f64 0 4616189618054758400 = some 0 := by decide
      have e4 : math_Trunc.f 0 = some 0 := by decide
      have e5 : (FloatKind.f64.format.order 0 0 == some .eq) = true := by decide
      rw [e1,Option.bind_some,if_neg (by decide),e2,if_pos rfl,e3,Option.bind_some,e4,Option.bind_some,e5]
    rw [← hf];unfold beaconref06_Far.f;rw [isInf1,Option.bind_some,Option.bind_some]
    by_cases hi : (FloatKind.f64.format.order a 9218868437227405311 == some .gt) = true
    · rw [if_pos hi,if_pos hi]
    have e0 : ¬ ((a : Int) = 0) := by omega
    rw [if_neg hi,if_neg hi,if_neg e0];have hr : a < 9218868437227405312 := by
      by_cases hr : a < 9218868437227405312
      · exact hr
      exfalso
      have e : (a / 9223372036854775808 % 2 == 1) = false := by
        have : a / 9223372036854775808 = 0 := by omega
        rw [this];rfl
      have hrd : Ieee.double.read a = rr false a := by rw [read_rr,e,Nat.mod_eq_of_lt (by omega)]
      by_cases h2 : a = 9218868437227405312
      · apply hi
        subst h2
        decide
      have hrr : rr false a = .nan false (a - 9218868437227405312) := by
        unfold rr;rw [if_neg (by omega),if_neg hr,if_neg h2]
      rw [hrd,hrr] at hn
      cases hn
    rw [if_pos (pos_gt_zero a h0 hr)]
  rw [if_pos rfl,← hf];unfold beaconref06_Far.f;have h0 : a ≠ 0 := by
    rintro rfl;rw [read_zero] at hn
    cases hn
  rw [isInf1,nan_order a _ hn,Option.bind_some,if_neg (by decide),if_neg (by omega),nan_order a _ hn,if_neg (by decide)]
end Go.Proofs.YtblemmagkehanaaGreat.PA
