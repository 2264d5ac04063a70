/- Which floats may be limits and weights: the program's check tells what the document's does; what passes is a whole number of quarters. Conditions: the word is below 2^64. -/
import Derived.Test.YtblemmagkehanaaGreatZkFq
namespace Go.Proofs.YtblemmagkehanaaGreat.PA
open Go.RowKit Go.Proofs.YtblemmagkehanaaGreatW.PrintWords
set_option linter.unusedVariables false
set_option linter.unusedSimpArgs false
def rr (s : Bool) (r : Nat) : Ieee.Datum :=
  if r < 4503599627370496 then .number s r (-1074) else if r < 9218868437227405312 then .number s (4503599627370496 + r % 4503599627370496) (-1074 + ((r / 4503599627370496 - 1 : Nat) : Int))
  else if r = 9218868437227405312 then .infinity s else .nan s (r - 9218868437227405312)
theorem read_rr (a : Nat) : Ieee.double.read a = rr (a / 9223372036854775808 % 2 == 1) (a % 9223372036854775808) := by
  unfold Ieee.Format.read rr;rw [dbl_sign,dbl_least,dbl_binade,dbl_inf]
theorem rr_number (r : Nat) (h : r < 9218868437227405312) : ∃ (m : Nat) (i : Int),(∀ s,rr s r = .number s m i) ∧ m < 9007199254740992 ∧ -1074 ≤ i ∧ i ≤ 971 ∧
    ((r < 4503599627370496 ∧ m = r ∧ i = -1074) ∨ (4503599627370496 ≤ m ∧ r = (i + 1074).toNat * 4503599627370496 + m)) := by
  by_cases h1 : r < 4503599627370496
  · exact ⟨r,-1074,fun s => by simp [rr,h1],by omega,by omega,by omega,Or.inl ⟨h1,rfl,rfl⟩⟩
  refine ⟨4503599627370496 + r % 4503599627370496,-1074 + ((r / 4503599627370496 - 1 : Nat) : Int),fun s => by simp [rr,h1,h],by omega,by omega,by omega,Or.inr ⟨by omega,?_⟩⟩;omega
theorem abs_mod (a : Nat) (h : a < 18446744073709551616) : (Go.bits .andNot .u64 (a : Int) 9223372036854775808).toNat = a % 9223372036854775808 := by
  have e1 : ~~~(BitVec.ofInt 64 9223372036854775808) = BitVec.ofNat 64 (2 ^ 63 - 1) := by decide
  unfold Go.bits
  show (IntKind.u64.wrap (((BitVec.ofInt 64 (a : Int)) &&& ~~~(BitVec.ofInt 64 9223372036854775808)).toNat : Int)).toNat = _
  rw [e1,BitVec.ofInt_natCast,BitVec.toNat_and,BitVec.toNat_ofNat,BitVec.toNat_ofNat];have e2 : a % 2 ^ 64 = a := Nat.mod_eq_of_lt (by simpa using h);have e3 : (2 ^ 63 - 1) % 2 ^ 64 = 2 ^ 63 - 1 := by decide
  rw [e2,e3,Nat.and_two_pow_sub_one_eq_mod];have e4 : (2 : Nat) ^ 63 = 9223372036854775808 := by decide
  rw [e4];have h5 : a % 9223372036854775808 < 9223372036854775808 := Nat.mod_lt _ (by decide)
  generalize a % 9223372036854775808 = x at h5
  simp [IntKind.wrap,IntKind.bits,IntKind.signed]
  omega
theorem read_max : Ieee.double.read 9218868437227405311 = .number false 9007199254740991 971 := by decide
theorem read_nmax : Ieee.double.read 18442240474082181119 = .number true 9007199254740991 971 := by decide
theorem le_shift (m k : Nat) (h : m < 9007199254740992) : m ≤ 9007199254740991 <<< k := by
  rw [Nat.shiftLeft_eq];have := Nat.two_pow_pos k
  calc m ≤ 9007199254740991 * 1 := by omega
    _ ≤ _ := Nat.mul_le_mul_left _ this
theorem number_le_max (s : Bool) (m : Nat) (i : Int) (h : m < 9007199254740992) (hi : i ≤ 971) :
    ((Ieee.Datum.number s m i).order (.number false 9007199254740991 971) == some .gt) = false ∧ ((Ieee.Datum.number s m i).order (.number true 9007199254740991 971) == some .lt) = false := by
  have hb : min i 971 = i := by omega
  have h1 := le_shift m (971 - i).toNat h;unfold Ieee.Datum.order Ieee.signed;simp only [hb,Int.sub_self,Int.toNat_zero,Nat.shiftLeft_zero,Bool.false_eq_true,if_false,if_true];obtain ⟨X,hX⟩ : ∃ X,9007199254740991 <<< (971 - i).toNat = X := ⟨_,rfl⟩
  rw [hX] at h1 ⊢
  constructor
  · rw [beq_eq_false_iff_ne]
    intro hc;have h2 := Int.compare_eq_gt.1 (Option.some.inj hc)
    cases s <;> simp at h2 <;> omega
  rw [beq_eq_false_iff_ne];intro hc;have h2 := Int.compare_eq_lt.1 (Option.some.inj hc)
  cases s <;> simp at h2 <;> omega
theorem order_read (a b : Nat) : FloatKind.f64.format.order a b = (Ieee.double.read a).order (Ieee.double.read b) := rfl
theorem inf_same (a : Nat) (h : a < 18446744073709551616) (hn : math_IsNaN.f a = some false) : math_IsInf.f a 0 = beaconref01_inf.f a ∧ (∃ b,beaconref01_inf.f a = some b ∧ (b = false → a % 9223372036854775808 < 9218868437227405312)) := by
  unfold math_IsInf.f beaconref01_inf.f math_Abs.f;unfold math_IsNaN.f at hn;rw [order_read,read_rr] at hn;rw [if_pos rfl,abs_mod a h];simp only [Option.bind_some,order_read,read_max,read_nmax];rw [read_rr a,read_rr (a % 9223372036854775808)];have e1 : a % 9223372036854775808 / 9223372036854775808 = 0 := by omega
  rw [e1,Nat.mod_mod];have e2 : ((0 % 2 : Nat) == 1) = false := by decide
  rw [e2];obtain ⟨s,hs⟩ : ∃ s,(a / 9223372036854775808 % 2 == 1) = s := ⟨_,rfl⟩
  obtain ⟨r,hr⟩ : ∃ r,a % 9223372036854775808 = r := ⟨_,rfl⟩
  rw [hs,hr] at hn;rw [hs,hr]
  by_cases h1 : r < 9218868437227405312
  · obtain ⟨m,i,hm,hm2,hi0,hi1,-⟩ := rr_number r h1
    rw [hm s,hm false];have k1 := number_le_max s m i hm2 hi1;have k2 := number_le_max false m i hm2 hi1
    simp [k1.1,k1.2,k2.1,h1]
  by_cases h2 : r = 9218868437227405312
  · have hrr : ∀ s,rr s r = .infinity s := fun s => by simp [rr,h2]
    rw [hrr,hrr]
    cases s <;> simp [Ieee.Datum.order]
  have hrr : ∀ s,rr s r = .nan s (r - 9218868437227405312) := fun s => by
    unfold rr;rw [if_neg (by omega),if_neg h1,if_neg h2]
  rw [hrr] at hn
  simp [Ieee.Datum.order] at hn
theorem sign_same (a : Nat) (h : a < 18446744073709551616) : math_Signbit.f a = beaconref01_sign.f a ∧ beaconref01_sign.f a = some (decide (9223372036854775808 ≤ a)) := by
  have h2 : beaconref01_sign.f a = some (decide (9223372036854775808 ≤ a)) := by
    unfold beaconref01_sign.f
    congr 1
    by_cases h1 : 9223372036854775808 ≤ a
    · have : (a : Int) / 9223372036854775808 = 1 := by omega
      rw [this]
      simp [h1]
    have : (a : Int) / 9223372036854775808 = 0 := by omega
    rw [this]
    simp [h1]
  refine ⟨?_,h2⟩;rw [h2];unfold math_Signbit.f;have e1 : (wrap64 (a : Int) < 0) ↔ 9223372036854775808 ≤ a := by
    unfold wrap64;omega
  rw [decide_eq_decide.2 e1]
theorem order_eq_symm (a b : Nat) : (FloatKind.f64.format.order a b == some .eq) = (FloatKind.f64.format.order b a == some .eq) := by
  rw [order_read,order_read]
  cases Ieee.double.read a <;> cases Ieee.double.read b <;> try rfl
  · rename_i s m i t n j
    unfold Ieee.Datum.order;simp only;rw [show min j i = min i j from by omega]
    generalize Ieee.signed s m _ = x
    generalize Ieee.signed t n _ = y
    rw [Bool.eq_iff_iff];simp only [beq_iff_eq,Option.some.injEq,Int.compare_eq_eq];exact eq_comm
  · rename_i s m i t
    cases t <;> rfl
  · rename_i s t n j
    cases s <;> rfl
  rename_i s t
  cases s <;> cases t <;> rfl
theorem quarter_same (a : Nat) : metric_quarter.f a = beaconref01_quarter.f a := by
  unfold metric_quarter.f beaconref01_quarter.f;simp only [order_eq_symm]
theorem nan_same (a : Nat) : beaconref01_nan.f a = math_IsNaN.f a := by
  unfold beaconref01_nan.f math_IsNaN.f;exact Eq.refl _
theorem within_number (a m : Nat) (hq : metric_quarter.f a = beaconref01_quarter.f a) (hi : math_IsInf.f a 0 = beaconref01_inf.f a) (hs : math_Signbit.f a = beaconref01_sign.f a) : metric_within.f a m = beaconref01_bounded.f a m := by
  unfold metric_within.f beaconref01_bounded.f;rw [hi,hs,hq,nan_same]
theorem within_nan (a m : Nat) (hn : math_IsNaN.f a = some true) : metric_within.f a m = some 10 := by
  unfold metric_within.f;rw [hn,Option.bind_some,if_pos rfl]
theorem bounded_nan (a m : Nat) (hn : math_IsNaN.f a = some true) : beaconref01_bounded.f a m = some 10 := by
  unfold beaconref01_bounded.f;rw [nan_same,hn,Option.bind_some,if_pos rfl]
theorem nan_bool (a : Nat) : math_IsNaN.f a = some true ∨ math_IsNaN.f a = some false := by
  unfold math_IsNaN.f
  cases FloatKind.f64.format.order a a != some .eq
  · exact Or.inr rfl
  exact Or.inl rfl
theorem within_bounded (a m : Nat) (h : a < 18446744073709551616) : metric_within.f a m = beaconref01_bounded.f a m := by
  rcases nan_bool a with hn | hn
  · rw [within_nan a m hn,bounded_nan a m hn]
  exact within_number a m (quarter_same a) (inf_same a h hn).1 (sign_same a h).1
end Go.Proofs.YtblemmagkehanaaGreat.PA
