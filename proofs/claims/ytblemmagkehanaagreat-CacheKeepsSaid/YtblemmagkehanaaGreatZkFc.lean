/- What passes as a limit or a weight is a whole number of quarters. Conditions: the word is below 2^64, the bound at most 2^32 quarters. -/
import Derived.Test.YtblemmagkehanaaGreatZkFb
namespace Go.Proofs.YtblemmagkehanaaGreat.PA
open Go.RowKit Go.Proofs.YtblemmagkehanaaGreatW.PrintWords
set_option linter.unusedVariables false
set_option linter.unusedSimpArgs false
theorem compare_mul (x y P : Nat) (hp : 0 < P) : compare (x * P) (y * P) = compare x y := by
  rcases Nat.lt_trichotomy x y with h | h | h
  · rw [Nat.compare_eq_lt.2 h]
    exact Nat.compare_eq_lt.2 (Nat.mul_lt_mul_of_pos_right h hp)
  · subst h
    rw [Nat.compare_eq_eq.2 rfl,Nat.compare_eq_eq.2 rfl]
  rw [Nat.compare_eq_gt.2 h];exact Nat.compare_eq_gt.2 (Nat.mul_lt_mul_of_pos_right h hp)
theorem compare_cast (x y : Nat) : compare (x : Int) (y : Int) = compare x y := by
  rcases Nat.lt_trichotomy x y with h | h | h
  · rw [Nat.compare_eq_lt.2 h]
    exact Int.compare_eq_lt.2 (by omega)
  · subst h
    rw [Nat.compare_eq_eq.2 rfl];exact Int.compare_eq_eq.2 rfl
  rw [Nat.compare_eq_gt.2 h];exact Int.compare_eq_gt.2 (by omega)
theorem order_val (a b m n : Nat) (i j : Int) (ha : Ieee.double.read a = .number false m i) (hb : Ieee.double.read b = .number false n j) (hi : -1074 ≤ i) (hj : -1074 ≤ j) :
    FloatKind.f64.format.order a b = some (compare (m * 2 ^ (i + 1074).toNat) (n * 2 ^ (j + 1074).toNat)) := by
  rw [order_read,ha,hb]
  show some (compare (Ieee.signed false m (i - min i j).toNat) (Ieee.signed false n (j - min i j).toNat)) = _
  unfold Ieee.signed;simp only [Bool.false_eq_true,if_false];rw [compare_cast,Nat.shiftLeft_eq,Nat.shiftLeft_eq];have e1 : m * 2 ^ (i + 1074).toNat = m * 2 ^ (i - min i j).toNat * 2 ^ (min i j + 1074).toNat := by
    rw [Nat.mul_assoc,← Nat.pow_add]
    congr 2
    omega
  have e2 : n * 2 ^ (j + 1074).toNat = n * 2 ^ (j - min i j).toNat * 2 ^ (min i j + 1074).toNat := by
    rw [Nat.mul_assoc,← Nat.pow_add]
    congr 2
    omega
  rw [e1,e2,compare_mul _ _ _ (Nat.two_pow_pos _)]
theorem log2_norm (m : Nat) (h1 : 4503599627370496 ≤ m) (h2 : m < 9007199254740992) : m.log2 = 52 := by
  rw [Nat.log2_eq_iff (by omega)];exact ⟨h1,h2⟩
theorem read_norm (m g : Nat) (h1 : 4503599627370496 ≤ m) (h2 : m < 9007199254740992) (hg : g ≤ 1974) : Ieee.double.read (g * 4503599627370496 + m) = .number false m (-1074 + g) := by
  unfold Ieee.Format.read;rw [dbl_sign,dbl_least,dbl_binade,dbl_inf];have c1 : (g * 4503599627370496 + m) / 9223372036854775808 = 0 := by
    apply Nat.div_eq_of_lt
    omega
  have c2 : (g * 4503599627370496 + m) % 9223372036854775808 = g * 4503599627370496 + m := by
    apply Nat.mod_eq_of_lt
    omega
  dsimp only;rw [c1,c2,if_neg (by omega),if_pos (by omega)];have c3 : (g * 4503599627370496 + m) % 4503599627370496 = m - 4503599627370496 := by omega
  have c4 : (g * 4503599627370496 + m) / 4503599627370496 = g + 1 := by omega
  have c5 : 4503599627370496 + (m - 4503599627370496) = m := by omega
  have c6 : (-1074 : Int) + ((g + 1 - 1 : Nat) : Int) = -1074 + g := by omega
  rw [c3,c4,c5,c6];rfl
theorem nearest_norm (m g : Nat) (h1 : 4503599627370496 ≤ m) (h2 : m < 9007199254740992) (hg : g ≤ 1974) : Ieee.double.nearest false m (-1074 + g) = g * 4503599627370496 + m := by
  unfold Ieee.Format.nearest;rw [if_neg (by omega),log2_norm m h1 h2,dbl_least,dbl_frac,dbl_binade,dbl_inf];have e1 : max (-1074 + (g : Int) + ((52 : Nat) : Int) - 52) (-1074) = -1074 + g := by omega
  rw [e1];have d0 : ((-1074 + (g : Int)) - (-1074 + (g : Int))).toNat = 0 := by omega
  have d2 : ((-1074 + (g : Int)) - (-1074)).toNat = g := by omega
  dsimp only;rw [d0,d2,Nat.shiftLeft_zero];have := cut_exact m 0;rw [Nat.pow_zero,Nat.mul_one] at this;rw [this];unfold Ieee.Format.word;rw [if_neg (by decide),Nat.min_eq_left];omega
theorem cut_zero (m d : Nat) (h1 : 4503599627370496 ≤ m) (h2 : m < 9007199254740992) (hd : d ≤ 54) : Ieee.Toward.zero.cut false m d = m / 2 ^ d := by
  unfold Ieee.Toward.cut;rw [log2_norm m h1 h2];have : min d (52 + 2) = d := by omega
  simp only [this,Nat.one_shiftLeft,Bool.toNat_false,Nat.add_zero]
theorem val_bq (q : Nat) (hq : q < 9007199254740992) : ∃ (m : Nat) (i : Int),Ieee.double.read (bq q) = .number false m i ∧ -1074 ≤ i ∧ m * 2 ^ (i + 1074).toNat = q * 2 ^ 1072 := by
  obtain ⟨m,i,h1,h2,h3,h4⟩ := read_bq q hq;refine ⟨m,i,h1,h2,?_⟩;rw [h4,Nat.mul_assoc,← Nat.pow_add]
  congr 2
  omega
theorem read_one : Ieee.double.read 4607182418800017408 = .number false 4503599627370496 (-52) := by decide
theorem read_four : Ieee.double.read 4616189618054758400 = .number false 4503599627370496 (-50) := by decide
theorem nearest_whole (low : Nat) (e3 : 0 < low) (e4 : low < 9007199254740992) : Ieee.double.nearest false low 0 = bq (low * 4) := by
  have h := nearest_shift low 2 (-2) e3 e4 (by omega);have h2 : (2 : Nat) ^ 2 = 4 := by decide
  have h3 : (-2 : Int) + ((2 : Nat) : Int) = 0 := by decide
  rw [h2,h3] at h;unfold bq;exact h.symm
theorem trunc_encode (m : Nat) (p : Int) (h1 : 4503599627370496 ≤ m) (h2 : m < 9007199254740992) (d : Nat) (e1 : p.toNat = 0) (e2 : (-p).toNat = d) (hd : d ≤ 54) :
    FloatKind.f64.encode ((Ieee.Datum.number false m p).integral .zero) = Ieee.double.nearest false (m / 2 ^ d) 0 := by
  unfold Ieee.Datum.integral;simp only [e1,e2,Nat.shiftLeft_zero,cut_zero m d h1 h2 hd];unfold FloatKind.encode Ieee.Format.write;rfl
theorem decode_read (x : Nat) : FloatKind.f64.decode x = Ieee.double.read x := rfl
theorem trunc_of (T m : Nat) (p : Int) (hT : Ieee.double.read T = .number false m p) : math_Trunc.f T = some (FloatKind.f64.encode ((Ieee.Datum.number false m p).integral .zero)) := by
  unfold math_Trunc.f archTruncBits;rw [decode_read,hT];rfl
theorem trunc_norm (T m t : Nat) (p : Int) (h1 : 4503599627370496 ≤ m) (h2 : m < 9007199254740992) (ht : t ≤ 30) (hp : p = -50 + t) (hT : Ieee.double.read T = .number false m p) : math_Trunc.f T = some (bq (m / 2 ^ (50 - t) * 4)) := by
  rw [trunc_of T m p hT]
  congr 1
  have e1 : p.toNat = 0 := by omega
  have e2 : (-p).toNat = 50 - t := by omega
  rw [trunc_encode m _ h1 h2 (50 - t) e1 e2 (by omega)];have e3 : 0 < m / 2 ^ (50 - t) := by
    apply Nat.div_pos _ (Nat.two_pow_pos _)
    have : 2 ^ (50 - t) ≤ 2 ^ 50 := Nat.pow_le_pow_right (by decide) (by omega);have h50 : (2 : Nat) ^ 50 = 1125899906842624 := by decide
    omega
  have e4 : m / 2 ^ (50 - t) < 9007199254740992 := Nat.lt_of_le_of_lt (Nat.div_le_self _ _) h2;exact nearest_whole _ e3 e4
theorem mul_four (a m t : Nat) (h1 : 4503599627370496 ≤ m) (h2 : m < 9007199254740992) (ht : t ≤ 30) (ha : a = (1022 + t) * 4503599627370496 + m) :
    floatBits .mul .f64 a 4616189618054758400 = some ((1024 + t) * 4503599627370496 + m) := by
  show Ieee.double.mul a 4616189618054758400 = _
  unfold Ieee.Format.mul;rw [ha,read_norm m (1022 + t) h1 h2 (by omega),read_four]
  show some (Ieee.double.nearest false (m * 2 ^ 52) (-1074 + ((1022 + t : Nat) : Int) + -50)) = _
  rw [nearest_shift m 52 _ (by omega) h2 (by omega)];have e1 : -1074 + ((1022 + t : Nat) : Int) + -50 + ((52 : Nat) : Int) = -1074 + ((1024 + t : Nat) : Int) := by omega
  rw [e1,nearest_norm m (1024 + t) h1 h2 (by omega)]
theorem pow_cancel (x y m n : Nat) (h : m * 2 ^ x = n * 2 ^ (x + y)) : m = n * 2 ^ y := by
  rw [Nat.add_comm,Nat.pow_add,← Nat.mul_assoc] at h;exact Nat.eq_of_mul_eq_mul_right (Nat.two_pow_pos x) h
theorem pow_cancel2 (m low x y Z : Nat) (h : x + y = Z + 2) (h2 : low * 4 * 2 ^ Z = m * 2 ^ x) : m = low * 2 ^ y := by
  apply pow_cancel x y
  rw [h,← h2,Nat.pow_add,Nat.mul_assoc,Nat.mul_comm 4]
theorem quarter_of (a T U : Nat) (h1 : floatBits .mul .f64 a 4616189618054758400 = some T) (h2 : math_Trunc.f T = some U) : beaconref01_quarter.f a = some (FloatKind.f64.format.order U T == some .eq) := by
  unfold beaconref01_quarter.f;rw [h1,Option.bind_some,h2,Option.bind_some]
theorem order_exact (T m t low : Nat) (p : Int) (ht : t ≤ 30) (hp : p = -50 + t) (hT : Ieee.double.read T = .number false m p) (hlow : low ≤ 8589934592)
    (hb : (FloatKind.f64.format.order (bq (low * 4)) T == some .eq) = true) : m = low * 2 ^ (50 - t) := by
  obtain ⟨n,j,k1,k2,k3⟩ := val_bq (low * 4) (by omega);rw [order_val _ _ n m j _ k1 hT k2 (by omega),k3] at hb;have hb2 := Nat.compare_eq_eq.1 (Option.some.inj (eq_of_beq hb));have e1 : (p + 1074).toNat = 1024 + t := by omega
  rw [e1] at hb2;exact pow_cancel2 m low (1024 + t) (50 - t) 1072 (by omega) hb2
theorem bq_exact (a m t low : Nat) (h1 : 4503599627370496 ≤ m) (h2 : m < 9007199254740992) (ht : t ≤ 30) (hlow : low ≤ 8589934592) (ha : a = (1022 + t) * 4503599627370496 + m) (hm : m = low * 2 ^ (50 - t)) : a = bq low := by
  have hlp : 0 < low := by
    rcases Nat.eq_zero_or_pos low with h0 | h0
    · rw [h0] at hm
      omega
    exact h0
  have f1 := nearest_norm m (1022 + t) h1 h2 (by omega);have f2 := nearest_shift low (50 - t) (-1074 + ((1022 + t : Nat) : Int)) hlp (by omega) (by omega);rw [← hm] at f2;have f3 : (-1074 + ((1022 + t : Nat) : Int)) + ((50 - t : Nat) : Int) = -2 := by omega
  rw [f3] at f2;rw [ha,← f1,f2];unfold bq;exact Eq.refl _
theorem quarter_norm (a m t : Nat) (h1 : 4503599627370496 ≤ m) (h2 : m < 9007199254740992) (ht : t ≤ 30) (ha : a = (1022 + t) * 4503599627370496 + m) :
    ∃ b,beaconref01_quarter.f a = some b ∧ (b = true → a = bq (m / 2 ^ (50 - t)) ∧ m = m / 2 ^ (50 - t) * 2 ^ (50 - t)) := by
  have hmul := mul_four a m t h1 h2 ht ha;have hT := read_norm m (1024 + t) h1 h2 (by omega)
  generalize (1024 + t) * 4503599627370496 + m = T at hmul hT
  have hp : (-1074 : Int) + ((1024 + t : Nat) : Int) = -50 + t := by omega
  have htr := trunc_norm T m t _ h1 h2 ht hp hT;refine ⟨_,quarter_of a T _ hmul htr,?_⟩;intro hb;have hd20 : 1048576 ≤ 2 ^ (50 - t) := by
    have : (2 : Nat) ^ 20 ≤ 2 ^ (50 - t) := Nat.pow_le_pow_right (by decide) (by omega);exact this
  obtain ⟨low,hl⟩ : ∃ low,m / 2 ^ (50 - t) = low := ⟨_,rfl⟩
  have hlow : low ≤ 8589934592 := by
    rw [← hl]
    calc m / 2 ^ (50 - t) ≤ m / 1048576 := Nat.div_le_div_left hd20 (by decide)
      _ ≤ 8589934592 := by omega
  rw [hl] at hb ⊢;have hm := order_exact T m t low _ ht hp hT hlow hb;exact ⟨bq_exact a m t low h1 h2 ht hlow ha hm,hm⟩
theorem low_place (m I B : Nat) (hm : m < 9007199254740992) (hge : 4503599627370496 * 2 ^ (B + 1) ≤ m * 2 ^ I) : B + 1 ≤ I := by
  rcases Nat.lt_or_ge B I with h | h
  · exact h
  exfalso
  have h1 : m * 2 ^ I ≤ m * 2 ^ B := Nat.mul_le_mul_left _ (Nat.pow_le_pow_right (by decide) h);have h2 : m * 2 ^ B < 9007199254740992 * 2 ^ B := Nat.mul_lt_mul_of_pos_right hm (Nat.two_pow_pos B);rw [Nat.pow_succ] at hge
  generalize m * 2 ^ I = u at *
  generalize m * 2 ^ B = v at *
  generalize 2 ^ B = P at *
  omega
theorem low_place_at (m I C : Nat) (hC : 0 < C) (hm : m < 9007199254740992) (hge : 4503599627370496 * 2 ^ C ≤ m * 2 ^ I) : C ≤ I := by
  obtain ⟨B,rfl⟩ : ∃ B,C = B + 1 := ⟨C - 1,by omega⟩
  exact low_place m I B hm hge
theorem high_place (m I Q Z : Nat) (h1 : 4503599627370496 ≤ m) (hQ : Q ≤ 4294967296) (hle : m * 2 ^ I ≤ Q * 2 ^ Z) : I + 20 ≤ Z := by
  rcases Nat.lt_or_ge Z (I + 20) with h | h
  · exfalso
    have h2 : Q * 2 ^ Z ≤ 4294967296 * 2 ^ (I + 19) := Nat.mul_le_mul hQ (Nat.pow_le_pow_right (by decide) (by omega));have h3 : 4503599627370496 * 2 ^ I ≤ m * 2 ^ I := Nat.mul_le_mul_right _ h1;have h4 := Nat.two_pow_pos I;rw [Nat.pow_add] at h2;have h5 : (2 : Nat) ^ 19 = 524288 := by decide
    rw [h5] at h2
    generalize Q * 2 ^ Z = u at *
    generalize m * 2 ^ I = v at *
    generalize 2 ^ I = P at *
    omega
  exact h
theorem low_le (low Q d I Z : Nat) (h : d + I = Z) (hle : low * 2 ^ d * 2 ^ I ≤ Q * 2 ^ Z) : low ≤ Q := by
  rw [Nat.mul_assoc,← Nat.pow_add,h] at hle;exact Nat.le_of_mul_le_mul_right hle (Nat.two_pow_pos _)
theorem big_le (a : Nat) : 4503599627370496 ≤ 4503599627370496 * 2 ^ a := Nat.le_mul_of_pos_right _ (Nat.two_pow_pos a)
theorem ge_of_not_lt (a b : Nat) (h : ¬ (some (compare a b) == some Ordering.lt) = true) : b ≤ a := by
  rcases Nat.lt_or_ge a b with h7 | h7
  · exact absurd (by rw [Nat.compare_eq_lt.2 h7];rfl) h
  exact h7
theorem le_of_not_gt (a b : Nat) (h : ¬ (some (compare a b) == some Ordering.gt) = true) : a ≤ b := by
  rcases Nat.lt_or_ge b a with h7 | h7
  · exact absurd (by rw [Nat.compare_eq_gt.2 h7];rfl) h
  exact h7
theorem bounded_quarters (a Q : Nat) (h : a < 18446744073709551616) (hQ : Q ≤ 4294967296) : ∃ e,beaconref01_bounded.f a (bq Q) = some e ∧ (e = 0 → ∃ q,4 ≤ q ∧ q ≤ Q ∧ a = bq q) := by
  rcases nan_bool a with hn | hn
  · exact ⟨10,bounded_nan a _ hn,fun h => absurd h (by decide)⟩
  obtain ⟨bi,hi,hi2⟩ := (inf_same a h hn).2;have hs := (sign_same a h).2;unfold beaconref01_bounded.f;rw [nan_same,hn,hi,hs];simp only [Option.bind_some,Bool.false_eq_true,if_false,decide_eq_true_eq]
  by_cases hbi : bi = true
  · rw [if_pos hbi]
    exact ⟨11,rfl,fun h => absurd h (by decide)⟩
  rw [if_neg hbi];have hr := hi2 (by simpa using hbi)
  by_cases hneg : 9223372036854775808 ≤ a
  · rw [if_pos hneg]
    exact ⟨12,rfl,fun h => absurd h (by decide)⟩
  rw [if_neg hneg];have hmod : a % 9223372036854775808 = a := Nat.mod_eq_of_lt (by omega);rw [hmod] at hr;obtain ⟨m,i,hm,hm2,hi0,hi1,hcase⟩ := rr_number a hr;have hread : Ieee.double.read a = .number false m i := by
    rw [read_rr,hmod];have : a / 9223372036854775808 = 0 := by omega
    rw [this];exact hm false
  rw [order_val a 4607182418800017408 m _ i (-52) hread read_one hi0 (by omega)];obtain ⟨n,j,k1,k2,k3⟩ := val_bq Q (by omega);rw [order_val a (bq Q) m n i j hread k1 hi0 k2,k3];have e52 : ((-52 : Int) + 1074).toNat = 1022 := by decide
  rw [e52];obtain ⟨I,hI⟩ : ∃ I,(i + 1074).toNat = I := ⟨_,rfl⟩
  rw [hI]
  by_cases hlt : (some (compare (m * 2 ^ I) (4503599627370496 * 2 ^ 1022)) == some .lt) = true
  · rw [if_pos hlt]
    exact ⟨13,rfl,fun h => absurd h (by decide)⟩
  rw [if_neg hlt]
  by_cases hgt : (some (compare (m * 2 ^ I) (Q * 2 ^ 1072)) == some .gt) = true
  · rw [if_pos hgt]
    exact ⟨14,rfl,fun h => absurd h (by decide)⟩
  rw [if_neg hgt];have hge := ge_of_not_lt _ _ hlt;have hle := le_of_not_gt _ _ hgt;have hnorm : 4503599627370496 ≤ m ∧ a = I * 4503599627370496 + m := by
    rcases hcase with ⟨h7,h8,h9⟩ | ⟨h7,h8⟩
    · exfalso
      have hI0 : I = 0 := by omega
      rw [hI0,Nat.pow_zero,Nat.mul_one] at hge;exact absurd (big_le 1022) (by intro h;exact absurd (Nat.le_trans h hge) (by omega))
    rw [hI] at h8;exact ⟨h7,h8⟩
  have hlo := low_place_at m I 1022 (by decide) hm2 hge;have hhi : I + 20 ≤ 1072 := high_place m I Q 1072 hnorm.1 hQ hle;obtain ⟨t,ht⟩ : ∃ t,I = 1022 + t := ⟨I - 1022,by omega⟩
  have ha := hnorm.2;rw [ht] at ha;obtain ⟨b,hb,hb2⟩ := quarter_norm a m t hnorm.1 hm2 (by omega) ha;rw [hb];simp only [Option.bind_some]
  by_cases hbt : b = true
  · rw [if_pos hbt]
    refine ⟨0,rfl,fun _ => ⟨m / 2 ^ (50 - t),?_,?_,(hb2 hbt).1⟩⟩
    · rw [Nat.le_div_iff_mul_le (Nat.two_pow_pos _)]
      have : 2 ^ (50 - t) ≤ 2 ^ 50 := Nat.pow_le_pow_right (by decide) (by omega);have h50 : (2 : Nat) ^ 50 = 1125899906842624 := by decide
      omega
    have hm7 := (hb2 hbt).2
    generalize m / 2 ^ (50 - t) = low at hm7
    exact low_le low Q (50 - t) I 1072 (by omega) (by rw [← hm7];exact hle)
  rw [if_neg hbt];exact ⟨15,rfl,fun h => absurd h (by decide)⟩
end Go.Proofs.YtblemmagkehanaaGreat.PA
