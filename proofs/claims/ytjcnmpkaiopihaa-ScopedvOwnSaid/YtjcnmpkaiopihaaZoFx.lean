/- Distances that are no infinity are whole numbers of quarters, and the other way round. Condition: words below 2^64. -/
import Derived.Test.YtjcnmpkaiopihaaZoGr
namespace Go.Proofs.Ytjcnmpkaiopihaa.PA
open Go.RowKit Go.Proofs.YtjcnmpkaiopihaaW.PrintWords
set_option linter.unusedVariables false
set_option linter.unusedSimpArgs false
theorem x_trunc (T m t : Nat) (p : Int) (h1 : 4503599627370496 ≤ m) (h2 : m < 9007199254740992) (ht : t ≤ 32) (hp : p = -52 + t) (hT : Ieee.double.read T = .number false m p) : math_Trunc.f T = some (bq (m / 2 ^ (52 - t) * 4)) := by
  rw [trunc_of T m p hT]
  congr 1
  have e1 : p.toNat = 0 := by omega
  have e2 : (-p).toNat = 52 - t := by omega
  rw [trunc_encode m _ h1 h2 (52 - t) e1 e2 (by omega)]
  have e3 : 0 < m / 2 ^ (52 - t) := by
    apply Nat.div_pos _ (Nat.two_pow_pos _)
    have : 2 ^ (52 - t) ≤ 2 ^ 52 := Nat.pow_le_pow_right (by decide) (by omega)
    have h50 : (2 : Nat) ^ 52 = 4503599627370496 := by decide
    omega
  have e4 : m / 2 ^ (52 - t) < 9007199254740992 := Nat.lt_of_le_of_lt (Nat.div_le_self _ _) h2
  exact nearest_whole _ e3 e4
theorem x_mul (a m g : Nat) (h1 : 4503599627370496 ≤ m) (h2 : m < 9007199254740992) (hg : g ≤ 1972) (ha : a = g * 4503599627370496 + m) :
    floatBits .mul .f64 a 4616189618054758400 = some ((g + 2) * 4503599627370496 + m) := by
  show Ieee.double.mul a 4616189618054758400 = _
  unfold Ieee.Format.mul
  rw [ha,read_norm m g h1 h2 (by omega),read_four]
  show some (Ieee.double.nearest false (m * 2 ^ 52) (-1074 + (g : Int) + -50)) = _
  rw [nearest_shift m 52 _ (by omega) h2 (by omega)]
  have e1 : -1074 + (g : Int) + -50 + ((52 : Nat) : Int) = -1074 + ((g + 2 : Nat) : Int) := by omega
  rw [e1,nearest_norm m (g + 2) h1 h2 (by omega)]
theorem x_exact (T m t low : Nat) (p : Int) (ht : t ≤ 32) (hp : p = -52 + t) (hT : Ieee.double.read T = .number false m p) (hlow : low ≤ 8589934592)
    (hb : (FloatKind.f64.format.order T (bq (low * 4)) == some .eq) = true) : m = low * 2 ^ (52 - t) := by
  obtain ⟨n,j,k1,k2,k3⟩ := val_bq (low * 4) (by omega)
  rw [order_val _ _ m n _ j hT k1 (by omega) k2,k3] at hb
  have hb2 := (Nat.compare_eq_eq.1 (Option.some.inj (eq_of_beq hb))).symm
  have e1 : (p + 1074).toNat = 1022 + t := by omega
  rw [e1] at hb2
  exact pow_cancel2 m low (1022 + t) (52 - t) 1072 (by omega) hb2
theorem x_bq (a m t low : Nat) (h1 : 4503599627370496 ≤ m) (h2 : m < 9007199254740992) (ht : t ≤ 32) (hlow : low ≤ 8589934592) (ha : a = (1020 + t) * 4503599627370496 + m) (hm : m = low * 2 ^ (52 - t)) : a = bq low := by
  have hlp : 0 < low := by
    rcases Nat.eq_zero_or_pos low with h0 | h0
    · rw [h0] at hm
      omega
    exact h0
  have f1 := nearest_norm m (1020 + t) h1 h2 (by omega)
  have f2 := nearest_shift low (52 - t) (-1074 + ((1020 + t : Nat) : Int)) hlp (by omega) (by omega)
  rw [← hm] at f2
  have f3 : (-1074 + ((1020 + t : Nat) : Int)) + ((52 - t : Nat) : Int) = -2 := by omega
  rw [f3] at f2
  rw [ha,← f1,f2]
  unfold bq
  exact Eq.refl _
theorem x_small (T m : Nat) (p : Int) (h2 : m < 9007199254740992) (hp : p ≤ -53) (hT : Ieee.double.read T = .number false m p) : math_Trunc.f T = some 0 := by
  rw [trunc_of T m p hT]
  congr 1
  have e1 : p.toNat = 0 := by omega
  have e2 : ∃ d,(-p).toNat = d ∧ 53 ≤ d := ⟨_,rfl,by omega⟩
  obtain ⟨d,e2,hd⟩ := e2
  have hc : Ieee.Toward.zero.cut false m d = 0 := by
    unfold Ieee.Toward.cut
    simp only [Nat.one_shiftLeft,Bool.toNat_false,Nat.add_zero]
    apply Nat.div_eq_of_lt
    rcases Nat.le_total d (m.log2 + 2) with h | h
    · rw [Nat.min_eq_left h]
      have : 2 ^ 53 ≤ 2 ^ d := Nat.pow_le_pow_right (by decide) hd
      have h53 : (2 : Nat) ^ 53 = 9007199254740992 := by decide
      omega
    rw [Nat.min_eq_right h]
    have h3 : m < 2 ^ (m.log2 + 1) := Nat.lt_log2_self
    have h4 : 2 ^ (m.log2 + 1) ≤ 2 ^ (m.log2 + 2) := Nat.pow_le_pow_right (by decide) (by omega)
    omega
  unfold Ieee.Datum.integral
  simp only [e1,e2,Nat.shiftLeft_zero,hc]
  decide
theorem x_sub (k : Nat) (h0 : 0 < k) (h : k < 4503599627370496) : Ieee.double.nearest false k (-1074) = k := by
  have hl : k.log2 ≤ 51 := by
    have h52 : k < 2 ^ 52 := h
    have := (Nat.log2_lt (by omega)).2 h52
    omega
  unfold Ieee.Format.nearest
  rw [if_neg (by omega),dbl_least,dbl_frac,dbl_binade,dbl_inf]
  have e1 : max (-1074 + ((k.log2 : Nat) : Int) - 52) (-1074) = -1074 := by omega
  rw [e1]
  have d0 : ((-1074 : Int) - (-1074)).toNat = 0 := by decide
  dsimp only
  rw [d0,Nat.shiftLeft_zero]
  have := cut_exact k 0
  rw [Nat.pow_zero,Nat.mul_one] at this
  rw [this]
  unfold Ieee.Format.word
  rw [if_neg (by decide),Nat.min_eq_left]
  · omega
  omega
theorem x_below (a : Nat) (h0 : a ≠ 0) (h : a < 1020 * 4503599627370496 + 4503599627370496) : ∃ T m p,floatBits .mul .f64 a 4616189618054758400 = some T ∧ T ≠ 0 ∧ T < 9218868437227405312 ∧ Ieee.double.read T = .number false m p ∧ m < 9007199254740992 ∧ p ≤ -53 := by
  by_cases hs : a < 4503599627370496
  rotate_left
  · obtain ⟨m,g,hg,h1,h2⟩ : ∃ m g : Nat,a = g * 4503599627370496 + m ∧ 4503599627370496 ≤ m ∧ m < 9007199254740992 := ⟨4503599627370496 + a % 4503599627370496,a / 4503599627370496 - 1,by omega,by omega,by omega⟩
    exact ⟨_,m,-1074 + ((g + 2 : Nat) : Int),x_mul a m g h1 h2 (by omega) hg,by omega,by omega,read_norm m (g + 2) h1 h2 (by omega),h2,by omega⟩
  have hr : Ieee.double.read a = .number false a (-1074) := by
    have hmd : a % 9223372036854775808 = a := Nat.mod_eq_of_lt (by omega)
    rw [read_rr,hmd]
    have : a / 9223372036854775808 = 0 := by omega
    rw [this]
    unfold rr
    rw [if_pos hs]
    rfl
  have hm : floatBits .mul .f64 a 4616189618054758400 = some (Ieee.double.nearest false a (-1072)) := by
    show Ieee.double.mul a 4616189618054758400 = _
    unfold Ieee.Format.mul
    rw [hr,read_four]
    show some (Ieee.double.nearest false (a * 2 ^ 52) (-1074 + -50)) = _
    rw [nearest_shift a 52 _ (by omega) (by omega) (by decide)]
    rfl
  by_cases h4 : a * 4 < 4503599627370496
  · have e : Ieee.double.nearest false a (-1072) = a * 4 := by
      have := nearest_shift a 2 (-1074) (by omega) (by omega) (by decide)
      have e2 : (-1074 : Int) + ((2 : Nat) : Int) = -1072 := by decide
      rw [e2] at this
      rw [← this]
      exact x_sub _ (by omega) (by omega)
    refine ⟨a * 4,a * 4,-1074,by rw [hm,e],by omega,by omega,?_,by omega,by decide⟩
    have hmd : a * 4 % 9223372036854775808 = a * 4 := Nat.mod_eq_of_lt (by omega)
    rw [read_rr,hmd]
    have : a * 4 / 9223372036854775808 = 0 := by omega
    rw [this]
    unfold rr
    rw [if_pos h4]
    rfl
  obtain ⟨s,g,hsg,hlo,hhi⟩ : ∃ s g : Nat,s + g = 2 ∧ 4503599627370496 ≤ a * 2 ^ s ∧ a * 2 ^ s < 9007199254740992 := by
    by_cases h2 : a * 2 < 4503599627370496
    · exact ⟨2,0,rfl,by simp only [Nat.reducePow];omega,by simp only [Nat.reducePow];omega⟩
    exact ⟨1,1,rfl,by simp only [Nat.reducePow];omega,by simp only [Nat.reducePow];omega⟩
  have e : Ieee.double.nearest false a (-1072) = g * 4503599627370496 + a * 2 ^ s := by
    have := nearest_shift a s (-1074 + (g : Int)) (by omega) (by omega) (by omega)
    have e2 : (-1074 : Int) + (g : Int) + (s : Int) = -1072 := by omega
    rw [e2] at this
    rw [← this,nearest_norm _ g hlo hhi (by omega)]
  refine ⟨_,a * 2 ^ s,-1074 + g,by rw [hm,e],by omega,by omega,read_norm _ g hlo hhi (by omega),hhi,by omega⟩
theorem x_cancel {a b Z : Nat} (h : a * 2 ^ Z < b * 2 ^ Z) : a < b := Nat.lt_of_mul_lt_mul_right h
theorem x_less (q c a b : Nat) (h : q < c) : q * 2 ^ a < c * 2 ^ (a + b) := by
  rw [Nat.pow_add]
  have p1 := Nat.two_pow_pos a
  have p2 := Nat.two_pow_pos b
  generalize 2 ^ a = A at *
  generalize 2 ^ b = B at *
  calc q * A < c * A := Nat.mul_lt_mul_of_pos_right h p1
    _ ≤ c * (A * B) := Nat.mul_le_mul_left _ (Nat.le_mul_of_pos_right _ p2)
theorem x_four (q a : Nat) : q * 2 ^ (2 + a) = q * 4 * 2 ^ a := by
  rw [Nat.pow_add,← Nat.mul_assoc]
theorem bq_zero : bq 0 = 0 := by decide
theorem inf_word : infB 9218868437227405312 = true := by decide
theorem order_gt_ne (a b : Nat) (h : (FloatKind.f64.format.order a b == some .gt) = true) : (FloatKind.f64.format.order a b == some .eq) = false := by
  rw [eq_of_beq h]
  rfl
theorem far_q (a : Nat) (h : a < 18446744073709551616) (hf : farB a = true) (hi : infB a = false) : ∃ q,q < 4294967296 ∧ a = bq q := by
  by_cases h0 : a = 0
  · exact ⟨0,by decide,by rw [h0,bq_zero]⟩
  have hn := far_num a hf
  have hfr := far_ref a
  rw [hf] at hfr
  unfold beaconref06_Far.f at hfr
  rw [isInf1,Option.bind_some] at hfr
  have hi2 : (FloatKind.f64.format.order a 9218868437227405311 == some .gt) = false := hi
  rw [hi2,if_neg (by decide),if_neg (by omega)] at hfr
  have h1 : (FloatKind.f64.format.order a 0 == some .gt) = true := by
    refine Decidable.byContradiction fun h1 => ?_
    rw [if_neg h1] at hfr
    cases hfr
  rw [if_pos h1] at hfr
  have h2 : (FloatKind.f64.format.order a 4742290407621132288 == some .lt) = true := by
    refine Decidable.byContradiction fun h2 => ?_
    rw [if_neg h2] at hfr
    cases hfr
  rw [if_pos h2] at hfr
  have hneg : a < 9223372036854775808 := by
    rcases Nat.lt_or_ge a 9223372036854775808 with h3 | h3
    · exact h3
    rw [neg_not_gt a _ _ _ h3 h read_zero] at h1
    cases h1
  have hmod : a % 9223372036854775808 = a := Nat.mod_eq_of_lt hneg
  have hsg : (a / 9223372036854775808 % 2 == 1) = false := by
    have : a / 9223372036854775808 = 0 := by omega
    rw [this]
    rfl
  have hr : a < 9218868437227405312 := by
    rcases Nat.lt_or_ge a 9218868437227405312 with h3 | h3
    · exact h3
    exfalso
    by_cases h4 : a = 9218868437227405312
    · rw [h4,inf_word] at hi
      cases hi
    rw [read_rr,hmod,hsg] at hn
    unfold rr at hn
    rw [if_neg (by omega),if_neg (by omega),if_neg h4] at hn
    cases hn
  by_cases hlow : a < 1020 * 4503599627370496 + 4503599627370496
  · exfalso
    obtain ⟨T,m,p,e1,e2,e3,e4,e5,e6⟩ := x_below a h0 hlow
    rw [e1,Option.bind_some,x_small T m p e5 e6 e4,Option.bind_some,order_gt_ne _ _ (pos_gt_zero T e2 e3)] at hfr
    cases hfr
  obtain ⟨m,g,hg,h3,h4⟩ : ∃ m g : Nat,a = g * 4503599627370496 + m ∧ 4503599627370496 ≤ m ∧ m < 9007199254740992 := ⟨4503599627370496 + a % 4503599627370496,a / 4503599627370496 - 1,by omega,by omega,by omega⟩
  have hra := read_norm m g h3 h4
  obtain ⟨t,rfl⟩ : ∃ t,g = 1020 + t := ⟨g - 1020,by omega⟩
  rw [← bq_L] at h2
  obtain ⟨n,j,k1,k2,k3⟩ := val_bq 4294967296 (by decide)
  have hg2 : 1020 + t ≤ 1974 ∨ 1974 < 1020 + t := by omega
  have hread : ∃ i : Int,Ieee.double.read a = .number false m i ∧ i = -1074 + ((1020 + t : Nat) : Int) := by
    refine ⟨-1074 + ((1020 + t : Nat) : Int),?_,rfl⟩
    rw [read_rr,hmod,hsg]
    unfold rr
    rw [if_neg (by omega),if_pos hr]
    have c1 : 4503599627370496 + a % 4503599627370496 = m := by omega
    have c2 : a / 4503599627370496 - 1 = 1020 + t := by omega
    rw [c1,c2]
  obtain ⟨i,hrd,hiv⟩ := hread
  rw [order_val a _ m n i j hrd k1 (by omega) k2,k3] at h2
  have e1 : (i + 1074).toNat = 1020 + t := by omega
  rw [e1] at h2
  have hlt : m * 2 ^ (1020 + t) < 4294967296 * 2 ^ 1072 := by
    rcases Nat.lt_trichotomy (m * 2 ^ (1020 + t)) (4294967296 * 2 ^ 1072) with h7 | h7 | h7
    · exact h7
    · rw [Nat.compare_eq_eq.2 h7] at h2;cases h2
    rw [Nat.compare_eq_gt.2 h7] at h2;cases h2
  have hhi : (1020 + t) + 20 ≤ 1072 := high_place m (1020 + t) 4294967296 1072 h3 (Nat.le_refl _) (Nat.le_of_lt hlt)
  have ht : t ≤ 32 := by omega
  rw [x_mul a m (1020 + t) h3 h4 (by omega) hg,Option.bind_some] at hfr
  have hT := read_norm m (1020 + t + 2) h3 h4 (by omega)
  have hp : (-1074 : Int) + ((1020 + t + 2 : Nat) : Int) = -52 + t := by omega
  rw [x_trunc _ m t _ h3 h4 ht hp hT,Option.bind_some] at hfr
  have hd20 : 1048576 ≤ 2 ^ (52 - t) := by
    have : (2 : Nat) ^ 20 ≤ 2 ^ (52 - t) := Nat.pow_le_pow_right (by decide) (by omega)
    exact this
  obtain ⟨low,hl⟩ : ∃ low,m / 2 ^ (52 - t) = low := ⟨_,rfl⟩
  have hlow2 : low ≤ 8589934592 := by
    rw [← hl]
    calc m / 2 ^ (52 - t) ≤ m / 1048576 := Nat.div_le_div_left hd20 (by decide)
      _ ≤ 8589934592 := by omega
  rw [hl] at hfr
  have hm := x_exact _ m t low _ ht hp hT hlow2 (Option.some.inj hfr)
  refine ⟨low,?_,x_bq a m t low h3 h4 ht hlow2 hg hm⟩
  rw [hm,Nat.mul_assoc,← Nat.pow_add] at hlt
  have e9 : 52 - t + (1020 + t) = 1072 := by omega
  rw [e9] at hlt
  exact x_cancel (a := low) (b := 4294967296) (Z := 1072) hlt
theorem bq_word (q : Nat) (hq : q < 4294967296) : bq q < 9218868437227405312 ∧ (q ≠ 0 → ∃ m t,t ≤ 31 ∧ 4503599627370496 ≤ m ∧ m < 9007199254740992 ∧ m = q * 2 ^ (52 - t) ∧ bq q = (1020 + t) * 4503599627370496 + m) := by
  by_cases h0 : q = 0
  · rw [h0,bq_zero]
    exact ⟨by decide,fun h => absurd rfl h⟩
  have hg : q.log2 ≤ 31 := by
    have := (Nat.log2_lt h0).2 (show q < 2 ^ 32 from hq)
    omega
  have hs := sig_bounds q q.log2 (q * 2 ^ (52 - q.log2)) (by omega) (Nat.log2_self_le h0) Nat.lt_log2_self rfl
  have hb := bits_bq q q.log2 _ h0 rfl (by omega) rfl hs.2
  refine ⟨?_,fun _ => ⟨_,q.log2,hg,hs.1,hs.2,rfl,hb⟩⟩
  rw [hb]
  generalize q * 2 ^ (52 - q.log2) = m at hs
  generalize q.log2 = g at hg
  omega
theorem bq_inf (q : Nat) (hq : q < 4294967296) : infB (bq q) = false := by
  obtain ⟨m,i,h1,h2,h3⟩ := val_bq q (by omega)
  unfold infB
  rw [order_val _ _ m _ i 971 h1 read_max h2 (by decide),h3]
  have e : ((971 : Int) + 1074).toNat = 1072 + 973 := by decide
  have h4 : q * 2 ^ 1072 < 9007199254740991 * 2 ^ ((971 : Int) + 1074).toNat := by
    rw [e]
    exact x_less q 9007199254740991 1072 973 (by omega)
  rw [Nat.compare_eq_lt.2 h4]
  rfl
theorem far_bq (q : Nat) (hq : q < 4294967296) : farB (bq q) = true := by
  by_cases h0 : q = 0
  · rw [h0,bq_zero]
    exact far_zero
  obtain ⟨m,t,ht,h1,h2,hm,hb⟩ := (bq_word q hq).2 h0
  have hw := (bq_word q hq).1
  have hne : bq q ≠ 0 := by omega
  have hfr := far_ref (bq q)
  unfold beaconref06_Far.f at hfr
  rw [isInf1,Option.bind_some] at hfr
  have hi2 : (FloatKind.f64.format.order (bq q) 9218868437227405311 == some .gt) = false := bq_inf q hq
  have hlt : (FloatKind.f64.format.order (bq q) 4742290407621132288 == some .lt) = true := by
    rw [← bq_L,order_bq q 4294967296 (by omega) (by decide),Nat.compare_eq_lt.2 hq]
    rfl
  rw [hi2,if_neg (by decide),if_neg (by omega),if_pos (pos_gt_zero _ hne hw),if_pos hlt,x_mul (bq q) m (1020 + t) h1 h2 (by omega) hb,Option.bind_some] at hfr
  have hT := read_norm m (1020 + t + 2) h1 h2 (by omega)
  have hp : (-1074 : Int) + ((1020 + t + 2 : Nat) : Int) = -52 + t := by omega
  have hdiv : m / 2 ^ (52 - t) = q := by rw [hm];exact Nat.mul_div_cancel _ (Nat.two_pow_pos _)
  rw [x_trunc _ m t _ h1 h2 (by omega) hp hT,Option.bind_some,hdiv] at hfr
  obtain ⟨n,j,k1,k2,k3⟩ := val_bq (q * 4) (by omega)
  rw [order_val _ _ m n _ j hT k1 (by omega) k2,k3] at hfr
  have e1 : ((-1074 : Int) + ((1020 + t + 2 : Nat) : Int) + 1074).toNat = 1022 + t := by omega
  have e2 : m * 2 ^ ((-1074 : Int) + ((1020 + t + 2 : Nat) : Int) + 1074).toNat = q * 4 * 2 ^ 1072 := by
    rw [e1,hm,Nat.mul_assoc,← Nat.pow_add]
    have e3 : 52 - t + (1022 + t) = 2 + 1072 := by omega
    rw [e3]
    exact x_four q 1072
  rw [e2,Nat.compare_eq_eq.2 rfl] at hfr
  exact (Option.some.inj hfr).symm
theorem order_lt_not (a b : Nat) (h : (FloatKind.f64.format.order a b == some .lt) = true) : (FloatKind.f64.format.order b a == some .lt) = false := by
  rw [order_read] at h ⊢
  cases hx : Ieee.double.read a <;> cases hy : Ieee.double.read b <;> rw [hx,hy] at h <;> try rfl
  · rename_i s m i t n j
    unfold Ieee.Datum.order at h ⊢
    simp only at h ⊢
    rw [show min j i = min i j from by omega]
    generalize Ieee.signed s m _ = x at *
    generalize Ieee.signed t n _ = y at *
    have h2 : x < y := Int.compare_eq_lt.1 (Option.some.inj (eq_of_beq h))
    rw [Int.compare_eq_gt.2 h2]
    rfl
  · rename_i s m i t
    cases t
    · rfl
    cases h
  · rename_i s t n j
    cases s
    · cases h
    rfl
  rename_i s t
  cases s <;> cases t <;> first | rfl | cases h
theorem order_eq_not (a b : Nat) (h : (FloatKind.f64.format.order a b == some .eq) = true) : (FloatKind.f64.format.order b a == some .lt) = false := by
  rw [order_eq_symm] at h
  rw [eq_of_beq h]
  rfl
end Go.Proofs.Ytjcnmpkaiopihaa.PA
