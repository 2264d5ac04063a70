/- The float words for distances: quarters below a limit M, and one bit pattern for what is too far. Conditions: limits up to 2^32 quarters, weights up to 2^22. -/
import Derived.Test.YtmdkcecbklgihaaCcHd
import Derived.Test.YtmdkcecbklgihaaCcFq
namespace Go.Proofs.Ytmdkcecbklgihaa.PA
open Go.RowKit Go.Proofs.YtmdkcecbklgihaaW.PrintWords
set_option linter.unusedVariables false
set_option linter.unusedSimpArgs false
def encM (M q : Nat) : Nat := if q < M then bq q else 9218868437227405312
theorem read_inf : Ieee.double.read 9218868437227405312 = .infinity false := by decide
theorem order_fin_inf (a : Nat) (ha : a < 9007199254740992) : FloatKind.f64.format.order (bq a) 9218868437227405312 = some .lt := by
  obtain ⟨m,i,h1,h2,h3,h4⟩ := read_bq a ha
  show Ieee.double.order (bq a) 9218868437227405312 = _
  unfold Ieee.Format.order
  rw [h1,read_inf]
  rfl
theorem order_inf_fin (a : Nat) (ha : a < 9007199254740992) : FloatKind.f64.format.order 9218868437227405312 (bq a) = some .gt := by
  obtain ⟨m,i,h1,h2,h3,h4⟩ := read_bq a ha
  show Ieee.double.order 9218868437227405312 (bq a) = _
  unfold Ieee.Format.order
  rw [h1,read_inf]
  rfl
theorem order_inf_inf : FloatKind.f64.format.order 9218868437227405312 9218868437227405312 = some .eq := by decide
theorem add_fin_inf (a : Nat) (ha : a < 9007199254740992) : FloatKind.f64.format.add (bq a) 9218868437227405312 = some 9218868437227405312 := by
  obtain ⟨m,i,h1,h2,h3,h4⟩ := read_bq a ha
  show Ieee.double.add (bq a) 9218868437227405312 = _
  unfold Ieee.Format.add
  rw [h1,read_inf]
  show some (Ieee.double.write (.infinity false)) = _
  decide
theorem add_inf_fin (a : Nat) (ha : a < 9007199254740992) : FloatKind.f64.format.add 9218868437227405312 (bq a) = some 9218868437227405312 := by
  obtain ⟨m,i,h1,h2,h3,h4⟩ := read_bq a ha
  show Ieee.double.add 9218868437227405312 (bq a) = _
  unfold Ieee.Format.add
  rw [h1,read_inf]
  show some (Ieee.double.write (.infinity false)) = _
  decide
theorem bq_zero : bq 0 = 0 := by decide
theorem encM_lt (M q : Nat) (h : q < M) : encM M q = bq q := if_pos h
theorem encM_top (M : Nat) : encM M M = 9218868437227405312 := if_neg (Nat.lt_irrefl _)
theorem order_encM (M a b : Nat) (hM : M ≤ 4294967296) (ha : a ≤ M) (hb : b ≤ M) : FloatKind.f64.format.order (encM M a) (encM M b) = some (compare a b) := by
  rcases Nat.lt_or_ge a M with h1 | h1
  · rcases Nat.lt_or_ge b M with h2 | h2
    · rw [encM_lt M a h1,encM_lt M b h2]
      exact order_bq a b (by omega) (by omega)
    obtain rfl : b = M := by omega
    rw [encM_lt b a h1,encM_top,order_fin_inf a (by omega),Nat.compare_eq_lt.2 h1]
  obtain rfl : a = M := by omega
  rcases Nat.lt_or_ge b a with h2 | h2
  · rw [encM_lt a b h2,encM_top,order_inf_fin b (by omega),Nat.compare_eq_gt.2 h2]
  obtain rfl : b = a := by omega
  rw [encM_top,order_inf_inf,Nat.compare_eq_eq.2 rfl]
theorem nan_bq (a : Nat) (ha : a < 9007199254740992) : math_IsNaN.f (bq a) = some false := by
  unfold math_IsNaN.f
  rw [order_bq a a ha ha,Nat.compare_eq_eq.2 rfl]
  rfl
theorem nan_inf : math_IsNaN.f 9218868437227405312 = some false := by
  unfold math_IsNaN.f
  rw [order_inf_inf]
  rfl
theorem add_encM (M w d : Nat) (hM : M ≤ 4294967296) (hw : 1 ≤ w) (hw2 : w ≤ 4194304) (hd : d ≤ M) : metric_Add.f (bq w) (encM M d) (bq M) = some (encM M (min M (w + d))) := by
  unfold metric_Add.f
  rcases Nat.lt_or_ge d M with h1 | h1
  · rw [encM_lt M d h1]
    have e1 : floatBits .add .f64 (bq w) (bq d) = some (bq (w + d)) := add_bq w d (by omega)
    rw [e1,Option.bind_some,nan_bq _ (by omega),Option.bind_some,if_neg (by decide),order_bq _ _ (by omega) (by omega)]
    rcases Nat.lt_or_ge (w + d) M with h2 | h2
    · rw [Nat.compare_eq_lt.2 h2,if_pos (by decide)]
      have e2 : FloatKind.f64.format.order (bq (w + d)) 0 = some .gt := by
        rw [← bq_zero,order_bq _ _ (by omega) (by omega),Nat.compare_eq_gt.2 (by omega)]
      rw [e2,if_neg (by decide),Nat.min_eq_right (by omega),encM_lt M _ h2]
    have e3 : (some (compare (w + d) M) == some Ordering.lt) = false := by
      rcases Nat.lt_or_ge M (w + d) with h3 | h3
      · rw [Nat.compare_eq_gt.2 h3]
        rfl
      rw [Nat.compare_eq_eq.2 (by omega)]
      rfl
    rw [e3,if_neg (by decide),Nat.min_eq_left h2,encM_top]
    rfl
  obtain rfl : d = M := by omega
  rw [encM_top]
  have e1 : floatBits .add .f64 (bq w) 9218868437227405312 = some 9218868437227405312 := add_fin_inf w (by omega)
  rw [e1,Option.bind_some,nan_inf,Option.bind_some,if_neg (by decide),order_inf_fin d (by omega),if_neg (by decide),Nat.min_eq_left (by omega),encM_top]
  rfl
theorem FL_encM (M W : Nat) (h0 : 0 < M) (hM : M ≤ 4294967296) (hW : W ≤ 4194304) : FL (encM M) bq M (bq M) W :=
  ⟨h0,by rw [encM_lt M 0 h0,bq_zero],encM_top M,fun a b ha hb => order_encM M a b hM ha hb,fun w d h1 h2 h3 => add_encM M w d hM h1 (by omega) h3⟩
end Go.Proofs.Ytmdkcecbklgihaa.PA
