/- Quarters and infinity: the check for infinity, raw sums. Conditions: at most 2^32 quarters. -/
import Derived.Test.YtmdkcecbklgihaaCcFm
import Derived.Test.YtmdkcecbklgihaaCcFc
namespace Go.Proofs.Ytmdkcecbklgihaa.PA
open Go.RowKit Go.Proofs.YtmdkcecbklgihaaW.PrintWords
set_option linter.unusedVariables false
set_option linter.unusedSimpArgs false
theorem bq_number (a : Nat) (ha : a < 9007199254740992) : ∃ (m : Nat) (i : Int),Ieee.double.read (bq a) = .number false m i ∧ m < 9007199254740992 ∧ i ≤ 971 := by
  obtain ⟨m,i,h1,h2,h3,h4⟩ := read_bq a ha
  have h5 := read_rr (bq a)
  rw [h1] at h5
  generalize (bq a / 9223372036854775808 % 2 == 1) = s at h5
  generalize bq a % 9223372036854775808 = r at h5
  by_cases hr : r < 9218868437227405312
  · obtain ⟨m',i',hm,hm2,hi0,hi1,-⟩ := rr_number r hr
    rw [hm s] at h5
    injection h5 with e1 e2 e3
    exact ⟨m,i,h1,by omega,by omega⟩
  by_cases h6 : r = 9218868437227405312
  · have hrr : rr s r = .infinity s := by simp [rr,h6]
    rw [hrr] at h5
    cases h5
  have hrr : rr s r = .nan s (r - 9218868437227405312) := by
    unfold rr
    rw [if_neg (by omega),if_neg hr,if_neg h6]
  rw [hrr] at h5
  cases h5
theorem isInf_one (x : Nat) : math_IsInf.f x 1 = some (FloatKind.f64.format.order x 9218868437227405311 == some .gt) := by
  unfold math_IsInf.f
  rw [if_neg (by decide),if_neg (by decide)]
theorem isInf_enc (M a : Nat) (hM : M ≤ 4294967296) (h : a ≤ M) : math_IsInf.f (encM M a) 1 = some (decide (M ≤ a)) := by
  rw [isInf_one]
  congr 1
  by_cases h1 : a < M
  · rw [encM_lt M a h1,decide_eq_false (by omega)]
    obtain ⟨m,i,k1,k2,k3⟩ := bq_number a (by omega)
    rw [order_read,k1,read_max]
    exact (number_le_max false m i k2 k3).1
  have h2 : a = M := by omega
  rw [h2,encM_top,decide_eq_true (Nat.le_refl M),order_read,read_inf,read_max]
  rfl
theorem sum_bits (w x : Nat) (h : w + x < 9007199254740992) : floatBits .add .f64 (bq w) (bq x) = some (bq (w + x)) := add_bq w x h
theorem eq_bits (a b : Nat) (ha : a < 9007199254740992) (hb : b < 9007199254740992) : (FloatKind.f64.format.order (bq a) (bq b) == some .eq) = decide (a = b) := by
  rw [order_bq a b ha hb,Bool.eq_iff_iff]
  simp only [beq_iff_eq,Option.some.injEq,Nat.compare_eq_eq,decide_eq_true_eq]
end Go.Proofs.Ytmdkcecbklgihaa.PA
