/- Names, sums and scores in plain terms: the program's and the document's functions tell the same. Conditions: sums are of names of 32 bytes at most. -/
import Derived.Test.YtlpmblcdafdfdaaAcPAx2
import Derived.Test.YtlpmblcdafdfdaaAcPAx3
import Derived.Test.YtlpmblcdafdfdaaAcPAx0
namespace Go.Proofs.Ytlpmblcdafdfdaa.PA
open Go.RowKit Go.Proofs.YtlpmblcdafdfdaaW.PrintWords Go.Proofs.YtlpmblcdafdfdaaW.PrintLast Go.Proofs.YtlpmblcdafdfdaaW.PrintMore
set_option linter.unusedVariables false
set_option linter.unusedSimpArgs false
theorem w64 {x : Int} (h0 : 0 ≤ x) (h : x ≤ 9223372036854775807) : wrap64 x = x := by
  unfold wrap64
  omega
def withinB (c : Int) : Bool := c == 45 || (decide (97 ≤ c) && decide (c ≤ 122)) || (decide (48 ≤ c) && decide (c ≤ 57))
def allW (s : ByteArray) : Nat → Nat → Bool
  | 0,_ => true
  | n + 1,i => withinB (bt s i) && allW s n (i + 1)
def nameOk (s : ByteArray) : Bool := decide (1 ≤ s.size) && decide (s.size ≤ 32) && decide (97 ≤ bt s 0) && decide (bt s 0 ≤ 122) && (bt s ((s.size : Int) - 1) != 45) && allW s s.size 0
def nameV (s : ByteArray) : Int := if nameOk s = true then 0 else 21
theorem within_f (c : Int) : ident_within.f c = some (withinB c) := by
  unfold ident_within.f withinB
  by_cases h1 : c = 45
  · simp [h1]
  · by_cases h2 : c ≥ 97 <;> by_cases h3 : c ≤ 122 <;> by_cases h4 : c ≥ 48 <;> simp [h1,h2,h3,h4] <;> omega
theorem name_l0 (s : ByteArray) (hs : s.size ≤ 32) : ∀ (n i k : Nat),i + n = s.size → n < k → ident_CheckName.l0 k s (s.size : Int) (i : Int) = some (if allW s n i = true then 0 else 21)
  | 0,i,k + 1,h,_ => by
    unfold ident_CheckName.l0
    rw [if_neg (by omega)]
    simp [allW]
  | n + 1,i,k + 1,h,hk => by
    unfold ident_CheckName.l0
    rw [if_pos (by omega),if_pos (by omega),if_pos (by omega),within_f,Option.bind_some]
    by_cases hw : withinB (bt s i) = true
    · rw [if_pos hw,w64 (by omega) (by omega)]
      have := name_l0 s hs n (i + 1) k (by omega) (by omega)
      rw [show ((i : Int) + 1) = ((i + 1 : Nat) : Int) by omega,this]
      simp [allW,hw]
    · rw [if_neg hw]
      simp [allW,hw]
theorem name_tells (s : ByteArray) (k : Nat) (hk : 40 ≤ k) : ident_CheckName.f k s = some (nameV s) := by
  obtain ⟨k,rfl⟩ : ∃ m,k = m + 1 := ⟨k - 1,by omega⟩
  have hbad : ident_CheckName.j0 (k + 1) s (s.size : Int) true = some 21 := by simp [ident_CheckName.j0]
  unfold ident_CheckName.f nameV nameOk
  by_cases h1 : (s.size : Int) < 1
  · rw [if_pos h1,hbad,if_neg (by simp;omega)]
  · rw [if_neg h1]
    by_cases h2 : (s.size : Int) > 32
    · rw [if_pos h2,hbad,if_neg (by simp;omega)]
    · rw [if_neg h2,if_pos (by omega)]
      by_cases h3 : bt s 0 < 97
      · rw [if_pos h3,hbad,if_neg (by simp;omega)]
      · rw [if_neg h3]
        by_cases h4 : bt s 0 > 122
        · rw [if_pos h4,hbad,if_neg (by simp;omega)]
        · rw [if_neg h4,w64 (by omega) (by omega),if_pos (by omega),if_pos (by omega)]
          by_cases h5 : bt s ((s.size : Int) - 1) = 45
          · rw [show (bt s ((s.size : Int) - 1) == 45) = true by simp [h5],hbad,if_neg (by simp [h5])]
          · rw [show (bt s ((s.size : Int) - 1) == 45) = false by simp [h5]]
            rw [show ident_CheckName.j0 (k + 1) s (s.size : Int) false = ident_CheckName.l0 k s (s.size : Int) 0 by simp [ident_CheckName.j0]]
            have := name_l0 s (by omega) s.size 0 k (by omega) (by omega)
            rw [show ((0 : Nat) : Int) = 0 from rfl] at this
            rw [this]
            have e1 : decide (1 ≤ s.size) = true := by simp;omega
            have e2 : decide (s.size ≤ 32) = true := by simp;omega
            have e3 : decide (97 ≤ bt s 0) = true := by simp;omega
            have e4 : decide (bt s 0 ≤ 122) = true := by simp;omega
            have e5 : (bt s ((s.size : Int) - 1) != 45) = true := by simp [h5]
            simp only [e1,e2,e3,e4,e5,Bool.true_and]
theorem nameV_ok {s : ByteArray} (h : nameV s = 0) : nameOk s = true := by
  unfold nameV at h
  split at h
  · assumption
  · exact absurd h (by decide)
theorem nameOk_size {s : ByteArray} (h : nameOk s = true) : 1 ≤ s.size ∧ s.size ≤ 32 := by
  unfold nameOk at h
  simp at h
  omega
def sumN (s : ByteArray) : Nat → Nat → Int → Int
  | 0,_,h => h
  | n + 1,i,h => sumN s n (i + 1) (IntKind.u64.wrap ((Go.bits .xor .u64 h (IntKind.u64.wrap (bt s i))) * 1099511628211))
def sumV (s : ByteArray) : Int := sumN s s.size 0 14695981039346656037
theorem sum_l0 (s : ByteArray) (hs : s.size ≤ 32) : ∀ (n i k : Nat) (h : Int),i + n = s.size → n < k → ident_Sum.l0 k s h (s.size : Int) (i : Int) = some (sumN s n i h)
  | 0,i,k + 1,h,e,_ => by
    unfold ident_Sum.l0
    rw [if_neg (by omega)]
    rfl
  | n + 1,i,k + 1,h,e,hk => by
    unfold ident_Sum.l0
    rw [if_pos (by omega),if_pos (by omega),if_pos (by omega),w64 (by omega) (by omega)]
    rw [show ((i : Int) + 1) = ((i + 1 : Nat) : Int) by omega,sum_l0 s hs n (i + 1) k _ (by omega) (by omega)]
    rfl
theorem sum_tells (s : ByteArray) (hs : s.size ≤ 32) (k : Nat) (hk : 40 ≤ k) : ident_Sum.f k s = some (sumV s) := sum_l0 s hs s.size 0 k _ (by omega) (by omega)
def mixV (a : Int) : Int := (ident_Mix.f a).getD 0
theorem mix_f (a : Int) : ident_Mix.f a = some (mixV a) := rfl
def scV (x s : Int) : Int := mixV (Go.bits .xor .u64 s (mixV (IntKind.u64.wrap x)))
theorem score_f (x s : Int) : ident_score.f x s = some (scV x s) := by
  unfold ident_score.f
  rw [mix_f,Option.bind_some,mix_f,Option.bind_some]
  rfl
def badId (x : Int) : Bool := decide (x < 1) || decide (2147483647 < x)
def idV (x : Int) : Int := if badId x = true then 20 else 0
theorem id_f (x : Int) : ident_CheckId.f x = some (idV x) := by
  unfold ident_CheckId.f idV badId
  by_cases h1 : x < 1 <;> by_cases h2 : x > 2147483647 <;> simp [h1,h2] <;> omega
def idsV (l : List Int) : Int := if l.any badId = true then 20 else if l.Nodup then 0 else 72
end Go.Proofs.Ytlpmblcdafdfdaa.PA
