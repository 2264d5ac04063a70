/- Names, sums and scores in plain terms: the program's and the document's functions tell the same. Conditions: sums are of names of 32 bytes at most. -/
import Derived.Test.YtlpmblcdafdfdaaYpPAx2
import Derived.Test.YtlpmblcdafdfdaaYpPAx3
import Derived.Test.YtlpmblcdafdfdaaYpPAx6
import Derived.Test.YtlpmblcdafdfdaaYpPAx0
import Derived.Test.YtlpmblcdafdfdaaYyPAx7
namespace Go.Proofs.Ytlpmblcdafdfdaa.PA
open Go.RowKit Go.Proofs.YtlpmblcdafdfdaaW.PrintWords Go.Proofs.YtlpmblcdafdfdaaW.PrintLast Go.Proofs.YtlpmblcdafdfdaaW.PrintMore
set_option linter.unusedVariables false
set_option linter.unusedSimpArgs false
theorem w64 {x : Int} (h0 : 0 ≤ x) (h : x ≤ 9223372036854775807) : wrap64 x = x := by
  unfold wrap64
  omega
def withinB (c : Int) : Bool := c == 45 || (decide (97 ≤ c) && decide (c ≤ 122)) || (decide (48 ≤ c) && decide (c ≤ 57))
def allW (s : ByteArray) : Nat → Nat → Bool
  | 0,_ => true
  | n + 1,i => withinB (bt s i) && allW s n (i + 1)
def nameOk (s : ByteArray) : Bool := decide (1 ≤ s.size) && decide (s.size ≤ 32) && decide (97 ≤ bt s 0) && decide (bt s 0 ≤ 122) && (bt s ((s.size : Int) - 1) != 45) && allW s s.size 0
def nameV (s : ByteArray) : Int := if nameOk s = true then 0 else 21
theorem within_f (c : Int) : ident_within.f c = some (withinB c) := by
  unfold ident_within.f withinB
  by_cases h1 : c = 45
  · simp [h1]
  · by_cases h2 : c ≥ 97 <;> by_cases h3 : c ≤ 122 <;> by_cases h4 : c ≥ 48 <;> simp [h1,h2,h3,h4] <;> omega
theorem name_l0 (s : ByteArray) (hs : s.size ≤ 32) : ∀ (n i k : Nat),i + n = s.size → n < k → ident_CheckName.l0 k s (s.size : Int) (i : Int) = some (if allW s n i = true then 0 else 21)
  | 0,i,k + 1,h,_ => by
    unfold ident_CheckName.l0
    rw [if_neg (by omega)]
    simp [allW]
  | n + 1,i,k + 1,h,hk => by
    unfold ident_CheckName.l0
    rw [if_pos (by omega),if_pos (by omega),if_pos (by omega),within_f,Option.bind_some]
    by_cases hw : withinB (bt s i) = true
    · rw [if_pos hw,w64 (by omega) (by omega)]
      have := name_l0 s hs n (i + 1) k (by omega) (by omega)
      rw [show ((i : Int) + 1) = ((i + 1 : Nat) : Int) by omega,this]
      simp [allW,hw]
    · rw [if_neg hw]
      simp [allW,hw]
theorem name_tells (s : ByteArray) (k : Nat) (hk : 40 ≤ k) : ident_CheckName.f k s = some (nameV s) := by
  obtain ⟨k,rfl⟩ : ∃ m,k = m + 1 := ⟨k - 1,by omega⟩
  have hbad : ident_CheckName.j0 (k + 1) s (s.size : Int) true = some 21 := by simp [ident_CheckName.j0]
  unfold ident_CheckName.f nameV nameOk
  by_cases h1 : (s.size : Int) < 1
  · rw [if_pos h1,hbad,if_neg (by simp;omega)]
  · rw [if_neg h1]
    by_cases h2 : (s.size : Int) > 32
    · rw [if_pos h2,hbad,if_neg (by simp;omega)]
    · rw [if_neg h2,if_pos (by omega)]
      by_cases h3 : bt s 0 < 97
      · rw [if_pos h3,hbad,if_neg (by simp;omega)]
      · rw [if_neg h3]
        by_cases h4 : bt s 0 > 122
        · rw [if_pos h4,hbad,if_neg (by simp;omega)]
        · rw [if_neg h4,w64 (by omega) (by omega),if_pos (by omega),if_pos (by omega)]
          by_cases h5 : bt s ((s.size : Int) - 1) = 45
          · rw [show (bt s ((s.size : Int) - 1) == 45) = true by simp [h5],hbad,if_neg (by simp [h5])]
          · rw [show (bt s ((s.size : Int) - 1) == 45) = false by simp [h5]]
            rw [show ident_CheckName.j0 (k + 1) s (s.size : Int) false = ident_CheckName.l0 k s (s.size : Int) 0 by simp [ident_CheckName.j0]]
            have := name_l0 s (by omega) s.size 0 k (by omega) (by omega)
            rw [show ((0 : Nat) : Int) = 0 from rfl] at this
            rw [this]
            have e1 : decide (1 ≤ s.size) = true := by simp;omega
            have e2 : decide (s.size ≤ 32) = true := by simp;omega
            have e3 : decide (97 ≤ bt s 0) = true := by simp;omega
            have e4 : decide (bt s 0 ≤ 122) = true := by simp;omega
            have e5 : (bt s ((s.size : Int) - 1) != 45) = true := by simp [h5]
            simp only [e1,e2,e3,e4,e5,Bool.true_and]
theorem letter_f (c : Int) : beaconref02_letter.f c = some (decide (97 ≤ c) && decide (c ≤ 122)) := by
  unfold beaconref02_letter.f
  by_cases h2 : c ≥ 97 <;> by_cases h3 : c ≤ 122 <;> simp [h2,h3] <;> omega
theorem digit_f (c : Int) : beaconref02_digit.f c = some (decide (48 ≤ c) && decide (c ≤ 57)) := by
  unfold beaconref02_digit.f
  by_cases h2 : c ≥ 48 <;> by_cases h3 : c ≤ 57 <;> simp [h2,h3] <;> omega
theorem rname_l0 (s : ByteArray) (hs : s.size ≤ 32) : ∀ (n i k : Nat),i + n = s.size → 2 * n < k → beaconref02_CheckName.l0 k s (s.size : Int) (i : Int) = some (if allW s n i = true then 0 else 21)
  | 0,i,k + 1,h,_ => by
    unfold beaconref02_CheckName.l0
    rw [if_neg (by omega)]
    simp [allW]
  | n + 1,i,k + 2,h,hk => by
    unfold beaconref02_CheckName.l0
    rw [if_pos (by omega),if_pos (by omega),if_pos (by omega),letter_f,Option.bind_some,digit_f,Option.bind_some]
    have hrec : beaconref02_CheckName.j2 (k + 1) s (s.size : Int) (i : Int) false = some (if allW s n (i + 1) = true then 0 else 21) := by
      unfold beaconref02_CheckName.j2
      rw [if_neg (by simp),w64 (by omega) (by omega)]
      have := rname_l0 s hs n (i + 1) k (by omega) (by omega)
      rw [show ((i : Int) + 1) = ((i + 1 : Nat) : Int) by omega,this]
    by_cases h1 : (decide (97 ≤ bt s i) && decide (bt s i ≤ 122)) = true
    · rw [if_pos h1,hrec]
      have : withinB (bt s i) = true := by unfold withinB;rw [h1];simp
      simp [allW,this]
    · rw [if_neg h1]
      by_cases h2 : (decide (48 ≤ bt s i) && decide (bt s i ≤ 57)) = true
      · rw [if_pos h2,hrec]
        have : withinB (bt s i) = true := by unfold withinB;rw [h2];simp
        simp [allW,this]
      · rw [if_neg h2]
        by_cases h3 : bt s i = 45
        · rw [show (bt s i != 45) = false by simp [h3],hrec]
          have : withinB (bt s i) = true := by unfold withinB;simp [h3]
          simp [allW,this]
        · rw [show (bt s i != 45) = true by simp [h3]]
          have : withinB (bt s i) = false := by
            unfold withinB
            rw [Bool.not_eq_true] at h1 h2
            rw [h1,h2]
            simp [h3]
          simp [allW,this,beaconref02_CheckName.j2]
theorem rname_tells (s : ByteArray) (k : Nat) (hk : 80 ≤ k) : beaconref02_CheckName.f k s = some (nameV s) := by
  obtain ⟨k,rfl⟩ : ∃ m,k = m + 1 := ⟨k - 1,by omega⟩
  have hbad : beaconref02_CheckName.j0 (k + 1) s (s.size : Int) true = some 21 := by simp [beaconref02_CheckName.j0]
  unfold beaconref02_CheckName.f nameV nameOk
  by_cases h1 : (s.size : Int) < 1
  · rw [if_pos h1,hbad,if_neg (by simp;omega)]
  · rw [if_neg h1]
    by_cases h2 : (s.size : Int) > 32
    · rw [if_pos h2,hbad,if_neg (by simp;omega)]
    · rw [if_neg h2,if_pos (by omega),letter_f,Option.bind_some]
      by_cases h3 : (decide (97 ≤ bt s 0) && decide (bt s 0 ≤ 122)) = true
      · rw [if_pos h3,w64 (by omega) (by omega),if_pos (by omega),if_pos (by omega)]
        have h3' : 97 ≤ bt s 0 ∧ bt s 0 ≤ 122 := by simpa using h3
        by_cases h5 : bt s ((s.size : Int) - 1) = 45
        · rw [show (bt s ((s.size : Int) - 1) == 45) = true by simp [h5],hbad,if_neg (by simp [h5])]
        · rw [show (bt s ((s.size : Int) - 1) == 45) = false by simp [h5]]
          rw [show beaconref02_CheckName.j0 (k + 1) s (s.size : Int) false = beaconref02_CheckName.l0 k s (s.size : Int) 0 by simp [beaconref02_CheckName.j0]]
          have := rname_l0 s (by omega) s.size 0 k (by omega) (by omega)
          rw [show ((0 : Nat) : Int) = 0 from rfl] at this
          rw [this]
          have e1 : decide (1 ≤ s.size) = true := by simp;omega
          have e2 : decide (s.size ≤ 32) = true := by simp;omega
          have e3 : decide (97 ≤ bt s 0) = true := by simp;omega
          have e4 : decide (bt s 0 ≤ 122) = true := by simp;omega
          have e5 : (bt s ((s.size : Int) - 1) != 45) = true := by simp [h5]
          simp only [e1,e2,e3,e4,e5,Bool.true_and]
      · rw [if_neg h3,hbad,if_neg]
        intro h
        simp at h h3
        omega
def badId (x : Int) : Bool := decide (x < 1) || decide (2147483647 < x)
def idV (x : Int) : Int := if badId x = true then 20 else 0
theorem id_f (x : Int) : ident_CheckId.f x = some (idV x) := by
  unfold ident_CheckId.f idV badId
  by_cases h1 : x < 1 <;> by_cases h2 : x > 2147483647 <;> simp [h1,h2] <;> omega
end Go.Proofs.Ytlpmblcdafdfdaa.PA
