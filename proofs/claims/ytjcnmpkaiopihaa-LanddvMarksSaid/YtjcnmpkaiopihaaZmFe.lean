/- Weights, limits and distances: the program and the document tell the same of every float. Condition: the word is below 2^64. -/
import Derived.Test.YtjcnmpkaiopihaaZmFc
import Derived.Test.YtjcnmpkaiopihaaZmPAx20
import Derived.Test.YtjcnmpkaiopihaaZmPAx26
namespace Go.Proofs.Ytjcnmpkaiopihaa.PA
open Go.RowKit Go.Proofs.YtjcnmpkaiopihaaW.PrintWords
set_option linter.unusedVariables false
set_option linter.unusedSimpArgs false
def wE (b : Nat) : Int := (beaconref01_Weight.f b).getD 0
theorem bq_W : bq 4194304 = 4697254411347427328 := by decide
theorem bq_L : bq 4294967296 = 4742290407621132288 := by decide
theorem weight_all (b : Nat) (h : b < 18446744073709551616) : beaconref01_Weight.f b = some (wE b) ∧ metric_Weight.f b = some (wE b) ∧ (wE b = 0 → ∃ q,4 ≤ q ∧ q ≤ 4194304 ∧ b = bq q) := by
  obtain ⟨e,he,h0⟩ := bounded_quarters b 4194304 h (by decide)
  rw [bq_W] at he
  have h1 : beaconref01_Weight.f b = some e := by
    unfold beaconref01_Weight.f
    rw [he]
    rfl
  have h2 : wE b = e := by
    unfold wE
    rw [h1]
    rfl
  refine ⟨by rw [h1,h2],?_,by rw [h2];exact h0⟩
  unfold metric_Weight.f
  rw [within_bounded b _ h,he,h2]
  rfl
def lE (b : Nat) : Int := (beaconref01_Limit.f b).getD 0
theorem limit_all (b : Nat) (h : b < 18446744073709551616) : beaconref01_Limit.f b = some (lE b) ∧ metric_Limit.f b = some (lE b) ∧ (lE b = 0 → ∃ q,4 ≤ q ∧ q ≤ 4294967296 ∧ b = bq q) := by
  obtain ⟨e,he,h0⟩ := bounded_quarters b 4294967296 h (by decide)
  rw [bq_L] at he
  have h1 : beaconref01_Limit.f b = some e := by
    unfold beaconref01_Limit.f
    rw [he]
    rfl
  have h2 : lE b = e := by
    unfold lE
    rw [h1]
    rfl
  refine ⟨by rw [h1,h2],?_,by rw [h2];exact h0⟩
  unfold metric_Limit.f
  rw [within_bounded b _ h,he,h2]
  rfl
theorem read_word (s : Bool) (r : Nat) (h : r ≤ 9218868437227405312) : (Ieee.double.read (Ieee.double.word s r)).isNaN = false := by
  have e : Ieee.double.word s r % 9223372036854775808 = r := by
    unfold Ieee.Format.word
    rw [dbl_sign]
    cases s <;> simp <;> omega
  unfold Ieee.Format.read
  rw [dbl_sign,dbl_binade,dbl_inf]
  simp only [e]
  by_cases h1 : r < 4503599627370496
  · rw [if_pos h1]
    rfl
  rw [if_neg h1]
  by_cases h2 : r < 9218868437227405312
  · rw [if_pos h2]
    rfl
  rw [if_neg h2,if_pos (by omega)]
  rfl
theorem read_nearest (s : Bool) (m : Nat) (p : Int) : (Ieee.double.read (Ieee.double.nearest s m p)).isNaN = false := by
  unfold Ieee.Format.nearest
  by_cases h : m = 0
  · rw [if_pos h]
    exact read_word s 0 (by decide)
  rw [if_neg h]
  refine read_word s _ ?_
  rw [← dbl_inf]
  exact Nat.min_le_right _ _
theorem read_write (d : Ieee.Datum) (h : d.isNaN = false) : (Ieee.double.read (Ieee.double.write d)).isNaN = false := by
  cases d with
  | number s m p => exact read_nearest s m p
  | infinity s => exact read_word s _ (by rw [dbl_inf];exact Nat.le_refl _)
  | nan s f => cases h
theorem four_all (a : Nat) (h : (Ieee.double.read a).isNaN = false) : ∃ T U,floatBits .mul .f64 a 4616189618054758400 = some T ∧ math_Trunc.f T = some U := by
  obtain ⟨d,hd,hd2⟩ : ∃ d,(Ieee.double.read a).product (Ieee.double.read 4616189618054758400) = some d ∧ d.isNaN = false := by
    rw [read_four]
    cases hr : Ieee.double.read a with
    | number s m p => exact ⟨_,rfl,rfl⟩
    | infinity s => exact ⟨_,rfl,rfl⟩
    | nan s f => rw [hr] at h;cases h
  have h1 : floatBits .mul .f64 a 4616189618054758400 = some (Ieee.double.write d) := by
    show ((Ieee.double.read a).product (Ieee.double.read 4616189618054758400)).map Ieee.double.write = _
    rw [hd]
    rfl
  have h2 := read_write d hd2
  refine ⟨_,FloatKind.f64.encode ((Ieee.double.read (Ieee.double.write d)).integral .zero),h1,?_⟩
  unfold math_Trunc.f archTruncBits
  rw [decode_read]
  cases hr : Ieee.double.read (Ieee.double.write d) with
  | number s m p => rfl
  | infinity s => rfl
  | nan s f => rw [hr] at h2;cases h2
theorem nan_read (a : Nat) : math_IsNaN.f a = some (Ieee.double.read a).isNaN := by
  unfold math_IsNaN.f
  rw [order_read]
  cases Ieee.double.read a with
  | number s m p =>
    have : compare (Ieee.signed s m (p - min p p).toNat) (Ieee.signed s m (p - min p p).toNat) = .eq := by simp
    simp [Ieee.Datum.order,Ieee.Datum.isNaN,this]
  | infinity s => cases s <;> rfl
  | nan s f => rfl
def farB (a : Nat) : Bool := (beaconref06_Far.f a).getD false
theorem far_ref (a : Nat) : beaconref06_Far.f a = some (farB a) := by
  have : ∃ b,beaconref06_Far.f a = some b := by
    unfold beaconref06_Far.f math_IsInf.f
    rw [if_neg (by decide),if_neg (by decide)]
    simp only [Option.bind_some]
    by_cases h1 : (FloatKind.f64.format.order a 9218868437227405311 == some .gt) = true
    · rw [if_pos h1]
      exact ⟨_,rfl⟩
    rw [if_neg h1]
    by_cases h2 : (a : Int) = 0
    · rw [if_pos h2]
      exact ⟨_,rfl⟩
    rw [if_neg h2]
    by_cases h3 : (FloatKind.f64.format.order a 0 == some .gt) = true
    · rw [if_pos h3]
      by_cases h4 : (FloatKind.f64.format.order a 4742290407621132288 == some .lt) = true
      · rw [if_pos h4]
        have hn : (Ieee.double.read a).isNaN = false := by
          rw [order_read] at h3
          cases hr : Ieee.double.read a with
          | nan s f =>
            rw [hr] at h3
            simp [Ieee.Datum.order] at h3
          | number s m p => rfl
          | infinity s => rfl
        obtain ⟨T,U,e1,e2⟩ := four_all a hn
        rw [e1]
        simp only [Option.bind_some]
        rw [e2]
        exact ⟨_,rfl⟩
      rw [if_neg h4]
      exact ⟨_,rfl⟩
    rw [if_neg h3]
    exact ⟨_,rfl⟩
  obtain ⟨b,hb⟩ := this
  unfold farB
  rw [hb]
  rfl
end Go.Proofs.Ytjcnmpkaiopihaa.PA
