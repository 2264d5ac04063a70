/- Which packets may be: the document's function tells the same. No condition. -/
import Derived.Test.YtlpmblcdafdfdaaYyGm
import Derived.Test.YtlpmblcdafdfdaaYyGk
import Derived.Test.YtlpmblcdafdfdaaYyPAx9
namespace Go.Proofs.Ytlpmblcdafdfdaa.PA
open Go.RowKit Go.Proofs.YtlpmblcdafdfdaaW.PrintWords Go.Proofs.YtlpmblcdafdfdaaW.PrintLast Go.Proofs.YtlpmblcdafdfdaaW.PrintMore
set_option linter.unusedVariables false
set_option linter.unusedSimpArgs false
theorem rmnum_f (x : Int) : beaconref06_number.f x = some (!badId x) := by
  unfold beaconref06_number.f
  rw [rid_f,Option.bind_some]
  unfold idV
  by_cases h : badId x = true <;> simp [h]
theorem rmname_f (s : ByteArray) (k : Nat) (hk : 80 ≤ k) : beaconref06_name.f k s = some (nameV s == 0) := by
  unfold beaconref06_name.f
  rw [rname_tells s k hk,Option.bind_some]
theorem rmay_j2 (p : S30) (k : Nat) (hk : 80 ≤ k) : beaconref06_MayPacket.j2 (k + 1) (borne p) (nobodyP p) p.f0 p.f1 p.f2 p.f3 p.f4 p.f5 p.f6 p.f7 p.f8 p.f9 p.f10 p.f11 = some (mayB p) := by
  simp only [beaconref06_MayPacket.j2,rmname_f p.f8 k hk,Option.bind_some]
  unfold mayB noBytes
  generalize borne p = x3
  generalize nobodyP p = x4
  generalize (nameV p.f8 == 0) = x5
  by_cases h1 : p.f0 = 1
  · rw [if_pos h1,if_pos h1]
    by_cases h2 : p.f7 = 0 <;> by_cases h3 : p.f8.toList = [] <;> cases x4 <;> simp [h2,h3]
  · rw [if_neg h1,if_neg h1]
    by_cases h2 : p.f0 = 2
    · rw [if_pos h2,if_pos h2]
      by_cases h3 : p.f7 = 0 <;> by_cases h4 : p.f11.toList = [] <;> cases x5 <;> cases x3 <;> simp [h3,h4]
    · rw [if_neg h2,if_neg h2]
      by_cases h3 : p.f0 = 3
      · rw [if_pos h3,if_pos h3]
        by_cases h4 : p.f7 = 0 <;> by_cases h5 : p.f11.toList = [] <;> cases x5 <;> cases x4 <;> simp [h4,h5]
      · rw [if_neg h3,if_neg h3]
        by_cases h4 : p.f0 = 4
        · rw [if_pos h4,if_pos h4]
          by_cases h5 : p.f7 = 0
          · by_cases h7 : p.f11.toList = [] <;> cases x5 <;> cases x3 <;> cases x4 <;> simp [h5,h7]
          · by_cases h6 : p.f7 = 1 <;> by_cases h7 : p.f11.toList = [] <;> cases x5 <;> cases x3 <;> cases x4 <;> simp [h5,h6,h7]
        · rw [if_neg h4,if_neg h4]
theorem rmay_j1 (p : S30) (k : Nat) (hk : 81 ≤ k) : beaconref06_MayPacket.j1 (k + 1) (borne p) p.f0 p.f1 p.f2 p.f3 p.f4 p.f5 p.f6 p.f7 p.f8 p.f9 p.f10 p.f11 = some (mayB p) := by
  simp only [beaconref06_MayPacket.j1]
  obtain ⟨k,rfl⟩ : ∃ m,k = m + 1 := ⟨k - 1,by omega⟩
  have h2 := rmay_j2 p k (by omega)
  unfold nobodyP at h2
  by_cases h : p.f9 = 0
  · rw [if_pos h]
    rw [show (p.f9 == 0 && p.f10 == 0) = (p.f10 == 0) by simp [h]] at h2
    exact h2
  · rw [if_neg h]
    rw [show (p.f9 == 0 && p.f10 == 0) = false by simp [h]] at h2
    exact h2
theorem rmay_j0 (p : S30) (b : Bool) (k : Nat) (hk : 82 ≤ k) : beaconref06_MayPacket.j0 (k + 1) b p.f0 p.f1 p.f2 p.f3 p.f4 p.f5 p.f6 p.f7 p.f8 p.f9 p.f10 p.f11 = some (!b && mayB p) := by
  simp only [beaconref06_MayPacket.j0,rmnum_f,Option.bind_some]
  cases b
  · obtain ⟨k,rfl⟩ : ∃ m,k = m + 1 := ⟨k - 1,by omega⟩
    have h1 := rmay_j1 p k (by omega)
    unfold borne at h1
    rw [if_neg (by simp)]
    by_cases h2 : badId p.f9 = true
    · rw [show (!badId p.f9 && (p.f10 == 0 || !badId p.f10)) = false by simp [h2]] at h1
      rw [if_neg (by simp [h2])]
      simpa using h1
    · rw [Bool.not_eq_true] at h2
      rw [if_pos (by simp [h2])]
      by_cases h3 : p.f10 = 0
      · rw [show (!badId p.f9 && (p.f10 == 0 || !badId p.f10)) = true by simp [h2,h3]] at h1
        rw [if_pos h3]
        simpa using h1
      · rw [show (!badId p.f9 && (p.f10 == 0 || !badId p.f10)) = !badId p.f10 by simp [h2,h3]] at h1
        rw [if_neg h3]
        simpa using h1
  · simp
theorem rmay_f (p : S30) (k : Nat) (hk : 83 ≤ k) : beaconref06_MayPacket.f k p.f0 p.f1 p.f2 p.f3 p.f4 p.f5 p.f6 p.f7 p.f8 p.f9 p.f10 p.f11 = some (mayP p) := by
  obtain ⟨k,rfl⟩ : ∃ m,k = m + 1 := ⟨k - 1,by omega⟩
  have h0 := fun b => rmay_j0 p b k (by omega)
  unfold beaconref06_MayPacket.f mayP
  simp only [rmnum_f,Option.bind_some,h0]
  generalize mayB p = m
  generalize hb1 : badId p.f1 = b1
  generalize hb3 : badId p.f3 = b3
  generalize hb2 : badId p.f2 = b2
  generalize hb4 : badId p.f4 = b4
  by_cases z2 : p.f2 = 0 <;> by_cases z4 : p.f4 = 0 <;> by_cases h5 : p.f5 < 0 <;> by_cases h6 : p.f5 > 65536 <;> cases b1 <;> cases b3 <;> cases b2 <;> cases b4 <;> simp [z2,z4,h5,h6] <;> omega
theorem rmay_any (p : S30) (b : Bool) (h : mayP p = b) (W : World) : Calls Try.prog 44 #[.agg #[.int .i64 p.f0,.int .i64 p.f1,.int .i64 p.f2,.int .i64 p.f3,.int .i64 p.f4,.int .i64 p.f5,.int .u64 p.f6,.int .i64 p.f7,.string p.f8,.int .i64 p.f9,.int .i64 p.f10,.string p.f11]] W fun e w' => e = .returned (.bool b) ∧ Below W.heap.size W w' := beaconref06_MayPacket.calls 83 p.f0 p.f1 p.f2 p.f3 p.f4 p.f5 p.f6 p.f7 p.f8 p.f9 p.f10 p.f11 b W (by rw [rmay_f p 83 (Nat.le_refl _),h])
end Go.Proofs.Ytlpmblcdafdfdaa.PA
