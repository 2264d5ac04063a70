/- Which packets may be, in plain terms: the program's and the document's functions tell the same. No condition. -/
import Derived.Test.YtlpmblcdafdfdaaYyGn
import Derived.Test.YtlpmblcdafdfdaaYyKd
import Derived.Test.YtlpmblcdafdfdaaYpPAx4
namespace Go.Proofs.Ytlpmblcdafdfdaa.PA
open Go.RowKit Go.Proofs.YtlpmblcdafdfdaaW.PrintWords Go.Proofs.YtlpmblcdafdfdaaW.PrintLast Go.Proofs.YtlpmblcdafdfdaaW.PrintMore
set_option linter.unusedVariables false
set_option linter.unusedSimpArgs false
def noBytes (s : ByteArray) : Bool := s.toList == ([] : List UInt8)
def borne (p : S30) : Bool := !badId p.f9 && (p.f10 == 0 || !badId p.f10)
def nobodyP (p : S30) : Bool := p.f9 == 0 && p.f10 == 0
def mayB (p : S30) : Bool :=
  if p.f0 = 1 then p.f7 == 0 && noBytes p.f8 && nobodyP p && decide ((p.f11.size : Int) ≤ 1024)
  else if p.f0 = 2 then p.f7 == 0 && (nameV p.f8 == 0 && noBytes p.f11) && borne p
  else if p.f0 = 3 then p.f7 == 0 && (nameV p.f8 == 0 && noBytes p.f11) && nobodyP p
  else if p.f0 = 4 then (nameV p.f8 == 0 && noBytes p.f11) && (p.f7 == 0 && borne p || p.f7 == 1 && nobodyP p)
  else false
def mayP (p : S30) : Bool := !badId p.f1 && !badId p.f3 && (p.f2 == 0 || !badId p.f2) && (p.f4 == 0 || !badId p.f4) && decide (0 ≤ p.f5) && decide (p.f5 ≤ 65536) && mayB p
theorem mnum_f (x : Int) : message_number.f x = some (!badId x) := by
  unfold message_number.f
  rw [id_f,Option.bind_some]
  unfold idV
  by_cases h : badId x = true <;> simp [h]
theorem bad0 : badId 0 = true := by decide
theorem packet_j3 (p : S30) (k : Nat) (b : Bool) (n : Bool) : message_packet.j3 (k + 1) (borne p) (nobodyP p) (nameV p.f8 == 0 && noBytes p.f11) p.f0 p.f1 p.f2 p.f3 p.f4 p.f5 p.f6 p.f7 p.f8 p.f9 p.f10 p.f11 = some (mayB p) := by
  simp only [message_packet.j3]
  unfold mayB noBytes
  generalize borne p = x3
  generalize nobodyP p = x4
  generalize (nameV p.f8 == 0 && p.f11.toList == ([] : List UInt8)) = x5
  by_cases h1 : p.f0 = 1
  · rw [if_pos h1,if_pos h1]
    by_cases h2 : p.f7 = 0 <;> by_cases h3 : p.f8.toList = [] <;> cases x4 <;> simp [h2,h3]
  · rw [if_neg h1,if_neg h1]
    by_cases h2 : p.f0 = 2
    · rw [if_pos h2,if_pos h2]
      by_cases h3 : p.f7 = 0 <;> cases x5 <;> cases x3 <;> simp [h3]
    · rw [if_neg h2,if_neg h2]
      by_cases h3 : p.f0 = 3
      · rw [if_pos h3,if_pos h3]
        by_cases h4 : p.f7 = 0 <;> cases x5 <;> cases x4 <;> simp [h4]
      · rw [if_neg h3,if_neg h3]
        by_cases h4 : p.f0 = 4
        · rw [if_pos h4,if_pos h4]
          by_cases h5 : p.f7 = 0
          · cases x5 <;> cases x3 <;> cases x4 <;> simp [h5]
          · by_cases h6 : p.f7 = 1 <;> cases x5 <;> cases x3 <;> cases x4 <;> simp [h5,h6]
        · rw [if_neg h4,if_neg h4]
theorem packet_j2 (p : S30) (k : Nat) (hk : 40 ≤ k) : message_packet.j2 (k + 1) (borne p) (nobodyP p) p.f0 p.f1 p.f2 p.f3 p.f4 p.f5 p.f6 p.f7 p.f8 p.f9 p.f10 p.f11 = some (mayB p) := by
  simp only [message_packet.j2]
  rw [name_tells p.f8 k hk,Option.bind_some]
  obtain ⟨k,rfl⟩ : ∃ m,k = m + 1 := ⟨k - 1,by omega⟩
  have h3 := packet_j3 p k true true
  by_cases h : nameV p.f8 = 0
  · rw [if_pos h]
    rw [show (nameV p.f8 == 0 && noBytes p.f11) = (p.f11.toList == ([] : List UInt8)) by simp [h,noBytes]] at h3
    exact h3
  · rw [if_neg h]
    rw [show (nameV p.f8 == 0 && noBytes p.f11) = false by simp [h]] at h3
    exact h3
theorem packet_j1 (p : S30) (k : Nat) (hk : 41 ≤ k) : message_packet.j1 (k + 1) (borne p) p.f0 p.f1 p.f2 p.f3 p.f4 p.f5 p.f6 p.f7 p.f8 p.f9 p.f10 p.f11 = some (mayB p) := by
  simp only [message_packet.j1]
  obtain ⟨k,rfl⟩ : ∃ m,k = m + 1 := ⟨k - 1,by omega⟩
  have h2 := packet_j2 p k (by omega)
  unfold nobodyP at h2
  by_cases h : p.f9 = 0
  · rw [if_pos h]
    rw [show (p.f9 == 0 && p.f10 == 0) = (p.f10 == 0) by simp [h]] at h2
    exact h2
  · rw [if_neg h]
    rw [show (p.f9 == 0 && p.f10 == 0) = false by simp [h]] at h2
    exact h2
theorem packet_j0 (p : S30) (b : Bool) (k : Nat) (hk : 42 ≤ k) : message_packet.j0 (k + 1) b p.f0 p.f1 p.f2 p.f3 p.f4 p.f5 p.f6 p.f7 p.f8 p.f9 p.f10 p.f11 = some (!b && mayB p) := by
  simp only [message_packet.j0,mnum_f,Option.bind_some]
  cases b
  · obtain ⟨k,rfl⟩ : ∃ m,k = m + 1 := ⟨k - 1,by omega⟩
    have h1 := packet_j1 p k (by omega)
    unfold borne at h1
    rw [if_neg (by simp)]
    by_cases h : p.f9 = 0
    · rw [if_pos h]
      rw [show (!badId p.f9 && (p.f10 == 0 || !badId p.f10)) = false by simp [h,bad0]] at h1
      simpa using h1
    · rw [if_neg h]
      by_cases h2 : badId p.f9 = true
      · rw [show (!badId p.f9 && (p.f10 == 0 || !badId p.f10)) = false by simp [h2]] at h1
        rw [if_neg (by simp [h2])]
        simpa using h1
      · rw [Bool.not_eq_true] at h2
        rw [if_pos (by simp [h2])]
        by_cases h3 : p.f10 = 0
        · rw [show (!badId p.f9 && (p.f10 == 0 || !badId p.f10)) = true by simp [h2,h3]] at h1
          rw [if_pos h3]
          simpa using h1
        · rw [show (!badId p.f9 && (p.f10 == 0 || !badId p.f10)) = !badId p.f10 by simp [h2,h3]] at h1
          rw [if_neg h3]
          simpa using h1
  · simp
theorem packet_f (p : S30) (k : Nat) (hk : 43 ≤ k) : message_packet.f k p.f0 p.f1 p.f2 p.f3 p.f4 p.f5 p.f6 p.f7 p.f8 p.f9 p.f10 p.f11 = some (mayP p) := by
  obtain ⟨k,rfl⟩ : ∃ m,k = m + 1 := ⟨k - 1,by omega⟩
  have h0 := fun b => packet_j0 p b k (by omega)
  unfold message_packet.f mayP
  simp only [mnum_f,Option.bind_some,h0]
  generalize mayB p = m
  generalize hb1 : badId p.f1 = b1
  generalize hb3 : badId p.f3 = b3
  generalize hb2 : badId p.f2 = b2
  generalize hb4 : badId p.f4 = b4
  by_cases z2 : p.f2 = 0 <;> by_cases z4 : p.f4 = 0 <;> by_cases h5 : p.f5 < 0 <;> by_cases h6 : p.f5 > 65536 <;> cases b1 <;> cases b3 <;> cases b2 <;> cases b4 <;> simp [z2,z4,h5,h6] <;> omega
end Go.Proofs.Ytlpmblcdafdfdaa.PA
