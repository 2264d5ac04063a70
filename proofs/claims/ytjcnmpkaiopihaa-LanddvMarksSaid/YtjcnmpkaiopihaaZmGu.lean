/- The document's Balls told: an error, or what is kept of all that was heard, sorted. Conditions: the floats are words, the lists fit in memory. -/
import Derived.Test.YtjcnmpkaiopihaaZmGs
namespace Go.Proofs.Ytjcnmpkaiopihaa.PA
open Go.RowKit Go.Proofs.YtjcnmpkaiopihaaW.PrintWords Go.Proofs.YtjcnmpkaiopihaaW.PrintLast Go.Proofs.YtjcnmpkaiopihaaW.PrintMore
set_option linter.unusedVariables false
set_option linter.unusedSimpArgs false
theorem pigeon : ∀ (N : Nat) (l : List Int),l.Nodup → (∀ x ∈ l,1 ≤ x ∧ x ≤ (N : Int)) → l.length ≤ N
  | 0,l,hn,h => by
    cases l with
    | nil => simp
    | cons a r => have := h a List.mem_cons_self;omega
  | N + 1,l,hn,h => by
    have ih := pigeon N (l.erase ((N + 1 : Nat) : Int)) (hn.erase _) (fun x hx => by
      have hx := (List.Nodup.mem_erase_iff hn).1 hx
      have := h x hx.2
      omega)
    rw [List.length_erase] at ih
    split at ih <;> omega
def KeptOk (M : List S58) : Prop := (M.map (·.f0)).Nodup ∧ ∀ x ∈ M,okId x.f0 = true ∧ 0 ≤ x.f1 ∧ x.f1 ≤ 3
theorem okId_bounds {i : Int} (h : okId i = true) : 1 ≤ i ∧ i ≤ 2147483647 := by simpa [okId] using h
theorem KeptOk.len {M : List S58} (h : KeptOk M) : M.length ≤ 2147483647 := by
  have := pigeon 2147483647 (M.map (·.f0)) h.1 (fun x hx => by
    obtain ⟨y,hy,rfl⟩ := List.mem_map.1 hx
    exact okId_bounds (h.2 y hy).1)
  simpa using this
def OkH (h : S54) : Prop := (∃ m i,Ieee.double.read h.f1 = .number false m i) ∧ (∀ n ∈ h.f2,(Ieee.double.read n.f2).isNaN = false ∧ okId n.f0 = true) ∧ h.f2.length < 4611686018427387904
theorem keptOk_nil : KeptOk [] := ⟨by simp,by simp⟩
theorem heard_at {self : Int} {l : List S54} : ∀ {n i : Nat},heardFrom self l n i = true → ∀ j,i ≤ j → j < i + n → okHeard self l j = true
  | 0,i,h,j,h1,h2 => by omega
  | n + 1,i,h,j,h1,h2 => by
    unfold heardFrom at h
    rw [Bool.and_eq_true] at h
    by_cases e : j = i
    · rw [e];exact h.1
    exact heard_at h.2 j (by omega) (by omega)
theorem ris_at {l : List S56} : ∀ {n i : Nat},risFrom l n i = true → ∀ j,i ≤ j → j < i + n → okAt l j = true
  | 0,i,h,j,h1,h2 => by omega
  | n + 1,i,h,j,h1,h2 => by
    unfold risFrom at h
    rw [Bool.and_eq_true] at h
    by_cases e : j = i
    · rw [e];exact h.1
    exact ris_at h.2 j (by omega) (by omega)
theorem okH_of {self : Int} {l : List S54} (hw : HeardW l) (hc : ckE self l = 0) : ∀ h ∈ l,OkH h := by
  intro h hm
  obtain ⟨i,hi,rfl⟩ := List.mem_iff_getElem.1 hm
  unfold ckE at hc
  have hh : heardFrom self l l.length 0 = true := by
    cases h1 : okId self
    · rw [h1] at hc;cases hc
    rw [h1] at hc
    cases h2 : heardFrom self l l.length 0
    · rw [h2] at hc;cases hc
    rfl
  have hk := heard_at hh i (by omega) (by omega)
  have hat : l.getD i z54 = l[i] := by simp [List.getD_eq_getElem?_getD,hi]
  unfold okHeard at hk
  rw [hat] at hk
  simp only [Bool.and_eq_true] at hk
  have hwi := hw _ (List.getElem_mem hi)
  refine ⟨weight_num _ hwi.1 (by simpa using hk.2.2.2.1),fun n hn => ?_,by have := hwi.2.2;omega⟩
  have hl := hk.2.2.2.2
  unfold listB at hl
  rw [Bool.and_eq_true] at hl
  obtain ⟨j,hj,rfl⟩ := List.mem_iff_getElem.1 hn
  have ha := ris_at hl.2 j (by omega) (by omega)
  have hjt : l[i].f2.getD j z56 = l[i].f2[j] := by simp [List.getD_eq_getElem?_getD,hj]
  unfold okAt at ha
  rw [hjt,Bool.and_eq_true] at ha
  have hmy := ha.1
  unfold mayB at hmy
  simp only [Bool.and_eq_true] at hmy
  exact ⟨far_num _ hmy.2.2.1,hmy.1⟩
end Go.Proofs.Ytjcnmpkaiopihaa.PA
