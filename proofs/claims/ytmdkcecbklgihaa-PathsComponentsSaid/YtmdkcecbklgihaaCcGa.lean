/- Least distances in whole numbers that stop at a limit M: what a worklist keeps true round by round, and that the least distances are the only ones of their kind. No condition but those each theorem names. -/
import Derived.Test.YtmdkcecbklgihaaCcHe
namespace Go.Proofs.Ytmdkcecbklgihaa.PA
set_option linter.unusedVariables false
set_option linter.unusedSimpArgs false
abbrev Adj := List (List (Nat × Nat))
inductive Walk (R : Adj) (M s : Nat) : Nat → Nat → Prop
  | nil : Walk R M s s 0
  | cons {p t : Nat} {e : Nat × Nat} : Walk R M s p t → e ∈ R.getD p [] → e.2 + t < M → Walk R M s e.1 (e.2 + t)
structure IsDist (R : Adj) (M s n : Nat) (q : List Nat) : Prop where
  len : q.length = n
  src : q.getD s 0 = 0
  le : ∀ p,q.getD p 0 ≤ M
  wk : ∀ p,p < n → q.getD p 0 < M → Walk R M s p (q.getD p 0)
  fix : ∀ p,p < n → ∀ e,e ∈ R.getD p [] → q.getD e.1 0 ≤ min M (e.2 + q.getD p 0)
def Wf (R : Adj) (n : Nat) : Prop := R.length = n ∧ ∀ p e,e ∈ R.getD p [] → e.1 < n ∧ 1 ≤ e.2
theorem Walk.lt {R : Adj} {M s n p t : Nat} (hW : Wf R n) (hs : s < n) (h : Walk R M s p t) : p < n := by
  cases h with
  | nil => exact hs
  | cons h1 h2 h3 => exact (hW.2 _ _ h2).1
theorem IsDist.le_walk {R : Adj} {M s n : Nat} {q : List Nat} (h : IsDist R M s n q) (hW : Wf R n) (hs : s < n) {p t : Nat} (hw : Walk R M s p t) : q.getD p 0 ≤ t := by
  induction hw with
  | nil => exact Nat.le_of_eq h.src
  | cons h1 h2 h3 ih =>
    have := h.fix _ (h1.lt hW hs) _ h2
    omega
theorem getD_ext (q q' : List Nat) (hl : q.length = q'.length) (h : ∀ p,p < q.length → q.getD p 0 = q'.getD p 0) : q = q' := by
  apply List.ext_getElem hl
  intro j h1 h2
  have := h j h1
  simpa [List.getD_eq_getElem?_getD,h1,h2] using this
theorem IsDist.unique {R : Adj} {M s n : Nat} {q q' : List Nat} (h : IsDist R M s n q) (h' : IsDist R M s n q') (hW : Wf R n) (hs : s < n) : q = q' := by
  apply getD_ext _ _ (by rw [h.len,h'.len])
  intro p hp
  rw [h.len] at hp
  apply Nat.le_antisymm
  · rcases Nat.lt_or_ge (q'.getD p 0) M with h1 | h1
    · exact h.le_walk hW hs (h'.wk p hp h1)
    exact Nat.le_trans (h.le p) h1
  rcases Nat.lt_or_ge (q.getD p 0) M with h1 | h1
  · exact h'.le_walk hW hs (h.wk p hp h1)
  exact Nat.le_trans (h'.le p) h1
theorem getD_set (q : List Nat) (r s p : Nat) (hr : r < q.length) : (q.set r s).getD p 0 = if p = r then s else q.getD p 0 := by
  simp only [List.getD_eq_getElem?_getD,List.getElem?_set]
  by_cases h : p = r
  · subst h
    simp [hr]
  simp [h,Ne.symm h]
theorem sum_set : ∀ (q : List Nat) (r s : Nat),r < q.length → (q.set r s).sum + q.getD r 0 = q.sum + s
  | [],r,s,h => absurd h (Nat.not_lt_zero _)
  | a :: q,0,s,h => by simp;omega
  | a :: q,r + 1,s,h => by
    have := sum_set q r s (by simpa using h)
    simp only [List.set_cons_succ,List.sum_cons,List.getD_cons_succ]
    omega
def Done (R : Adj) (M : Nat) (q : List Nat) (p : Nat) : Prop := ∀ e,e ∈ R.getD p [] → q.getD e.1 0 ≤ min M (e.2 + q.getD p 0)
structure Inv (enc : Nat → Nat) (R : Adj) (M s n : Nat) (J : List Nat → Nat → Prop) (q : List Nat) (xs : List S81) : Prop where
  len : q.length = n
  src : q.getD s 0 = 0
  le : ∀ p,q.getD p 0 ≤ M
  wk : ∀ p,p < n → q.getD p 0 < M → Walk R M s p (q.getD p 0)
  hp : ∀ x,x ∈ xs → ∃ p t : Nat,x = ⟨(p : Int),enc t⟩ ∧ p < n ∧ q.getD p 0 ≤ t ∧ t < M ∧ Walk R M s p t
  pend : ∀ p,p < n → q.getD p 0 < M → (⟨(p : Int),enc (q.getD p 0)⟩ : S81) ∈ xs ∨ Done R M q p ∨ J q p
def Under (R : Adj) (M p t j : Nat) (q : List Nat) (r : Nat) : Prop := r = p ∧ ∀ i,i < j → ∀ e,(R.getD p [])[i]? = some e → q.getD e.1 0 ≤ min M (e.2 + t)
theorem Inv.perm {enc : Nat → Nat} {R : Adj} {M s n : Nat} {J : List Nat → Nat → Prop} {q : List Nat} {xs ys : List S81} (h : Inv enc R M s n J q xs) (hp : ys.Perm xs) : Inv enc R M s n J q ys :=
  ⟨h.len,h.src,h.le,h.wk,fun x hx => h.hp x (hp.mem_iff.1 hx),fun p h1 h2 => (h.pend p h1 h2).imp (fun h3 => hp.mem_iff.2 h3) id⟩
theorem Inv.start {enc : Nat → Nat} {R : Adj} {M s n : Nat} (hM : 0 < M) (hs : s < n) : Inv enc R M s n (fun _ _ => False) ((List.replicate n M).set s 0) [⟨(s : Int),enc 0⟩] := by
  have hg : ∀ p,p < n → ((List.replicate n M).set s 0).getD p 0 = if p = s then 0 else M := by
    intro p hp
    rw [getD_set _ _ _ _ (by simpa using hs)]
    simp [List.getD_eq_getElem?_getD,hp]
  refine ⟨by simp,by rw [hg s hs,if_pos rfl],fun p => ?_,fun p hp hlt => ?_,fun x hx => ?_,fun p hp hlt => ?_⟩
  · rcases Nat.lt_or_ge p n with h | h
    · rw [hg p h]
      split <;> omega
    have : ((List.replicate n M).set s 0).getD p 0 = 0 := by
      rw [List.getD_eq_getElem?_getD,List.getElem?_eq_none (by simpa using h)]
      rfl
    omega
  · rw [hg p hp] at hlt ⊢
    by_cases h : p = s
    · subst h
      rw [if_pos rfl]
      exact Walk.nil
    rw [if_neg h] at hlt
    omega
  · obtain rfl := List.mem_singleton.1 hx
    exact ⟨s,0,rfl,hs,by rw [hg s hs,if_pos rfl];exact Nat.le_refl _,hM,Walk.nil⟩
  rw [hg p hp] at hlt
  by_cases h : p = s
  · subst h
    left
    rw [hg p hp,if_pos rfl]
    exact List.mem_singleton.2 rfl
  rw [if_neg h] at hlt
  omega
theorem Inv.done {enc : Nat → Nat} {R : Adj} {M s n : Nat} {q : List Nat} (h : Inv enc R M s n (fun _ _ => False) q []) : IsDist R M s n q := by
  refine ⟨h.len,h.src,h.le,h.wk,fun p hp e he => ?_⟩
  rcases Nat.lt_or_ge (q.getD p 0) M with h1 | h1
  · rcases h.pend p hp h1 with h2 | h2 | h2
    · cases h2
    · exact h2 e he
    exact h2.elim
  have := h.le e.1
  omega
theorem Inv.skip {enc : Nat → Nat} {R : Adj} {M s n p t : Nat} {q : List Nat} {xs : List S81} (hinj : ∀ a b,a ≤ M → b ≤ M → enc a = enc b → a = b) (h : Inv enc R M s n (fun _ _ => False) q (⟨(p : Int),enc t⟩ :: xs)) (ht : t ≤ M) (hlt : q.getD p 0 < t) : Inv enc R M s n (fun _ _ => False) q xs := by
  refine ⟨h.len,h.src,h.le,h.wk,fun x hx => h.hp x (List.mem_cons_of_mem _ hx),fun r h1 h2 => ?_⟩
  rcases h.pend r h1 h2 with h3 | h3
  · rcases List.mem_cons.1 h3 with h4 | h4
    · have h5 : (r : Int) = (p : Int) := congrArg S81.f0 h4
      have h6 : enc (q.getD r 0) = enc t := congrArg S81.f1 h4
      have h7 := hinj _ _ (h.le r) ht h6
      have : r = p := by omega
      subst this
      omega
    exact Or.inl h4
  exact Or.inr h3
theorem Inv.take {enc : Nat → Nat} {R : Adj} {M s n p t : Nat} {q : List Nat} {xs : List S81} (hinj : ∀ a b,a ≤ M → b ≤ M → enc a = enc b → a = b) (h : Inv enc R M s n (fun _ _ => False) q (⟨(p : Int),enc t⟩ :: xs)) (ht : t ≤ M) (he : q.getD p 0 = t) : Inv enc R M s n (Under R M p t 0) q xs := by
  refine ⟨h.len,h.src,h.le,h.wk,fun x hx => h.hp x (List.mem_cons_of_mem _ hx),fun r h1 h2 => ?_⟩
  rcases h.pend r h1 h2 with h3 | h3 | h3
  · rcases List.mem_cons.1 h3 with h4 | h4
    · have h5 : (r : Int) = (p : Int) := congrArg S81.f0 h4
      have : r = p := by omega
      subst this
      exact Or.inr (Or.inr ⟨rfl,fun i hi => absurd hi (Nat.not_lt_zero _)⟩)
    exact Or.inl h4
  · exact Or.inr (Or.inl h3)
  exact h3.elim
theorem Inv.keep {enc : Nat → Nat} {R : Adj} {M s n p t j : Nat} {q : List Nat} {xs : List S81} (h : Inv enc R M s n (Under R M p t j) q xs) {e : Nat × Nat} (he : (R.getD p [])[j]? = some e) (hle : q.getD e.1 0 ≤ min M (e.2 + t)) : Inv enc R M s n (Under R M p t (j + 1)) q xs := by
  refine ⟨h.len,h.src,h.le,h.wk,h.hp,fun r h1 h2 => ?_⟩
  rcases h.pend r h1 h2 with h3 | h3 | ⟨h3,h4⟩
  · exact Or.inl h3
  · exact Or.inr (Or.inl h3)
  refine Or.inr (Or.inr ⟨h3,fun i hi e' he' => ?_⟩)
  rcases Nat.lt_or_ge i j with h5 | h5
  · exact h4 i h5 e' he'
  obtain rfl : i = j := by omega
  rw [he] at he'
  cases he'
  exact hle
theorem Inv.relax {enc : Nat → Nat} {R : Adj} {M s n p t j : Nat} {q : List Nat} {xs : List S81} (hW : Wf R n) (hs : s < n) (h : Inv enc R M s n (Under R M p t j) q xs) (hp : p < n) (hqt : q.getD p 0 = t) (htM : t < M) {e : Nat × Nat} (he : (R.getD p [])[j]? = some e) (hlt : min M (e.2 + t) < q.getD e.1 0) :
    Inv enc R M s n (Under R M p t (j + 1)) (q.set e.1 (min M (e.2 + t))) (xs ++ [⟨(e.1 : Int),enc (min M (e.2 + t))⟩]) ∧ (q.set e.1 (min M (e.2 + t))).getD p 0 = t ∧ 2 * (q.set e.1 (min M (e.2 + t))).sum + (xs ++ [(⟨(e.1 : Int),enc (min M (e.2 + t))⟩ : S81)]).length < 2 * q.sum + xs.length := by
  have hmem : e ∈ R.getD p [] := List.mem_of_getElem? he
  obtain ⟨hen,hw1⟩ := hW.2 p e hmem
  have hel : e.1 < q.length := by rw [h.len];exact hen
  have hle := h.le e.1
  have hmin : min M (e.2 + t) = e.2 + t := by omega
  rw [hmin] at hlt ⊢
  have hg : ∀ r,(q.set e.1 (e.2 + t)).getD r 0 = if r = e.1 then e.2 + t else q.getD r 0 := fun r => getD_set q _ _ r hel
  have hwalk : Walk R M s e.1 (e.2 + t) := Walk.cons (by rw [← hqt];exact h.wk p hp (by omega)) hmem (by omega)
  have hpe : p ≠ e.1 := by
    intro h1
    rw [← h1,hqt] at hlt
    omega
  have hdown : ∀ r,(q.set e.1 (e.2 + t)).getD r 0 ≤ q.getD r 0 := by
    intro r
    rw [hg]
    split
    · subst_vars
      omega
    exact Nat.le_refl _
  refine ⟨⟨by simp [h.len],?_,fun r => ?_,fun r hr hrM => ?_,fun x hx => ?_,fun r hr hrM => ?_⟩,?_,?_⟩
  · rw [hg]
    split
    · next h1 =>
      rw [← h1,h.src] at hlt
      omega
    exact h.src
  · exact Nat.le_trans (hdown r) (h.le r)
  · rw [hg] at hrM ⊢
    by_cases h1 : r = e.1
    · rw [if_pos h1,h1]
      exact hwalk
    rw [if_neg h1] at hrM ⊢
    exact h.wk r hr hrM
  · rcases List.mem_append.1 hx with h1 | h1
    · obtain ⟨r,u,h2,h3,h4,h5,h6⟩ := h.hp x h1
      exact ⟨r,u,h2,h3,Nat.le_trans (hdown r) h4,h5,h6⟩
    obtain rfl := List.mem_singleton.1 h1
    exact ⟨e.1,e.2 + t,rfl,hen,by rw [hg,if_pos rfl];exact Nat.le_refl _,by omega,hwalk⟩
  · by_cases h1 : r = e.1
    · left
      rw [h1,hg,if_pos rfl]
      exact List.mem_append.2 (Or.inr (List.mem_singleton.2 rfl))
    have hr2 : (q.set e.1 (e.2 + t)).getD r 0 = q.getD r 0 := by rw [hg,if_neg h1]
    rw [hr2] at hrM ⊢
    rcases h.pend r hr hrM with h3 | h3 | ⟨h3,h4⟩
    · exact Or.inl (List.mem_append.2 (Or.inl h3))
    · refine Or.inr (Or.inl fun e' he' => ?_)
      rw [hr2]
      exact Nat.le_trans (hdown _) (h3 e' he')
    refine Or.inr (Or.inr ⟨h3,fun i hi e' he' => ?_⟩)
    rcases Nat.lt_or_ge i j with h5 | h5
    · exact Nat.le_trans (hdown _) (h4 i h5 e' he')
    obtain rfl : i = j := by omega
    rw [he] at he'
    cases he'
    rw [hg,if_pos rfl,hmin]
    exact Nat.le_refl _
  · rw [hg,if_neg hpe]
    exact hqt
  have := sum_set q e.1 (e.2 + t) hel
  simp only [List.length_append,List.length_singleton]
  omega
theorem Inv.over {enc : Nat → Nat} {R : Adj} {M s n p t j : Nat} {q : List Nat} {xs : List S81} (h : Inv enc R M s n (Under R M p t j) q xs) (hqt : q.getD p 0 = t) (hj : (R.getD p []).length ≤ j) : Inv enc R M s n (fun _ _ => False) q xs := by
  refine ⟨h.len,h.src,h.le,h.wk,h.hp,fun r h1 h2 => ?_⟩
  rcases h.pend r h1 h2 with h3 | h3 | ⟨h3,h4⟩
  · exact Or.inl h3
  · exact Or.inr (Or.inl h3)
  refine Or.inr (Or.inl fun e he => ?_)
  subst h3
  obtain ⟨i,hi⟩ := List.getElem?_of_mem he
  have := (List.getElem?_eq_some_iff.1 hi).1
  rw [hqt]
  exact h4 i (by omega) e hi
end Go.Proofs.Ytmdkcecbklgihaa.PA
