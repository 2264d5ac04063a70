/- Who reaches whom. Conditions: the graph may be, weights are words. -/
import Derived.Test.YtmdkcecbklgihaaCoGj
namespace Go.Proofs.Ytmdkcecbklgihaa.PA
open Go.RowKit Go.Proofs.YtmdkcecbklgihaaW.PrintWords
open Classical
set_option linter.unusedVariables false
set_option linter.unusedSimpArgs false
set_option linter.unusedSectionVars false
def Rch (R : Adj) (i p : Nat) : Prop := ∃ t,Pth R i p t
theorem Rch.refl (R : Adj) (i : Nat) : Rch R i i := ⟨0,.nil⟩
theorem Rch.step {R : Adj} {i p : Nat} (h : Rch R i p) {e : Nat × Nat} (he : e ∈ R.getD p []) : Rch R i e.1 := by
  obtain ⟨t,h⟩ := h
  exact ⟨_,h.cons he⟩
theorem Rch.trans {R : Adj} {a b c : Nat} (h : Rch R a b) (k : Rch R b c) : Rch R a c := by
  obtain ⟨t,h⟩ := h
  obtain ⟨u,k⟩ := k
  exact ⟨_,h.trans k⟩
theorem Rch.symm {R : Adj} (hS : Sym R) {a b : Nat} (h : Rch R a b) : Rch R b a := by
  obtain ⟨t,h⟩ := h
  exact ⟨t,h.symm hS⟩
theorem Rch.ind {R : Adj} {i p : Nat} (h : Rch R i p) (C : Nat → Prop) (h0 : C i) (hs : ∀ r e,C r → e ∈ R.getD r [] → C e.1) : C p := by
  obtain ⟨t,h⟩ := h
  induction h with
  | nil => exact h0
  | cons h1 h2 ih => exact hs _ _ ih h2
noncomputable def comp (R : Adj) (n i : Nat) : List Nat := (List.range n).filter fun p => decide (Rch R i p)
def Head (nodes : List S40) (R : Adj) (i : Nat) : Prop := (nodes.getD i z40).f1 = true ∧ ∀ p,p < i → ¬ Rch R i p
noncomputable def compsTo (nodes : List S40) (R : Adj) (n j : Nat) : List (List Nat) := ((List.range j).filter fun i => decide (Head nodes R i)).map (comp R n)
theorem compsTo_succ (nodes : List S40) (R : Adj) (n j : Nat) : compsTo nodes R n (j + 1) = if Head nodes R j then compsTo nodes R n j ++ [comp R n j] else compsTo nodes R n j := by
  unfold compsTo
  rw [List.range_succ,List.filter_append,List.map_append]
  by_cases h : Head nodes R j
  · rw [if_pos h,List.filter_cons,if_pos (decide_eq_true h)]
    rfl
  rw [if_neg h,List.filter_cons,if_neg (by simpa using h)]
  simp
theorem up_reach {nodes : List S40} {links : List S74} (G : Good nodes links) {i p : Nat} (hi : i < nodes.length) (hu : (nodes.getD i z40).f1 = true) (h : Rch (adjQ wqOf nodes links) i p) : p < nodes.length ∧ (nodes.getD p z40).f1 = true := by
  refine h.ind (fun p => p < nodes.length ∧ (nodes.getD p z40).f1 = true) ⟨hi,hu⟩ ?_
  intro r e hr he
  obtain ⟨l,hl,h1,h2⟩ := (mem_adjQ wqOf nodes links G.ends r e).1 he
  obtain ⟨e0,e1⟩ := G.ends l hl
  rcases h2 with ⟨_,rfl⟩ | ⟨_,rfl⟩
  · exact ⟨e1,h1.2.2⟩
  exact ⟨e0,h1.2.1⟩
theorem comp_sorted (R : Adj) (n i : Nat) : (comp R n i).Pairwise (· < ·) := by
  unfold comp
  exact List.Pairwise.filter _ List.pairwise_lt_range
theorem mem_comp {R : Adj} {n i p : Nat} : p ∈ comp R n i ↔ p < n ∧ Rch R i p := by
  unfold comp
  rw [List.mem_filter,List.mem_range,decide_eq_true_eq]
theorem sorted_comp {R : Adj} {n i : Nat} {l : List Nat} (hd : l.Nodup) (hm : ∀ p,p ∈ l ↔ p < n ∧ Rch R i p) : ((l.map fun p : Nat => (p : Int)).mergeSort fun x y => decide (x ≤ y)) = (comp R n i).map fun p : Nat => (p : Int) := by
  have hp : l.Perm (comp R n i) := by
    refine (List.perm_ext_iff_of_nodup hd ?_).2 (fun p => (hm p).trans mem_comp.symm)
    exact (comp_sorted R n i).imp (fun h => Nat.ne_of_lt h)
  have h1 := List.mergeSort_perm (l.map fun p : Nat => (p : Int)) (fun x y => decide (x ≤ y))
  have h2 : ((l.map fun p : Nat => (p : Int)).mergeSort fun x y => decide (x ≤ y)).Perm ((comp R n i).map fun p : Nat => (p : Int)) := h1.trans (hp.map _)
  have s1 := List.pairwise_mergeSort (le := fun x y : Int => decide (x ≤ y)) (fun a b c h1 h2 => by simp at *;omega) (fun a b => by simp;omega) (l.map fun p : Nat => (p : Int))
  refine List.Perm.eq_of_pairwise (le := fun x y : Int => x ≤ y) (fun a b _ _ h1 h2 => Int.le_antisymm h1 h2) (s1.imp (fun h => by simpa using h)) ?_ h2
  rw [List.pairwise_map]
  exact (comp_sorted R n i).imp (fun h => by omega)
def idAt (nodes : List S40) (p : Nat) : Int := (nodes.getD p z40).f0
def idsOf (nodes : List S40) (l : List Nat) : List Int := l.map (idAt nodes)
noncomputable def compsSpec (nodes : List S40) (links : List S74) : List (List Int) × Int := if ckSpec nodes links = 0 then ((compsTo nodes (adjQ wqOf nodes links) nodes.length nodes.length).map (idsOf nodes),0) else ([],ckSpec nodes links)
def Old (nodes : List S40) (R : Adj) (j p : Nat) : Prop := ∃ h,h < j ∧ Head nodes R h ∧ Rch R h p
structure BInv (R : Adj) (n i : Nat) (old : Nat → Prop) (s : List Bool) (l : List Nat) : Prop where
  slen : s.length = n
  nd : l.Nodup
  hd : i ∈ l
  rc : ∀ p,p ∈ l → p < n ∧ Rch R i p
  seen : ∀ p,p < n → (s.getD p false = true ↔ (old p ∨ p ∈ l))
def Closed (R : Adj) (old : Nat → Prop) (l : List Nat) (k : Nat) : Prop := ∀ j,j < k → ∀ e,e ∈ R.getD (l.getD j 0) [] → e.1 ∈ l ∨ old e.1
def ClosedRow (R : Adj) (old : Nat → Prop) (l : List Nat) (k c : Nat) : Prop := ∀ c',c' < c → ∀ e,(R.getD (l.getD k 0) [])[c']? = some e → e.1 ∈ l ∨ old e.1
theorem getD_setB (s : List Bool) (i p : Nat) (x : Bool) (hi : i < s.length) : (s.set i x).getD p false = if p = i then x else s.getD p false := by
  simp only [List.getD_eq_getElem?_getD,List.getElem?_set]
  by_cases h : i = p
  · subst h
    simp [hi]
  rw [if_neg h,if_neg (fun h2 => h h2.symm)]
theorem getD_appN (l : List Nat) (x j : Nat) (h : j < l.length) : (l ++ [x]).getD j 0 = l.getD j 0 := by
  simp only [List.getD_eq_getElem?_getD]
  rw [List.getElem?_append_left h]
theorem BInv.add {R : Adj} {n i : Nat} {old : Nat → Prop} {s : List Bool} {l : List Nat} (h : BInv R n i old s l) {p : Nat} (hp : p < n) (hr : Rch R i p) (hs : s.getD p false = false) : BInv R n i old (s.set p true) (l ++ [p]) := by
  have hno : ¬ (old p ∨ p ∈ l) := fun h2 => by
    have := (h.seen p hp).2 h2
    rw [hs] at this
    cases this
  refine ⟨by rw [List.length_set];exact h.slen,?_,List.mem_append_left _ h.hd,fun r hr2 => ?_,fun r hr2 => ?_⟩
  · rw [List.nodup_append]
    exact ⟨h.nd,by simp,fun a ha b hb => by
      rw [List.mem_singleton] at hb
      subst hb
      intro he
      subst he
      exact hno (Or.inr ha)⟩
  · rcases List.mem_append.1 hr2 with h3 | h3
    · exact h.rc r h3
    rw [List.mem_singleton] at h3
    subst h3
    exact ⟨hp,hr⟩
  rw [getD_setB s p r true (by rw [h.slen];exact hp),List.mem_append,List.mem_singleton]
  by_cases he : r = p
  · rw [if_pos he]
    exact ⟨fun _ => Or.inr (Or.inr he),fun _ => rfl⟩
  rw [if_neg he,h.seen r hr2]
  exact ⟨fun h3 => h3.imp_right Or.inl,fun h3 => h3.imp_right (fun h4 => h4.resolve_right he)⟩
theorem Closed.add {R : Adj} {old : Nat → Prop} {l : List Nat} {k : Nat} (h : Closed R old l k) (hk : k ≤ l.length) (x : Nat) : Closed R old (l ++ [x]) k := by
  intro j hj e he
  rw [getD_appN l x j (by omega)] at he
  exact (h j hj e he).imp_left (List.mem_append_left _)
theorem ClosedRow.add {R : Adj} {old : Nat → Prop} {l : List Nat} {k c : Nat} (h : ClosedRow R old l k c) (hk : k < l.length) {e : Nat × Nat} (he : (R.getD (l.getD k 0) [])[c]? = some e) : ClosedRow R old (l ++ [e.1]) k (c + 1) := by
  intro c' hc' e' he'
  rw [getD_appN l _ k hk] at he'
  rcases Nat.lt_or_ge c' c with h1 | h1
  · exact (h c' h1 e' he').imp_left (List.mem_append_left _)
  obtain rfl : c' = c := by omega
  rw [he] at he'
  rw [← Option.some.inj he']
  exact Or.inl (List.mem_append_right _ (List.mem_singleton.2 rfl))
theorem ClosedRow.same {R : Adj} {old : Nat → Prop} {l : List Nat} {k c : Nat} (h : ClosedRow R old l k c) {e : Nat × Nat} (he : (R.getD (l.getD k 0) [])[c]? = some e) (hin : e.1 ∈ l ∨ old e.1) : ClosedRow R old l k (c + 1) := by
  intro c' hc' e' he'
  rcases Nat.lt_or_ge c' c with h1 | h1
  · exact h c' h1 e' he'
  obtain rfl : c' = c := by omega
  rw [he] at he'
  rw [← Option.some.inj he']
  exact hin
theorem ClosedRow.done {R : Adj} {old : Nat → Prop} {l : List Nat} {k : Nat} (h : Closed R old l k) (hr : ClosedRow R old l k (R.getD (l.getD k 0) []).length) : Closed R old l (k + 1) := by
  intro j hj e he
  rcases Nat.lt_or_ge j k with h1 | h1
  · exact h j h1 e he
  obtain rfl : j = k := by omega
  obtain ⟨c,hc,rfl⟩ := List.mem_iff_getElem.1 he
  exact hr c hc _ (List.getElem?_eq_getElem hc)
theorem BInv.done {R : Adj} {n i : Nat} {old : Nat → Prop} {s : List Bool} {l : List Nat} (h : BInv R n i old s l) (hc : Closed R old l l.length) (hold : ∀ p,Rch R i p → ¬ old p) (p : Nat) : p ∈ l ↔ p < n ∧ Rch R i p := by
  refine ⟨h.rc p,fun hp => ?_⟩
  have key : p ∈ l ∧ Rch R i p := by
    refine hp.2.ind (fun p => p ∈ l ∧ Rch R i p) ⟨h.hd,Rch.refl _ _⟩ ?_
    intro r e hr he
    obtain ⟨j,hj,hjr⟩ := List.mem_iff_getElem.1 hr.1
    have hg : l.getD j 0 = r := by simp [List.getD_eq_getElem?_getD,hj,hjr]
    have h2 := hr.2.step he
    rcases hc j hj e (by rw [hg];exact he) with h3 | h3
    · exact ⟨h3,h2⟩
    exact absurd h3 (hold _ h2)
  exact key.1
theorem BInv.len {R : Adj} {n i : Nat} {old : Nat → Prop} {s : List Bool} {l : List Nat} (h : BInv R n i old s l) : l.length ≤ n := by
  have h1 : l.Perm ((List.range n).filter fun p => decide (p ∈ l)) := by
    refine (List.perm_ext_iff_of_nodup h.nd ((List.Pairwise.filter _ List.pairwise_lt_range).imp (fun h => Nat.ne_of_lt h))).2 (fun p => ?_)
    rw [List.mem_filter,List.mem_range,decide_eq_true_eq]
    exact ⟨fun h2 => ⟨(h.rc p h2).1,h2⟩,fun h2 => h2.2⟩
  rw [h1.length_eq]
  exact Nat.le_trans (List.length_filter_le _ _) (by simp)
section
variable {nodes : List S40} {links : List S74} (G : Good nodes links)
include G
theorem head_of : ∀ (i : Nat),i < nodes.length → (nodes.getD i z40).f1 = true → ∃ h,h ≤ i ∧ Head nodes (adjQ wqOf nodes links) h ∧ Rch (adjQ wqOf nodes links) h i := by
  intro i
  induction i using Nat.strongRecOn with
  | ind i ih =>
    intro hi hu
    by_cases hex : ∃ p,p < i ∧ Rch (adjQ wqOf nodes links) i p
    · obtain ⟨p,hp,hr⟩ := hex
      obtain ⟨u1,u2⟩ := up_reach G hi hu hr
      obtain ⟨h,h1,h2,h3⟩ := ih p hp u1 u2
      exact ⟨h,by omega,h2,h3.trans (hr.symm (sym_adj G))⟩
    exact ⟨i,Nat.le_refl _,⟨hu,fun p hp hr => hex ⟨p,hp,hr⟩⟩,Rch.refl _ _⟩
theorem head_old {i : Nat} (hi : i < nodes.length) : Head nodes (adjQ wqOf nodes links) i ↔ (nodes.getD i z40).f1 = true ∧ ¬ Old nodes (adjQ wqOf nodes links) i i := by
  constructor
  · intro h
    refine ⟨h.1,?_⟩
    rintro ⟨h',h1,h2,h3⟩
    exact h.2 h' h1 (h3.symm (sym_adj G))
  rintro ⟨hu,hno⟩
  obtain ⟨h,h1,h2,h3⟩ := head_of G i hi hu
  rcases Nat.eq_or_lt_of_le h1 with h4 | h4
  · rw [h4] at h2
    exact h2
  exact absurd ⟨h,h4,h2,h3⟩ hno
theorem old_apart {i : Nat} (hh : Head nodes (adjQ wqOf nodes links) i) (p : Nat) (hr : Rch (adjQ wqOf nodes links) i p) : ¬ Old nodes (adjQ wqOf nodes links) i p := by
  rintro ⟨h,h1,h2,h3⟩
  exact hh.2 h h1 (hr.trans (h3.symm (sym_adj G)))
theorem old_skip {i : Nat} (hh : ¬ Head nodes (adjQ wqOf nodes links) i) (p : Nat) : Old nodes (adjQ wqOf nodes links) (i + 1) p ↔ Old nodes (adjQ wqOf nodes links) i p := by
  constructor
  · rintro ⟨h,h1,h2,h3⟩
    rcases Nat.lt_or_ge h i with h4 | h4
    · exact ⟨h,h4,h2,h3⟩
    obtain rfl : h = i := by omega
    exact absurd h2 hh
  rintro ⟨h,h1,h2,h3⟩
  exact ⟨h,by omega,h2,h3⟩
theorem old_head {i : Nat} (hh : Head nodes (adjQ wqOf nodes links) i) (p : Nat) : Old nodes (adjQ wqOf nodes links) (i + 1) p ↔ (Old nodes (adjQ wqOf nodes links) i p ∨ Rch (adjQ wqOf nodes links) i p) := by
  constructor
  · rintro ⟨h,h1,h2,h3⟩
    rcases Nat.lt_or_ge h i with h4 | h4
    · exact Or.inl ⟨h,h4,h2,h3⟩
    obtain rfl : h = i := by omega
    exact Or.inr h3
  rintro (⟨h,h1,h2,h3⟩ | h3)
  · exact ⟨h,by omega,h2,h3⟩
  exact ⟨i,by omega,hh,h3⟩
theorem BInv.start {i : Nat} (hi : i < nodes.length) (hh : Head nodes (adjQ wqOf nodes links) i) {s : List Bool} (hl : s.length = nodes.length) (hs : ∀ p,p < nodes.length → (s.getD p false = true ↔ Old nodes (adjQ wqOf nodes links) i p)) :
    BInv (adjQ wqOf nodes links) nodes.length i (Old nodes (adjQ wqOf nodes links) i) (s.set i true) [i] := by
  refine ⟨by rw [List.length_set];exact hl,by simp,by simp,fun p hp => ?_,fun p hp => ?_⟩
  · rw [List.mem_singleton] at hp
    subst hp
    exact ⟨hi,Rch.refl _ _⟩
  rw [getD_setB s i p true (by rw [hl];exact hi),List.mem_singleton]
  by_cases he : p = i
  · rw [if_pos he]
    exact ⟨fun _ => Or.inr he,fun _ => rfl⟩
  rw [if_neg he,hs p hp]
  exact ⟨Or.inl,fun h => h.resolve_right he⟩
end
end Go.Proofs.Ytmdkcecbklgihaa.PA
