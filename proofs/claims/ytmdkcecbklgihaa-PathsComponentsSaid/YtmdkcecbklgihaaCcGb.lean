/- Who is linked with whom: the rows that checked lays, told link by link. Condition: the links' ends are there, their weights are quarters. -/
import Derived.Test.YtmdkcecbklgihaaCcHc
import Derived.Test.YtmdkcecbklgihaaCcFm
namespace Go.Proofs.Ytmdkcecbklgihaa.PA
open Go.RowKit Go.Proofs.YtmdkcecbklgihaaW.PrintWords
set_option linter.unusedVariables false
set_option linter.unusedSimpArgs false
def live (nodes : List S40) (l : S74) : Prop := l.f3 = true ∧ (nodes.getD (plc nodes l.f0) z40).f1 = true ∧ (nodes.getD (plc nodes l.f1) z40).f1 = true
def Says (nodes : List S40) (l : S74) (p : Nat) (x : S81) : Prop := live nodes l ∧ ((plc nodes l.f0 = p ∧ x = ⟨(plc nodes l.f1 : Nat),l.f2⟩) ∨ (plc nodes l.f1 = p ∧ x = ⟨(plc nodes l.f0 : Nat),l.f2⟩))
theorem mem_push (adj : List (List S81)) (i p : Nat) (y x : S81) (hi : i < adj.length) : x ∈ (adj.set i (adj.getD i [] ++ [y])).getD p [] ↔ x ∈ adj.getD p [] ∨ (i = p ∧ x = y) := by
  by_cases h : i = p
  · subst h
    have : (adj.set i (adj.getD i [] ++ [y])).getD i [] = adj.getD i [] ++ [y] := by simp [List.getD_eq_getElem?_getD,hi]
    rw [this]
    simp
  have : (adj.set i (adj.getD i [] ++ [y])).getD p [] = adj.getD p [] := by simp [List.getD_eq_getElem?_getD,h]
  rw [this]
  simp [h]
theorem mem_step (nodes : List S40) (adj : List (List S81)) (l : S74) (p : Nat) (x : S81) (h0 : plc nodes l.f0 < adj.length) (h1 : plc nodes l.f1 < adj.length) : x ∈ (adjStep nodes adj l).getD p [] ↔ x ∈ adj.getD p [] ∨ Says nodes l p x := by
  unfold adjStep Says live
  by_cases h : l.f3 = true ∧ (nodes.getD (plc nodes l.f0) z40).f1 = true ∧ (nodes.getD (plc nodes l.f1) z40).f1 = true
  · rw [if_pos h]
    dsimp only
    rw [mem_push _ _ _ _ _ (by rw [List.length_set];exact h1),mem_push _ _ _ _ _ h0,or_assoc]
    simp only [h,true_and]
  rw [if_neg h]
  simp only [h,false_and,or_false]
theorem mem_foldl (nodes : List S40) (p : Nat) (x : S81) : ∀ (links : List S74) (adj : List (List S81)),adj.length = nodes.length → (∀ l ∈ links,plc nodes l.f0 < nodes.length ∧ plc nodes l.f1 < nodes.length) →
    (x ∈ (links.foldl (adjStep nodes) adj).getD p [] ↔ x ∈ adj.getD p [] ∨ ∃ l,l ∈ links ∧ Says nodes l p x)
  | [],adj,hl,h => by simp
  | l :: links,adj,hl,h => by
    have h2 := h l (List.mem_cons_self ..)
    rw [List.foldl_cons,mem_foldl nodes p x links (adjStep nodes adj l) (by rw [adjStep_len,hl]) (fun l' hl' => h l' (List.mem_cons_of_mem _ hl')),mem_step nodes adj l p x (by omega) (by omega),or_assoc]
    constructor
    · rintro (h3 | h3 | ⟨l',h3,h4⟩)
      · exact Or.inl h3
      · exact Or.inr ⟨l,List.mem_cons_self ..,h3⟩
      exact Or.inr ⟨l',List.mem_cons_of_mem _ h3,h4⟩
    rintro (h3 | ⟨l',h3,h4⟩)
    · exact Or.inl h3
    rcases List.mem_cons.1 h3 with rfl | h5
    · exact Or.inr (Or.inl h4)
    exact Or.inr (Or.inr ⟨l',h5,h4⟩)
theorem mem_adjB (nodes : List S40) (links : List S74) (h : ∀ l ∈ links,plc nodes l.f0 < nodes.length ∧ plc nodes l.f1 < nodes.length) (p : Nat) (x : S81) : x ∈ (adjB nodes links).getD p [] ↔ ∃ l,l ∈ links ∧ Says nodes l p x := by
  unfold adjB
  rw [mem_foldl nodes p x links _ (by simp) h]
  have : (List.replicate nodes.length ([] : List S81)).getD p [] = [] := by
    simp only [List.getD_eq_getElem?_getD,List.getElem?_replicate]
    split <;> rfl
  rw [this]
  simp
def adjQ (wq : Nat → Nat) (nodes : List S40) (links : List S74) : Adj := (adjB nodes links).map fun row => row.map fun x => (x.f0.toNat,wq x.f1)
def Weights (wq : Nat → Nat) (W : Nat) (links : List S74) : Prop := ∀ l ∈ links,bq (wq l.f2) = l.f2 ∧ 1 ≤ wq l.f2 ∧ wq l.f2 ≤ W
theorem adjQ_getD (wq : Nat → Nat) (nodes : List S40) (links : List S74) (p : Nat) : (adjQ wq nodes links).getD p [] = ((adjB nodes links).getD p []).map fun x => (x.f0.toNat,wq x.f1) := by
  unfold adjQ
  simp only [List.getD_eq_getElem?_getD,List.getElem?_map]
  cases (adjB nodes links)[p]? <;> simp
theorem adjQ_rows (wq : Nat → Nat) (W : Nat) (nodes : List S40) (links : List S74) (h : ∀ l ∈ links,plc nodes l.f0 < nodes.length ∧ plc nodes l.f1 < nodes.length) (hw : Weights wq W links) : adjB nodes links = (adjQ wq nodes links).map (rowOf bq) := by
  unfold adjQ
  rw [List.map_map]
  conv => lhs;rw [← List.map_id (adjB nodes links)]
  apply List.map_congr_left
  intro row hrow
  obtain ⟨p,hp⟩ := List.getElem?_of_mem hrow
  have hg : (adjB nodes links).getD p [] = row := by simp [List.getD_eq_getElem?_getD,hp]
  show row = rowOf bq (row.map fun x => (x.f0.toNat,wq x.f1))
  unfold rowOf
  rw [List.map_map]
  conv => lhs;rw [← List.map_id row]
  apply List.map_congr_left
  intro x hx
  rw [← hg] at hx
  obtain ⟨l,hl,_,h2⟩ := (mem_adjB nodes links h p x).1 hx
  obtain ⟨w1,_,_⟩ := hw l hl
  rcases h2 with ⟨_,rfl⟩ | ⟨_,rfl⟩
  · show (⟨_,_⟩ : S81) = ⟨_,_⟩
    simp [w1]
  show (⟨_,_⟩ : S81) = ⟨_,_⟩
  simp [w1]
def SaysQ (wq : Nat → Nat) (nodes : List S40) (l : S74) (p : Nat) (e : Nat × Nat) : Prop := live nodes l ∧ ((plc nodes l.f0 = p ∧ e = (plc nodes l.f1,wq l.f2)) ∨ (plc nodes l.f1 = p ∧ e = (plc nodes l.f0,wq l.f2)))
theorem mem_adjQ (wq : Nat → Nat) (nodes : List S40) (links : List S74) (h : ∀ l ∈ links,plc nodes l.f0 < nodes.length ∧ plc nodes l.f1 < nodes.length) (p : Nat) (e : Nat × Nat) : e ∈ (adjQ wq nodes links).getD p [] ↔ ∃ l,l ∈ links ∧ SaysQ wq nodes l p e := by
  rw [adjQ_getD,List.mem_map]
  constructor
  · rintro ⟨x,hx,rfl⟩
    obtain ⟨l,hl,h1,h2⟩ := (mem_adjB nodes links h p x).1 hx
    refine ⟨l,hl,h1,?_⟩
    rcases h2 with ⟨h2,rfl⟩ | ⟨h2,rfl⟩
    · exact Or.inl ⟨h2,by simp⟩
    exact Or.inr ⟨h2,by simp⟩
  rintro ⟨l,hl,h1,h2⟩
  rcases h2 with ⟨h2,rfl⟩ | ⟨h2,rfl⟩
  · exact ⟨⟨(plc nodes l.f1 : Nat),l.f2⟩,(mem_adjB nodes links h p _).2 ⟨l,hl,h1,Or.inl ⟨h2,rfl⟩⟩,by simp⟩
  exact ⟨⟨(plc nodes l.f0 : Nat),l.f2⟩,(mem_adjB nodes links h p _).2 ⟨l,hl,h1,Or.inr ⟨h2,rfl⟩⟩,by simp⟩
theorem adjQ_wf (wq : Nat → Nat) (W : Nat) (nodes : List S40) (links : List S74) (h : ∀ l ∈ links,plc nodes l.f0 < nodes.length ∧ plc nodes l.f1 < nodes.length) (hw : Weights wq W links) : Wf (adjQ wq nodes links) nodes.length := by
  refine ⟨by unfold adjQ;rw [List.length_map,adjB_len],fun p e he => ?_⟩
  obtain ⟨l,hl,_,h2⟩ := (mem_adjQ wq nodes links h p e).1 he
  obtain ⟨h3,h4⟩ := h l hl
  obtain ⟨_,h5,_⟩ := hw l hl
  rcases h2 with ⟨_,rfl⟩ | ⟨_,rfl⟩
  · exact ⟨h4,h5⟩
  exact ⟨h3,h5⟩
theorem adjQ_le (wq : Nat → Nat) (W : Nat) (nodes : List S40) (links : List S74) (h : ∀ l ∈ links,plc nodes l.f0 < nodes.length ∧ plc nodes l.f1 < nodes.length) (hw : Weights wq W links) (p : Nat) (e : Nat × Nat) (he : e ∈ (adjQ wq nodes links).getD p []) : e.2 ≤ W := by
  obtain ⟨l,hl,_,h2⟩ := (mem_adjQ wq nodes links h p e).1 he
  obtain ⟨_,_,h5⟩ := hw l hl
  rcases h2 with ⟨_,rfl⟩ | ⟨_,rfl⟩ <;> exact h5
end Go.Proofs.Ytmdkcecbklgihaa.PA
