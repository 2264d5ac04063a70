/- Distances go both ways, and are never longer than by way of a third one; what a greater limit changes. Conditions: the graph may be, weights are words. -/
import Derived.Test.YtmdkcecbklgihaaCcGf
namespace Go.Proofs.Ytmdkcecbklgihaa.PA
open Go.RowKit Go.Proofs.YtmdkcecbklgihaaW.PrintWords
open Classical
set_option linter.unusedVariables false
set_option linter.unusedSimpArgs false
inductive Pth (R : Adj) (s : Nat) : Nat → Nat → Prop
  | nil : Pth R s s 0
  | cons {p t : Nat} {e : Nat × Nat} : Pth R s p t → e ∈ R.getD p [] → Pth R s e.1 (e.2 + t)
theorem Pth.trans {R : Adj} {a b c t u : Nat} (h : Pth R a b t) (k : Pth R b c u) : Pth R a c (t + u) := by
  induction k with
  | nil => exact h
  | cons h1 h2 ih =>
    rename_i t' e
    have := Pth.cons ih h2
    rwa [show e.2 + (t + t') = t + (e.2 + t') from by omega] at this
def Sym (R : Adj) : Prop := ∀ p e,e ∈ R.getD p [] → (p,e.2) ∈ R.getD e.1 []
theorem Pth.symm {R : Adj} (hS : Sym R) {s p t : Nat} (h : Pth R s p t) : Pth R p s t := by
  induction h with
  | nil => exact .nil
  | cons h1 h2 ih =>
    have h3 := Pth.cons (Pth.nil (R := R)) (hS _ _ h2)
    have h4 := h3.trans ih
    simpa using h4
theorem sym_adj {nodes : List S40} {links : List S74} (G : Good nodes links) : Sym (adjQ wqOf nodes links) := by
  intro p e he
  obtain ⟨l,hl,h1,h2⟩ := (mem_adjQ wqOf nodes links G.ends p e).1 he
  refine (mem_adjQ wqOf nodes links G.ends _ _).2 ⟨l,hl,h1,?_⟩
  rcases h2 with ⟨rfl,rfl⟩ | ⟨rfl,rfl⟩
  · exact Or.inr ⟨rfl,rfl⟩
  exact Or.inl ⟨rfl,rfl⟩
section
variable {nodes : List S40} {links : List S74} (G : Good nodes links) (hF : Fits links) {M s : Nat} (h4 : 4 ≤ M) (hM : M ≤ 4294967296) (hs : s < nodes.length)
include G hF h4 hM hs
theorem dQ_len : (dQ nodes links M s).length = nodes.length := (dQ_tells G hF h4 hM hs).len
theorem dQ_le (p : Nat) : (dQ nodes links M s).getD p 0 ≤ M := (dQ_tells G hF h4 hM hs).le p
end
end Go.Proofs.Ytmdkcecbklgihaa.PA
