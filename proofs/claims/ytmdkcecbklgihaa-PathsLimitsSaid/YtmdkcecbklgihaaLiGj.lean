/- Distances go both ways, and are never longer than by way of a third one; what a greater limit changes. Conditions: the graph may be, weights are words. -/
import Derived.Test.YtmdkcecbklgihaaCGf
namespace Go.Proofs.Ytmdkcecbklgihaa.PA
open Go.RowKit Go.Proofs.YtmdkcecbklgihaaW.PrintWords
open Classical
set_option linter.unusedVariables false
set_option linter.unusedSimpArgs false
inductive Pth (R : Adj) (s : Nat) : Nat → Nat → Prop
  | nil : Pth R s s 0
  | cons {p t : Nat} {e : Nat × Nat} : Pth R s p t → e ∈ R.getD p [] → Pth R s e.1 (e.2 + t)
theorem Walk.pth {R : Adj} {M s p t : Nat} (h : Walk R M s p t) : Pth R s p t := by
  induction h with
  | nil => exact .nil
  | cons h1 h2 h3 ih => exact .cons ih h2
theorem Pth.walk {R : Adj} {M s p t : Nat} (h : Pth R s p t) (ht : t < M) : Walk R M s p t := by
  induction h with
  | nil => exact .nil
  | cons h1 h2 ih => exact .cons (ih (by omega)) h2 ht
theorem Pth.trans {R : Adj} {a b c t u : Nat} (h : Pth R a b t) (k : Pth R b c u) : Pth R a c (t + u) := by
  induction k with
  | nil => exact h
  | cons h1 h2 ih =>
    rename_i t' e
    have := Pth.cons ih h2
    rwa [show e.2 + (t + t') = t + (e.2 + t') from by omega] at this
def Sym (R : Adj) : Prop := ∀ p e,e ∈ R.getD p [] → (p,e.2) ∈ R.getD e.1 []
theorem Pth.symm {R : Adj} (hS : Sym R) {s p t : Nat} (h : Pth R s p t) : Pth R p s t := by
  induction h with
  | nil => exact .nil
  | cons h1 h2 ih =>
    have h3 := Pth.cons (Pth.nil (R := R)) (hS _ _ h2)
    have h4 := h3.trans ih
    simpa using h4
section
variable {nodes : List S40} {links : List S74} (G : Good nodes links) (hF : Fits links) {M s : Nat} (h4 : 4 ≤ M) (hM : M ≤ 4294967296) (hs : s < nodes.length)
include G hF h4 hM hs
theorem dQ_len : (dQ nodes links M s).length = nodes.length := (dQ_tells G hF h4 hM hs).len
theorem dQ_le (p : Nat) : (dQ nodes links M s).getD p 0 ≤ M := (dQ_tells G hF h4 hM hs).le p
theorem dQ_up {p : Nat} (hp : p < nodes.length) (h : (dQ nodes links M s).getD p 0 < M) : (nodes.getD p z40).f1 = true ∧ (nodes.getD s z40).f1 = true := (dQ_tells G hF h4 hM hs).up (G.pass hF h4 hM hs) hp h
theorem dQ_is (hup : (nodes.getD s z40).f1 = true) : IsDist (adjQ wqOf nodes links) M s nodes.length (dQ nodes links M s) := by
  rcases dQ_tells G hF h4 hM hs with ⟨_,h⟩ | ⟨h,_⟩
  · exact h
  · rw [hup] at h
    cases h
theorem dQ_pth {p : Nat} (hp : p < nodes.length) (h : (dQ nodes links M s).getD p 0 < M) : Pth (adjQ wqOf nodes links) s p ((dQ nodes links M s).getD p 0) :=
  ((dQ_is G hF h4 hM hs (dQ_up G hF h4 hM hs hp h).2).wk p hp h).pth
theorem dQ_le_pth (hup : (nodes.getD s z40).f1 = true) {p t : Nat} (h : Pth (adjQ wqOf nodes links) s p t) : (dQ nodes links M s).getD p 0 ≤ t := by
  rcases Nat.lt_or_ge t M with h1 | h1
  · have P := G.pass hF h4 hM hs
    exact (dQ_is G hF h4 hM hs hup).le_walk (adjQ_wf wqOf 4194304 nodes links P.ends P.wts) hs (h.walk h1)
  · exact Nat.le_trans (dQ_le G hF h4 hM hs p) h1
theorem dQ_more {M' : Nat} (hMM : M ≤ M') (hM' : M' ≤ 4294967296) {p : Nat} (hp : p < nodes.length) : ((dQ nodes links M s).getD p 0 < M → (dQ nodes links M' s).getD p 0 = (dQ nodes links M s).getD p 0) ∧ ((dQ nodes links M' s).getD p 0 < M → (dQ nodes links M s).getD p 0 < M) := by
  have h4' : 4 ≤ M' := by omega
  have key : (dQ nodes links M' s).getD p 0 < M → (dQ nodes links M s).getD p 0 ≤ (dQ nodes links M' s).getD p 0 := by
    intro h
    have hu := dQ_up G hF h4' hM' hs hp (by omega)
    exact dQ_le_pth G hF h4 hM hs hu.2 (dQ_pth G hF h4' hM' hs hp (by omega))
  refine ⟨fun h => ?_,fun h => by have := key h;omega⟩
  have hu := dQ_up G hF h4 hM hs hp h
  have h1 := dQ_le_pth G hF h4' hM' hs hu.2 (dQ_pth G hF h4 hM hs hp h)
  have h2 := key (by omega)
  omega
end
end Go.Proofs.Ytmdkcecbklgihaa.PA
