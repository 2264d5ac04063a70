/- Who keeps a name, in plain terms: the document's Draw is drawV. Conditions: lists of fewer than 2^63 routers. -/
import Derived.Test.YtlpmblcdafdfdaaAnDr
import Derived.Test.YtlpmblcdafdfdaaAcPAx0
import Derived.Test.YtlpmblcdafdfdaaAnPAx13
namespace Go.Proofs.Ytlpmblcdafdfdaa.PA
open Go.RowKit Go.Proofs.YtlpmblcdafdfdaaW.PrintWords Go.Proofs.YtlpmblcdafdfdaaW.PrintLast Go.Proofs.YtlpmblcdafdfdaaW.PrintMore
set_option linter.unusedVariables false
set_option linter.unusedSimpArgs false
section
variable (ah : Int → Int → Bool)
variable (tr : ∀ x y z,ah x y = false → ah y z = false → ah x z = false) (asy : ∀ x y,ah x y = true → ah y x = false) (slf : ∀ x,ah x x = false)
include tr asy slf
theorem sort_head (l : List Int) (hn : 0 < l.length) : (l.mergeSort fun x y => !(ah y x)).getD 0 0 ∈ l ∧ ∀ y ∈ l,ah y ((l.mergeSort fun x y => !(ah y x)).getD 0 0) = false := by
  have hp : List.Perm (l.mergeSort fun x y => !(ah y x)) l := List.mergeSort_perm l _
  have hs : List.Pairwise (fun x y => (!(ah y x)) = true) (l.mergeSort fun x y => !(ah y x)) := List.pairwise_mergeSort (le := fun x y => !(ah y x)) (fun a b c h1 h2 => by
    simp only [Bool.not_eq_true'] at *
    exact tr _ _ _ h2 h1) (fun a b => by
    cases h : ah b a
    · simp
    · simp [asy _ _ h]) l
  cases ho : l.mergeSort fun x y => !(ah y x) with
  | nil =>
    have := List.length_mergeSort (le := fun x y => !(ah y x)) l
    rw [ho] at this
    simp at this
    omega
  | cons x r =>
    rw [ho] at hp hs
    have hs' := List.pairwise_cons.1 hs
    refine ⟨?_,fun y hy => ?_⟩
    · show x ∈ l
      exact hp.mem_iff.1 (by simp)
    · show ah y x = false
      rcases List.mem_cons.1 (hp.mem_iff.2 hy) with rfl | h
      · exact slf y
      · simpa using hs'.1 y h
end
theorem ahead_trans {s : Int} (x y z : Int) (h1 : aheadV s x y = false) (h2 : aheadV s y z = false) : aheadV s x z = false := by rw [aheadV_no] at *;omega
theorem ahead_asym {s : Int} (x y : Int) (h1 : aheadV s x y = true) : aheadV s y x = false := by rw [aheadV_iff] at h1;rw [aheadV_no];omega
theorem ahead_self (s x : Int) : aheadV s x x = false := by rw [aheadV_no];omega
end Go.Proofs.Ytlpmblcdafdfdaa.PA
