/- A range over a map in memory, a deletion, a clearing and its length, over the list of its keys and values. No condition but those that each theorem names. -/
import Derived.Test.YtjcnmpkaiopihaaZmMp
import Derived.Maps.RangeWalk
namespace Go.Proofs.YtjcnmpkaiopihaaW.PrintWords
open Go.RowKit Go.MapKept
set_option linter.unusedVariables false
set_option linter.unusedSimpArgs false
set_option linter.unusedSectionVars false
section
variable {κ : Type} [DecidableEq κ] {P : Program} {kt : TypeId} {d : TypeDesc} {enc : κ → Value}
def Ranging (w : World) (r b : Nat) (enc : κ → Value) (m left : List (κ × Value)) : Prop :=
  ∃ es clock since seen c0,w.heap[b]? = some (.map es clock) ∧ Tells enc es.toList m ∧ (es.toList.map (·.born)).Nodup ∧ (∀ e ∈ es.toList,e.born < since) ∧ since ≤ c0 ∧ since ≤ clock ∧
    w.heap[r]? = some (.mapIter (some b) since seen c0) ∧ Tells enc (es.toList.filter fun e => !seen.contains e.born) left
variable {w : World} {b r t et : Nat} {m left : List (κ × Value)}
theorem Ranging.grown {w' : World} {row : Option Nat} (h : Ranging w r b enc m left) (hg : w.grownBy w' row) (h1 : some b ≠ row) (h2 : some r ≠ row) : Ranging w' r b enc m left := by
  obtain ⟨es,clock,since,seen,c0,hb,hT,hbn,hold,hsc,hsk,hr,hL⟩ := h
  exact ⟨es,clock,since,seen,c0,(hg.block b (Array.getElem?_eq_some_iff.1 hb).1 h1).trans hb,hT,hbn,hold,hsc,hsk,(hg.block r (Array.getElem?_eq_some_iff.1 hr).1 h2).trans hr,hL⟩
theorem Ranging.below {w' : World} (h : Ranging w r b enc m left) (hb : Below w.heap.size w w') : Ranging w' r b enc m left := h.grown (grown_of_below hb none) (by simp) (by simp)
theorem Ranging.lt (h : Ranging w r b enc m left) : r < w.heap.size := by
  obtain ⟨es,clock,since,seen,c0,hb,hT,hbn,hold,hsc,hsk,hr,hL⟩ := h
  exact (Array.getElem?_eq_some_iff.1 hr).1
end
section
variable {κ : Type} [DecidableEq κ] {P : Program} {kt : TypeId} {d : TypeDesc} {enc : κ → Value} {ops : Array Oper} {rest : List Oper} {o : Oper} {a : Act} {Q : Exit → Act → World → Prop} {W : World} {b r t et : Nat} {mm left : List (κ × Value)}
end
end Go.Proofs.YtjcnmpkaiopihaaW.PrintWords
