/- ident.Draw: which of some routers keeps a name. No condition but that the routers lie in memory. -/
import Derived.Test.YtlpmblcdafdfdaaNoGn
import Derived.Shelf.SlSortCmp.NoneTotal
import Derived.Shelf.SlicesE.IndexFunc
import Derived.Shelf.Slices.Clone
import Derived.Ground.SlsfProg
import Derived.Ground.SlgfProg
import Derived.Ground.Names2Prog
import Derived.Test.YtlpmblcdafdfdaaProg
import Derived.Test.YtlpmblcdafdfdaaNoMq
import Derived.WalkLawsBesides
import Derived.WalkSpells
import Derived.Outline
namespace Go.Proofs.Ytlpmblcdafdfdaa.PA
open Go.Shelf Go.RowKit Go.Lib Go.Sort Go.Proofs.YtlpmblcdafdfdaaW.PrintWords Go.Proofs.YtlpmblcdafdfdaaW.PrintLast Go.Proofs.YtlpmblcdafdfdaaW.PrintMore
set_option linter.unusedVariables false
set_option linter.unusedSimpArgs false
def HeldAt (w : World) (base : Nat) (A : Option Addr) (l : List Int) : Prop := 0 < l.length → ∃ g,A = some ⟨g,0,none⟩ ∧ base ≤ g ∧ g < w.heap.size ∧ Holds (Value.int .i64) w g 0 l.toArray
theorem HeldAt.below {w w1 : World} {base : Nat} {A : Option Addr} {l : List Int} (h : HeldAt w base A l) (hb : Below w.heap.size w w1) : HeldAt w1 base A l := fun hn => by
  obtain ⟨g,e,h1,h2,h3⟩ := h hn
  refine ⟨g,e,h1,Nat.lt_of_lt_of_le h2 hb.size,fun j hj => ?_⟩
  obtain ⟨h4,h5⟩ := h3 j hj
  exact ⟨(hb.cell (p := ⟨g,0 + j,none⟩) h2).trans h4,(hb.frozen (p := ⟨g,0 + j,none⟩) h2).trans h5⟩
theorem HeldAt.C {w : World} {base : Nat} {A : Option Addr} {l : List Int} (h : HeldAt w base A l) (hn : 0 < l.length) : ∃ g,A = some ⟨g,0,none⟩ ∧ w.cell? ⟨g,0,none⟩ = some (.int .i64 (l.getD 0 0)) := by
  obtain ⟨g,e,h1,h2,h3⟩ := h hn
  refine ⟨g,e,?_⟩
  have := (h3 0 (by simpa using hn)).1
  rw [this]
  simp [getElem!_def,List.getD_eq_getElem?_getD,hn]
theorem name_any (s : ByteArray) (W : World) : Calls Try.prog 39 #[.string s] W fun e w' => e = .returned (.int .i64 (nameV s)) ∧ ∃ q,w' = W.drewN q :=
  (ident_CheckName.calls 40 s (nameV s) W (name_tells s 40 (by omega))).mono fun e w' h => ⟨h.1,h.2.out⟩
end Go.Proofs.Ytlpmblcdafdfdaa.PA
