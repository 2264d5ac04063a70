/- ident.Draw: which of some routers keeps a name. No condition but that the routers lie in memory. -/
import Derived.Test.YtlpmblcdafdfdaaYyGn
import Derived.Test.YtlpmblcdafdfdaaYySh
import Derived.Test.YtlpmblcdafdfdaaYyMq
import Derived.WalkLawsBesides
import Derived.WalkSpells
import Derived.Outline
namespace Go.Proofs.Ytlpmblcdafdfdaa.PA
open Go.Shelf Go.RowKit Go.Lib Go.Sort Go.Proofs.YtlpmblcdafdfdaaW.PrintWords Go.Proofs.YtlpmblcdafdfdaaW.PrintLast Go.Proofs.YtlpmblcdafdfdaaW.PrintMore
set_option linter.unusedVariables false
set_option linter.unusedSimpArgs false
theorem below_rowPut {α : Type} [Inhabited α] {enc : α → Value} {B : Nat} {w0 w : World} {g q o : Nat} {d : Array α} (h : Below B w0 w) (hg : B ≤ g) : Below B w0 (putRow enc (Sort.ahead w q) g o d) :=
  ⟨h.os,h.tape,h.output,by simpa [putRow,mapBlock,Sort.ahead] using h.size,fun k hk => by
    rw [← h.block k hk]
    simp [putRow,mapBlock,Sort.ahead,Array.getElem?_modify,show g ≠ k by omega]⟩
theorem below_more (w : World) (os : Array Obj) : Below w.heap.size w (grow w os) :=
  ⟨rfl,rfl,rfl,by show w.heap.size ≤ (w.heap ++ os).size;rw [Array.size_append];omega,fun j hj => heap_grow_old w os hj⟩
def HeldAt (w : World) (base : Nat) (A : Option Addr) (l : List Int) : Prop := 0 < l.length → ∃ g,A = some ⟨g,0,none⟩ ∧ base ≤ g ∧ g < w.heap.size ∧ Holds (Value.int .i64) w g 0 l.toArray
theorem HeldAt.below {w w1 : World} {base : Nat} {A : Option Addr} {l : List Int} (h : HeldAt w base A l) (hb : Below w.heap.size w w1) : HeldAt w1 base A l := fun hn => by
  obtain ⟨g,e,h1,h2,h3⟩ := h hn
  refine ⟨g,e,h1,Nat.lt_of_lt_of_le h2 hb.size,fun j hj => ?_⟩
  obtain ⟨h4,h5⟩ := h3 j hj
  exact ⟨(hb.cell (p := ⟨g,0 + j,none⟩) h2).trans h4,(hb.frozen (p := ⟨g,0 + j,none⟩) h2).trans h5⟩
theorem HeldAt.lt {w : World} {base : Nat} {A : Option Addr} {l : List Int} (h : HeldAt w base A l) (hn : 0 < l.length) : ∀ g,A = some ⟨g,0,none⟩ → g < w.heap.size := fun g e => by
  obtain ⟨g',e',h1,h2,h3⟩ := h hn
  rw [e] at e'
  cases e'
  exact h2
theorem HeldAt.C {w : World} {base : Nat} {A : Option Addr} {l : List Int} (h : HeldAt w base A l) (hn : 0 < l.length) : ∃ g,A = some ⟨g,0,none⟩ ∧ w.cell? ⟨g,0,none⟩ = some (.int .i64 (l.getD 0 0)) := by
  obtain ⟨g,e,h1,h2,h3⟩ := h hn
  refine ⟨g,e,?_⟩
  have := (h3 0 (by simpa using hn)).1
  rw [this]
  simp [getElem!_def,List.getD_eq_getElem?_getD,hn]
theorem name_any (s : ByteArray) (W : World) : Calls Try.prog 39 #[.string s] W fun e w' => e = .returned (.int .i64 (nameV s)) ∧ ∃ q,w' = W.drewN q :=
  (ident_CheckName.calls 40 s (nameV s) W (name_tells s 40 (by omega))).mono fun e w' h => ⟨h.1,h.2.out⟩
end Go.Proofs.Ytlpmblcdafdfdaa.PA
