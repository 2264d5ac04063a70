/- Entries, sorted by kind and destination: what the sort leaves. Conditions: kinds and destinations are small, no destination stands twice. -/
import Derived.Test.YtjcnmpkaiopihaaZgPAx3
namespace Go.Proofs.Ytjcnmpkaiopihaa.PA
open Go.Shelf Go.RowKit Go.Lib Go.Sort Go.Proofs.YtjcnmpkaiopihaaW.PrintWords Go.Proofs.YtjcnmpkaiopihaaW.PrintLast Go.Proofs.YtjcnmpkaiopihaaW.PrintMore
set_option linter.unusedVariables false
set_option linter.unusedSimpArgs false
theorem below_rowPut {α : Type} [Inhabited α] {enc : α → Value} {B : Nat} {w0 w : World} {g q o : Nat} {d : Array α} (h : Below B w0 w) (hg : B ≤ g) : Below B w0 (putRow enc (Sort.ahead w q) g o d) :=
  ⟨h.os,h.tape,h.output,by simpa [putRow,mapBlock,Sort.ahead] using h.size,fun k hk => by
    rw [← h.block k hk]
    simp [putRow,mapBlock,Sort.ahead,Array.getElem?_modify,show g ≠ k by omega]⟩
theorem below_more (w : World) (os : Array Obj) : Below w.heap.size w (grow w os) :=
  ⟨rfl,rfl,rfl,by show w.heap.size ≤ (w.heap ++ os).size;rw [Array.size_append];omega,fun j hj => heap_grow_old w os hj⟩
theorem R_turned {α : Type} {d : Kd α} {enc : α → List Value} {e : Nat} (hlen : ∀ x,(enc x).length = d.sz) (hK : ∀ w x cs,d.K w x cs → cs = enc x) (hM : ∀ w base ok x,d.M w base ok x (enc x)) {w w' : World} {base : Nat} {ok : Nat → Prop} {g cap : Nat} {P Q : List α}
    (h : d.R e w base ok (.slice (some ⟨g,0,none⟩) P.length cap) P) (hl : Q.length = P.length)
    (hblk : ∀ cells,w.heap[g]? = some (.cells cells e (0,0)) → ∃ cells',w'.heap[g]? = some (.cells cells' e (0,0)) ∧ cells'.size = cells.size)
    (hC : d.C w' (some ⟨g,0,none⟩) Q.length Q) : d.R e w' base ok (.slice (some ⟨g,0,none⟩) Q.length cap) Q := by
  obtain ⟨h0,inner,⟨hil,hq⟩,hr⟩ := h
  rcases hq with ⟨h1,_⟩ | ⟨g',cap',cur,he,hb,hh,hnc,hcm,hcs,ht⟩
  · injection h1 with h1
    cases h1
  injection he with h1 h2 h3
  injection h1 with h1
  injection h1 with h1
  subst h1 h3
  obtain ⟨cells',hh',hs'⟩ := hblk cur hh
  have hle : Q.length * d.sz ≤ cells'.size := by
    rw [hs',hcs,hl]
    exact Nat.mul_le_mul_right _ hnc
  have hle2 : (cells'.toList.take (Q.length * d.sz)).length = Q.length * d.sz := by
    rw [List.length_take,Nat.min_eq_left (by simpa using hle)]
  refine ⟨h0,cells'.toList.take (Q.length * d.sz),⟨hle2,.inr ⟨g,cap,cells',rfl,hb,hh',by rw [hl];exact hnc,hcm,by rw [hs',hcs],rfl⟩⟩,hle2,fun j p hj => ?_⟩
  have hjl := (List.getElem?_eq_some_iff.1 hj).1
  obtain ⟨_,_,hrow⟩ := hC
  obtain ⟨ad,e1,hrow⟩ := hrow (by omega)
  cases e1
  obtain ⟨c,hcl,hKc,hcell⟩ := hrow j p hj
  have hce := hK _ _ _ hKc
  have hjs : j * d.sz + d.sz ≤ Q.length * d.sz := by rw [← Nat.succ_mul];exact Nat.mul_le_mul_right _ hjl
  have heq : ((cells'.toList.take (Q.length * d.sz)).drop (j * d.sz)).take d.sz = enc p := by
    apply List.ext_getElem?
    intro t
    rw [List.getElem?_take,List.getElem?_drop,List.getElem?_take]
    by_cases ht2 : t < d.sz
    · rw [if_pos ht2,if_pos (by omega)]
      have htc : t < c.length := by omega
      have h5 := hcell t _ (List.getElem?_eq_getElem htc)
      have e5 : (⟨g,0,none⟩ : Addr).add (j * d.sz + t) = ⟨g,j * d.sz + t,none⟩ := by
        unfold Addr.add
        by_cases h6 : j * d.sz + t = 0
        · rw [if_pos h6,h6]
        rw [if_neg h6]
        simp
      rw [e5,blk_cell hh'] at h5
      rw [Array.getElem?_toList,h5,← hce,List.getElem?_eq_getElem htc]
    rw [if_neg ht2,List.getElem?_eq_none (by rw [hlen];omega)]
  rw [heq]
  exact hM _ _ _ _
theorem sortBlock {α : Type} [Inhabited α] {encK : α → List Value} {k n o : Nat} {w : World} {g : Nat} {d' : Array α} {os : Array Obj} {e : Nat} (hg : g < w.heap.size) : ∀ cells,w.heap[g]? = some (.cells cells e (0,0)) → ∃ cells',(sortWorldK encK k w g o n d' os).heap[g]? = some (.cells cells' e (0,0)) ∧ cells'.size = cells.size := by
  intro cells h
  unfold sortWorldK putRowK
  rw [heap_grow_old _ os (by simpa [putRow,mapBlock,Sort.ahead] using hg)]
  have h2 : (Sort.ahead w n).heap[g]? = some (.cells cells e (0,0)) := h
  refine ⟨putCells id o (flatK encK k d') cells,?_,by unfold putCells;simp⟩
  show ((Sort.ahead w n).heap.modify g (onCells (putCells id o (flatK encK k d'))))[g]? = _
  rw [Array.getElem?_modify,if_pos rfl,h2]
  rfl
end Go.Proofs.Ytjcnmpkaiopihaa.PA
