/- Within paths.checked: an element appended to one of the net's rows. No condition but those each theorem names. -/
import Derived.Test.YtmdkcecbklgihaaCcHc
namespace Go.Proofs.Ytmdkcecbklgihaa.PA
open Go.RowKit Go.Proofs.YtmdkcecbklgihaaW.PrintWords Go.Proofs.YtmdkcecbklgihaaW.PrintLast Go.Proofs.YtmdkcecbklgihaaW.PrintMore
set_option linter.unusedVariables false
set_option linter.unusedSimpArgs false
def CheckedOut (e : Int) (nodes : List S40) (links : List S74) (mx : Nat) (ids : List Int) (w : World) (x : Ending) (w' : World) : Prop :=
  (e ≠ 0 ∧ x = .returned (.tuple #[.pointer none,.int .i64 e])) ∨ (e = 0 ∧ (∃ id,id ∈ ids ∧ nodes.length ≤ plc nodes id) ∧ x = .returned (.tuple #[.pointer none,.int .i64 4])) ∨
    (e = 0 ∧ (∀ id,id ∈ ids → plc nodes id < nodes.length) ∧ ∃ g,x = .returned (.tuple #[.pointer (some ⟨g,0,none⟩),.int .i64 0]) ∧ w.heap.size ≤ g ∧ NetAt w' g nodes links mx (adjB nodes links))
theorem getD_setL (rows : List (List S81)) (i p : Nat) (x : List S81) : ((rows.set i x).getD p []).length ≤ max (rows.getD p []).length x.length := by
  simp only [List.getD_eq_getElem?_getD,List.getElem?_set]
  by_cases h : i = p
  · subst h
    by_cases h2 : i < rows.length
    · simp [h2]
      omega
    simp [h2]
  simp [h]
  omega
theorem adjStep_row (nodes : List S40) (adj : List (List S81)) (l : S74) (p N : Nat) (h : ∀ p,(adj.getD p []).length ≤ N) : ((adjStep nodes adj l).getD p []).length ≤ N + 2 := by
  unfold adjStep
  split
  · have h1 : ∀ q,((adj.set (plc nodes l.f0) (adj.getD (plc nodes l.f0) [] ++ [⟨(plc nodes l.f1 : Nat),l.f2⟩])).getD q []).length ≤ N + 1 := by
      intro q
      refine Nat.le_trans (getD_setL _ _ _ _) ?_
      have h2 := h q
      have h3 := h (plc nodes l.f0)
      simp only [List.length_append,List.length_singleton]
      omega
    refine Nat.le_trans (getD_setL _ _ _ _) ?_
    have h2 := h1 p
    have h3 := h1 (plc nodes l.f1)
    simp only [List.length_append,List.length_singleton]
    omega
  have := h p
  omega
theorem foldl_row (nodes : List S40) : ∀ (links : List S74) (adj : List (List S81)) (N : Nat),(∀ p,(adj.getD p []).length ≤ N) → ∀ p,((links.foldl (adjStep nodes) adj).getD p []).length ≤ N + 2 * links.length
  | [],adj,N,h,p => h p
  | l :: links,adj,N,h,p => by
    rw [List.foldl_cons]
    have := foldl_row nodes links (adjStep nodes adj l) (N + 2) (fun q => adjStep_row nodes adj l q N h) p
    simp only [List.length_cons]
    omega
theorem adjB_row (nodes : List S40) (links : List S74) (p : Nat) : ((adjB nodes links).getD p []).length ≤ 2 * links.length := by
  have := foldl_row nodes links (List.replicate nodes.length []) 0 (fun q => by
    simp only [List.getD_eq_getElem?_getD,List.getElem?_replicate]
    split <;> simp) p
  unfold adjB
  omega
theorem three_bools : ∀ a b c : Bool,¬ (a = true ∧ b = true ∧ c = true) → a = false ∨ (a = true ∧ b = false) ∨ (a = true ∧ b = true ∧ c = false) := by decide
theorem map_ne_cells {w : World} {mb b : Nat} {m : List (Int × Value)} {cs : Array Value} {t : TypeId} {fr : Nat × Nat} (h : IsMap w mb (Value.int .i64) m) (hb : w.heap[b]? = some (.cells cs t fr)) : b ≠ mb := by
  rintro rfl
  obtain ⟨es,clock,h1,_⟩ := h
  rw [h1] at hb
  cases hb
theorem Mk.put {w wr w7 : World} {N0 g0 bx mb a3 mx n : Nat} {A0 A1 : Option Addr} {c0 c1 nl : Nat} {m m' : List (Int × Value)} {rows : List (List S81)} (h : Mk w wr N0 g0 bx mb a3 mx n A0 A1 c0 c1 nl m rows) (hm : IsMap w7 mb (Value.int .i64) m') (hg : wr.grownBy w7 (some mb)) : Mk w w7 N0 g0 bx mb a3 mx n A0 A1 c0 c1 nl m' rows := by
  have hrow : ∀ k,(k = a3 ∨ N0 ≤ k) → some k ≠ some mb := by
    intro k hk e
    cases e
    rcases hk with hk | hk
    · obtain ⟨cs,hcs⟩ := Kd.S_typed h.rows a3 rfl
      exact map_ne_cells h.map hcs hk.symm
    have := h.ge
    omega
  refine ⟨blk_grown h.box hg (fun e => map_ne_cells h.map h.box (Option.some.inj e)),blk_grown h.net hg (fun e => map_ne_cells h.map h.net (Option.some.inj e)),hm,Kd.S_grown h.rows hg hrow,?_,Nat.le_trans h.big hg.size,h.ge⟩
  refine ⟨hg.os.trans h.below.os,hg.tape.trans h.below.tape,hg.output.trans h.below.output,Nat.le_trans h.below.size hg.size,fun k hk => (hg.block k (Nat.lt_of_lt_of_le hk h.below.size) ?_).trans (h.below.block k hk)⟩
  intro e
  cases e
  have := h.ge
  omega
theorem Mk.app {w W : World} {N0 g0 bx mb a3 mx n : Nat} {A0 A1 : Option Addr} {c0 c1 nl : Nat} {m : List (Int × Value)} {rows : List (List S81)} (h : Mk w W N0 g0 bx mb a3 mx n A0 A1 c0 c1 nl m rows) (i : Nat) (hi : i < n) {lb : Nat} {cs : Array Value} (hlb : W.heap[lb]? = some (.cells cs 74 (0,0))) :
    ∃ A c okr,W.cell? ⟨a3,i,none⟩ = some (.slice A (rows.getD i []).length c) ∧ W.frozen? ⟨a3,i,none⟩ = false ∧ k81.R 81 W w.heap.size okr (.slice A (rows.getD i []).length c) (rows.getD i []) ∧ (∀ k,W.heap.size ≤ k → okr k) ∧
      ∀ x v1 w1,k81.R 81 w1 w.heap.size okr v1 (rows.getD i [] ++ [x]) → W.grownBy w1 (Value.slice A (rows.getD i []).length c).ownBlock →
        w1.cell? ⟨g0,4,none⟩ = some (.slice (some ⟨a3,0,none⟩) n n) ∧ w1.cell? ⟨a3,i,none⟩ = some (.slice A (rows.getD i []).length c) ∧ w1.frozen? ⟨a3,i,none⟩ = false ∧ Mk w (w1.setCell ⟨a3,i,none⟩ v1) N0 g0 bx mb a3 mx n A0 A1 c0 c1 nl m (rows.set i (rows.getD i [] ++ [x])) ∧ (w1.setCell ⟨a3,i,none⟩ v1).heap[lb]? = some (.cells cs 74 (0,0)) := by
  have hge := h.ge
  have hbig := h.big
  obtain ⟨A,c,okr,hc,hf,hR,hfr,hok,hS⟩ := S_app h.rows (fun k hk => Or.inr (by omega)) i hi
  refine ⟨A,c,okr,hc,hf,hR,hfr,fun x v1 w1 hR1 hg1 => ?_⟩
  obtain ⟨cs3,hcs3⟩ := Kd.S_typed h.rows a3 rfl
  have hown : ∀ k,some k = (Value.slice A (rows.getD i []).length c).ownBlock → N0 ≤ k ∧ k ≠ a3 := by
    intro k hk
    have := hok k (hR.1 k hk.symm)
    rcases this.1 with h1 | h1
    · exact absurd h1 this.2
    exact ⟨h1,this.2⟩
  have hblk : ∀ k,k < W.heap.size → k < N0 → k ≠ a3 → (w1.setCell ⟨a3,i,none⟩ v1).heap[k]? = W.heap[k]? := by
    intro k hk hk0 hk3
    rw [Below.heap_setCell _ _ _ _ hk3]
    refine hg1.block k hk (fun e => ?_)
    have := (hown k e).1
    omega
  have ha3 : w1.heap[a3]? = W.heap[a3]? := hg1.block a3 (blk_lt hcs3) (fun e => (hown a3 e).2 rfl)
  have hne3 : ∀ {b : Nat} {cs : Array Value} {t : TypeId},W.heap[b]? = some (.cells cs t (0,0)) → t ≠ 79 → b ≠ a3 := by
    rintro b cs t hb ht rfl
    rw [hcs3] at hb
    injection hb with hb
    injection hb with _ hb2
    exact ht hb2.symm
  have hS2 := Below.setCell (Below.refl 0 w1) (Nat.zero_le (⟨a3,i,none⟩ : Addr).block) v1
  have hg0 : w1.heap[g0]? = W.heap[g0]? := hg1.block g0 (blk_lt h.net) (fun e => by
    have := (hown g0 e).1
    omega)
  refine ⟨(World.cell?_of_block hg0).trans ((blk_cell h.net 4).trans rfl),(World.cell?_of_block ha3).trans hc,(World.frozen?_of_block ha3).trans hf,⟨?_,?_,?_,hS x v1 w1 hR1 hg1,?_,?_,hge⟩,?_⟩
  · exact (hblk bx (blk_lt h.box) hge.2.2.2.1 (hne3 h.box (by decide))).trans h.box
  · exact (hblk g0 (blk_lt h.net) hge.2.2.1 (hne3 h.net (by decide))).trans h.net
  · have hm3 : a3 ≠ mb := map_ne_cells h.map hcs3
    refine (h.map.grown hg1 (fun e => ?_)).setCell (fun e => hm3 e) v1
    have := (hown mb e).1
    omega
  · refine ⟨hS2.os.trans (hg1.os.trans h.below.os),hS2.tape.trans (hg1.tape.trans h.below.tape),hS2.output.trans (hg1.output.trans h.below.output),Nat.le_trans h.below.size (Nat.le_trans hg1.size hS2.size),fun k hk => ?_⟩
    exact (hblk k (Nat.lt_of_lt_of_le hk h.below.size) (by omega) (by omega)).trans (h.below.block k hk)
  · exact Nat.le_trans hbig (Nat.le_trans hg1.size hS2.size)
  rw [Below.heap_setCell _ _ _ _ (hne3 hlb (by decide))]
  exact (hg1.block lb (blk_lt hlb) (Kd.R_ne hR hlb (by decide))).trans hlb
theorem Mk.start {w w1 : World} {mx n : Nat} {A0 A1 : Option Addr} {c0 c1 nl : Nat} (hn : n ≤ 256)
    (hbx : w1.heap[w.heap.size]? = some (.cells #[.slice A0 n c0,.slice A1 nl c1] 25 (0,0))) (hB : Below w.heap.size w w1) {X Y : Obj} {mb a3 : Nat}
    (hX : mb = w1.heap.size ∧ X = .map #[] 0 ∧ a3 = w1.heap.size + 1 ∧ Y = .cells (madeCells #[.slice none 0 0] n) 79 ∨ a3 = w1.heap.size ∧ X = .cells (madeCells #[.slice none 0 0] n) 79 ∧ mb = w1.heap.size + 1 ∧ Y = .map #[] 0) :
    Mk w (((w1.alloc X).alloc Y).alloc (.cells #[.slice A0 n c0,.slice A1 nl c1,.float .f64 mx,.map (some mb),.slice (some ⟨a3,0,none⟩) n n] 66)).drew (w1.heap.size + 3) (w1.heap.size + 2) w.heap.size mb a3 mx n A0 A1 c0 c1 nl [] (List.replicate n []) := by
  have h1 : (w1.alloc X).heap[w1.heap.size]? = some X := heap_alloc_new _ _
  have h2 : ((w1.alloc X).alloc Y).heap[w1.heap.size + 1]? = some Y := by
    have := heap_alloc_new (w1.alloc X) Y
    have e : (w1.alloc X).heap.size = w1.heap.size + 1 := by simp
    rwa [e] at this
  have h3 : ∀ Z,(((w1.alloc X).alloc Y).alloc Z).heap[w1.heap.size + 2]? = some Z := by
    intro Z
    have := heap_alloc_new ((w1.alloc X).alloc Y) Z
    have e : ((w1.alloc X).alloc Y).heap.size = w1.heap.size + 2 := by simp
    rwa [e] at this
  have hsz := blk_lt hbx
  have hge := hB.size
  have k1 : ∀ Z,(((w1.alloc X).alloc Y).alloc Z).drew.heap[w1.heap.size]? = some X := fun Z => ((below_drew (below_alloc (Below.refl _ _) Z)).block _ (by simp;omega)).trans (((below_alloc (Below.refl _ _) Y).block _ (by simp)).trans h1)
  have k2 : ∀ Z,(((w1.alloc X).alloc Y).alloc Z).drew.heap[w1.heap.size + 1]? = some Y := fun Z => ((below_drew (below_alloc (Below.refl _ _) Z)).block _ (by simp)).trans h2
  have hBx : ∀ Z,Below w1.heap.size w1 (((w1.alloc X).alloc Y).alloc Z).drew := fun Z => below_drew (below_alloc (below_alloc (below_alloc (Below.refl _ _) _) _) _)
  have hmap : ∀ Z,(((w1.alloc X).alloc Y).alloc Z).drew.heap[mb]? = some (.map #[] 0) := by
    intro Z
    rcases hX with ⟨rfl,rfl,rfl,rfl⟩ | ⟨rfl,rfl,rfl,rfl⟩
    · exact k1 Z
    exact k2 Z
  have hrow : ∀ Z,(((w1.alloc X).alloc Y).alloc Z).drew.heap[a3]? = some (.cells (madeCells #[.slice none 0 0] n) 79 (0,0)) := by
    intro Z
    rcases hX with ⟨rfl,rfl,rfl,rfl⟩ | ⟨rfl,rfl,rfl,rfl⟩
    · exact k2 Z
    exact k1 Z
  have hr : w.heap.size ≤ mb ∧ w.heap.size ≤ a3 ∧ mb < w1.heap.size + 3 ∧ a3 < w1.heap.size + 3 := by
    rcases hX with ⟨rfl,rfl,rfl,rfl⟩ | ⟨rfl,rfl,rfl,rfl⟩ <;> omega
  refine ⟨blk_below hbx (hBx _),h3 _,⟨#[],0,hmap _,rfl,by simp,by simp,by simp⟩,S_new (hrow _) hr.2.1 (Or.inl rfl) (by unfold maxLen;omega),?_,?_,⟨hr.1,hr.2.1,by omega,by omega,hr.2.2.1,hr.2.2.2⟩⟩
  · have := hBx (.cells #[.slice A0 n c0,.slice A1 nl c1,.float .f64 mx,.map (some mb),.slice (some ⟨a3,0,none⟩) n n] 66)
    exact ⟨this.os.trans hB.os,this.tape.trans hB.tape,this.output.trans hB.output,Nat.le_trans hge this.size,fun k hk => (this.block k (by omega)).trans (hB.block k hk)⟩
  show w1.heap.size + 3 ≤ (((w1.alloc X).alloc Y).alloc _).heap.size
  simp
def regionIn (k : Nat) : Code → Option Code
  | .region n o d => if n == k then some (.region n o d) else none
  | .seq a b => match regionIn k a with
    | some c => some c
    | none => regionIn k b
  | .loop c => regionIn k c
  | .block _ c => regionIn k c
  | .scope c => regionIn k c
  | .cond _ a b => match regionIn k a with
    | some c => some c
    | none => regionIn k b
  | _ => none
noncomputable def regOf (k : Nat) : Code := ((Try.f45.body.bind (regionIn k)).getD .skip)
set_option maxHeartbeats 8000000 in
set_option maxRecDepth 100000 in
theorem region22 {w wc : World} {N0 g0 mb a3 mx n nl lb a b : Nat} {A0 A1 : Option Addr} {c0_ c1_ : Nat} {m : List (Int × Value)} {rows : List (List S81)} {l : S74} {K' K1 K2 K3 : Act → World → Prop} {POST : Ending → World → Prop} (c0 c1 c2 c3 c4 c5 c6 c7 c8 c10 c11 c12 c13 c14 c15 c16 c20 c21 c22 c23 c24 c25 c26 c27 c28 c29 c30 c31 c32 c33 c34 c35 c36 c37 c38 c39 c40 c41 c42 c43 c44 c45 c46 c47 c48 c49 c50 c51 c52 c53 c54 c55 c56 c57 c58 c59 c60 c61 c62 c63 c64 c65 c66 c67 c68 c69 c70 c71 c72 c73 c74 c75 c76 c77 c78 c79 c80 c81 c82 c83 c84 c85 c86 c87 c88 c89 c90 c91 c92 c93 c94 c95 c96 c97 c98 c99 c100 c101 c102 c103 c104 c105 c106 c107 c108 c109 c110 c111 c112 c113 c114 c115 c116 c117 c118 c119 c120 c121 c122 c123 c124 c125 c126 c127 c128 c129 c130 c131 c132 c133 c134 c135 c136 c137 c138 c139 c140 c141 c142 c143 c144 c145 c146 : Value)
    (hMk0 : Mk w wc N0 g0 w.heap.size mb a3 mx n A0 A1 c0_ c1_ nl m rows) (hLB0 : wc.heap[lb]? = some (.cells #[.int .i64 l.f0,.int .i64 l.f1,.float .f64 l.f2,.bool true] 74 (0,0))) (ha : a < n) (hrn : (rows.getD a []).length ≤ 8193)
    (hK : ∀ (u107 u108 u109 u110 u111 u112 u113 u114 u115 u116 u117 u118 u119 u120 u121 u122 u123 u124 u125 : Value) (w8 : World),Mk w w8 N0 g0 w.heap.size mb a3 mx n A0 A1 c0_ c1_ nl m (rows.set a (rows.getD a [] ++ [⟨(b : Int),l.f2⟩])) → w8.heap[lb]? = some (.cells #[.int .i64 l.f0,.int .i64 l.f1,.float .f64 l.f2,.bool true] 74 (0,0)) → K' ⟨#[c0,c1,c2,c3,c4,c5,c6,c7,c8,.pointer (some ⟨g0,0,none⟩),c10,c11,c12,c13,c14,c15,c16,.pointer (some ⟨lb,0,none⟩),.int .i64 (a : Int),.int .i64 (b : Int),c20,c21,c22,c23,c24,c25,c26,c27,c28,c29,c30,c31,c32,c33,c34,c35,c36,c37,c38,c39,c40,c41,c42,c43,c44,c45,c46,c47,c48,c49,c50,c51,c52,c53,c54,c55,c56,c57,c58,c59,c60,c61,c62,c63,c64,c65,c66,c67,c68,c69,c70,c71,c72,c73,c74,c75,c76,c77,c78,c79,c80,c81,c82,c83,c84,c85,c86,c87,c88,c89,c90,c91,c92,c93,c94,c95,c96,c97,c98,c99,c100,c101,c102,c103,c104,c105,c106,u107,u108,u109,u110,u111,u112,u113,u114,u115,u116,u117,u118,u119,u120,u121,u122,u123,u124,u125,c126,c127,c128,c129,c130,c131,c132,c133,c134,c135,c136,c137,c138,c139,c140,c141,c142,c143,c144,c145,c146],[]⟩ w8) :
    Code.wp Try.prog (regOf 22) (Exit.then K' (Exit.inBlock 5 (Exit.then K1 (Exit.then K2 (Exit.inBlock 4 (Exit.then K3 (bodyPost Try.prog Try.f45 POST))))))) ⟨#[c0,c1,c2,c3,c4,c5,c6,c7,c8,.pointer (some ⟨g0,0,none⟩),c10,c11,c12,c13,c14,c15,c16,.pointer (some ⟨lb,0,none⟩),.int .i64 (a : Int),.int .i64 (b : Int),c20,c21,c22,c23,c24,c25,c26,c27,c28,c29,c30,c31,c32,c33,c34,c35,c36,c37,c38,c39,c40,c41,c42,c43,c44,c45,c46,c47,c48,c49,c50,c51,c52,c53,c54,c55,c56,c57,c58,c59,c60,c61,c62,c63,c64,c65,c66,c67,c68,c69,c70,c71,c72,c73,c74,c75,c76,c77,c78,c79,c80,c81,c82,c83,c84,c85,c86,c87,c88,c89,c90,c91,c92,c93,c94,c95,c96,c97,c98,c99,c100,c101,c102,c103,c104,c105,c106,c107,c108,c109,c110,c111,c112,c113,c114,c115,c116,c117,c118,c119,c120,c121,c122,c123,c124,c125,c126,c127,c128,c129,c130,c131,c132,c133,c134,c135,c136,c137,c138,c139,c140,c141,c142,c143,c144,c145,c146],[]⟩ wc := by
  have HK := Aside0.mk hK
  clear hK
  have hu66 := Try.underlying66
  have hu74 := Try.underlying74
  have hMk := hMk0.alloc (below_drew (Below.refl wc.heap.size wc))
  have l2 := (blk_cell hLB0 2).trans rfl
  have n4 : wc.cell? ⟨g0,4,none⟩ = some (.slice (some ⟨a3,0,none⟩) n n) := (blk_cell hMk0.net 4).trans rfl
  have hLB : wc.drew.heap[lb]? = some (.cells #[.int .i64 l.f0,.int .i64 l.f1,.float .f64 l.f2,.bool true] 74 (0,0)) := hLB0
  obtain ⟨A,c,okr,hc,hf,hR,hfr,hApp⟩ := hMk.app a ha hLB
  obtain ⟨ra,hra⟩ : ∃ ra,rows.getD a [] = ra := ⟨_,rfl⟩
  rw [hra] at hc hR hApp hrn
  have hcb1 : wc.cell? ⟨a3,a,none⟩ = some (.slice A ra.length c) := hc
  have hs1 : a3 < wc.heap.size := World.block_lt_of_cell? wc _ hcb1
  have hs2 : g0 < wc.heap.size := blk_lt hMk0.net
  have haz : (a : Int) < (n : Int) := by omega
  have hcA : (wc.drew.alloc (.cells #[.int .i64 (b : Int),.float .f64 l.f2] 81)).cell? ⟨a3,a,none⟩ = some (.slice A ra.length c) := (World.cell?_alloc_lt _ _ _ hs1).trans hcb1
  have hcB : (wc.drew.alloc (.cells #[.int .i64 (b : Int),.float .f64 l.f2] 81)).cell? ⟨g0,4,none⟩ = some (.slice (some ⟨a3,0,none⟩) n n) := (World.cell?_alloc_lt _ _ _ hs2).trans n4
  have RR := Aside0.mk hR
  have FR := Aside0.mk hfr
  have BASE : Aside0 (w.heap.size ≤ wc.drew.heap.size) := ⟨hMk0.below.size⟩
  have LEN : Aside0 ((ra.length + 1) * 16 ≤ 140737488355328) := ⟨by omega⟩
  have APP := Aside0.mk hApp
  have HRA := Aside0.mk hra
  clear hMk hLB hc hf hR hfr hApp hrn hra hMk0 hLB0
  conv => arg 2;whnf
  go_region_law (refine append_any k81 w.heap.size rfl (.tmp 118) (.tmp 123) 79 81 (.agg #[(.int .i64 0),(.float .f64 0)]) 16 rfl Try.underlying79 info81 rfl (by decide) (by decide) (.slice A ra.length c) ra ⟨(b : Int),l.f2⟩ [.int .i64 (b : Int),.float .f64 l.f2] okr (fun _ => False) (by simp [Act.eval,Act.put]) (by simp [Act.eval,Act.put]) (k81_mkM _ _ _ _) (fun _ hk => hk.elim) FR.out RR.out (Below.refl _ _) BASE.out LEN.out ?_;intro v1 w7 hr7 hbw hg7 hat;obtain ⟨A7,c7,rfl⟩ := Kd.R_slice hr7;obtain ⟨hk0,hk1,hk2,hk3,hk4⟩ := APP.out _ _ _ hr7 hg7;simp only [List.length_append,List.length_singleton] at hk3 hk4;have K3 := Aside0.mk hk3;have K4 := Aside0.mk hk4;clear hk3 hk4 hr7 hg7 hat hbw)
  all_goals (simp only [List.getElem_toArray,List.getElem_cons_succ,List.getElem_cons_zero,Act.put,List.setIfInBounds_toArray,List.set_cons_zero,List.set_cons_succ,Exit.then])
  all_goals (refine HK.out _ _ _ _ _ _ _ _ _ _ _ _ _ _ _ _ _ _ _ _ (by rw [HRA.out];exact K3.out) K4.out)
end Go.Proofs.Ytmdkcecbklgihaa.PA
