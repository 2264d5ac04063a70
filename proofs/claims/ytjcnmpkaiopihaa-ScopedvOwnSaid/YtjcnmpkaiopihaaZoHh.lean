/- Entries, sorted by kind and destination: what the sort leaves. Conditions: kinds and destinations are small, no destination stands twice. -/
import Derived.Test.YtjcnmpkaiopihaaZoHd
namespace Go.Proofs.Ytjcnmpkaiopihaa.PA
open Go.Shelf Go.RowKit Go.Lib Go.Sort Go.Proofs.YtjcnmpkaiopihaaW.PrintWords Go.Proofs.YtjcnmpkaiopihaaW.PrintLast Go.Proofs.YtjcnmpkaiopihaaW.PrintMore
set_option linter.unusedVariables false
set_option linter.unusedSimpArgs false
def sortE (L : List S58) : List S58 := L.mergeSort fun a b => !(ltE b a)
def ByKey (L : List S58) : Prop := L.Pairwise fun a b => ltE a b = true
theorem byKey_unique : ∀ {l1 l2 : List S58},l1.Perm l2 → ByKey l1 → ByKey l2 → l1 = l2
  | [],l2,hp,_,_ => by rw [List.nil_perm.1 hp]
  | a :: r1,[],hp,_,_ => by have := hp.length_eq;simp at this
  | a :: r1,b :: r2,hp,h1,h2 => by
    have p1 := List.pairwise_cons.1 h1
    have p2 := List.pairwise_cons.1 h2
    have e : a = b := by
      rcases List.mem_cons.1 (hp.mem_iff.1 (List.mem_cons_self)) with e | ha
      · exact e
      rcases List.mem_cons.1 (hp.mem_iff.2 (List.mem_cons_self)) with e | hb
      · exact e.symm
      have x1 := p2.1 a ha
      have x2 := ltE_asym (p1.1 b hb)
      rw [x1] at x2
      cases x2
    subst e
    rw [byKey_unique hp.cons_inv p1.2 p2.2]
theorem ltE_tot {a b : S58} (h1 : ltE a b = false) (h2 : ltE b a = false) : a.f0 = b.f0 := by
  rw [Bool.eq_false_iff] at *
  unfold ltE at *
  simp only [ne_eq,Bool.or_eq_true,Bool.and_eq_true,decide_eq_true_eq,beq_iff_eq] at *
  omega
theorem byKey_of {L : List S58} (h : L.Pairwise fun a b => ltE b a = false) (hn : (L.map (·.f0)).Nodup) : ByKey L := by
  induction L with
  | nil => exact List.Pairwise.nil
  | cons a r ih =>
    have p := List.pairwise_cons.1 h
    have q := List.nodup_cons.1 hn
    refine List.pairwise_cons.2 ⟨fun b hb => ?_,ih p.2 q.2⟩
    cases hx : ltE a b
    · exact absurd (List.mem_map.2 ⟨b,hb,(ltE_tot hx (p.1 b hb)).symm⟩) q.1
    rfl
theorem sortE_perm (L : List S58) : (sortE L).Perm L := List.mergeSort_perm L _
theorem sortE_len (L : List S58) : (sortE L).length = L.length := by simp [sortE]
theorem sortE_byKey {L : List S58} (hn : (L.map (·.f0)).Nodup) : ByKey (sortE L) := by
  refine byKey_of ?_ (((sortE_perm L).map (·.f0)).nodup_iff.2 hn)
  have := List.pairwise_mergeSort (le := fun a b : S58 => !(ltE b a)) (fun a b c h1 h2 => by
    simp only [Bool.not_eq_true'] at *
    exact ltE_ntrans h2 h1) (fun a b => by
    cases h : ltE b a
    · simp
    simp [ltE_asym h]) L
  exact this.imp (fun h => by simpa using h)
def encX (x : ES) : List Value := encE x.1
theorem encX_len (x : ES) : (encX x).length = 6 := rfl
theorem encX_one (x : ES) : ∀ v ∈ encX x,v.oneCell' = true := by
  intro v hv
  simp [encX,encE] at hv
  rcases hv with rfl | rfl | rfl | rfl | rfl | rfl <;> rfl
theorem get_bangX (P : List ES) (j : Nat) (h : j < P.length) : (P.toArray)[j]! = P[j] := by simp [getElem!_def,h]
theorem holdsX {w : World} {base : Nat} {ok : Nat → Prop} {g cap : Nat} {P : List ES} (h : Kd.R k58 58 w base ok (.slice (some ⟨g,0,none⟩) (P.map (·.1)).length cap) (P.map (·.1))) (hp : 0 < P.length) : HoldsK encX 6 w g 0 P.toArray := by
  obtain ⟨g',cap',e,h1,h2,cells,hcells⟩ := Kd.R_form h (by simpa using hp)
  cases e
  have hC := (Kd.R_reads' h).2.2
  obtain ⟨_,_,hrow⟩ := hC
  obtain ⟨ad,e,hrow⟩ := hrow (by simpa using hp)
  cases e
  intro t ht
  have ht' : t < P.length * 6 := by simpa using ht
  have hj : t / 6 < P.length := by omega
  have hj2 : t / 6 < (P.map (·.1)).length := by simpa using hj
  obtain ⟨c,hcl,hK,hcell⟩ := hrow (t / 6) (P[t / 6]).1 (by rw [List.getElem?_map,List.getElem?_eq_getElem hj];rfl)
  obtain rfl := k58_open hK
  rw [get_flatK _ _ _ _ (by simpa using ht'),get_bangX P _ hj,blk_frozen hcells]
  refine ⟨?_,rfl⟩
  have hi : t % 6 < 6 := Nat.mod_lt _ (by omega)
  have h3 := hcell (t % 6) (encX P[t / 6])[t % 6]! (by
    have : (encX P[t / 6])[t % 6]? = some (encX P[t / 6])[t % 6]! := by
      rw [List.getElem!_eq_getElem?_getD,List.getElem?_eq_getElem (by rw [encX_len];exact hi)]
      rfl
    exact this)
  have e4 : t / 6 * k58.sz + t % 6 = t := by
    show t / 6 * 6 + t % 6 = t
    omega
  rw [e4] at h3
  have e5 : (⟨g,0,none⟩ : Addr).add t = ⟨g,0 + t,none⟩ := by
    unfold Addr.add
    by_cases h0 : t = 0 <;> simp [h0]
  rw [e5] at h3
  exact h3
theorem readsX {w : World} {g : Nat} {P : List ES} (h : HoldsK encX 6 w g 0 P.toArray) (hm : P.length ≤ 9223372036854775807) : Kd.C k58 w (some ⟨g,0,none⟩) (P.map (·.1)).length (P.map (·.1)) := by
  refine ⟨rfl,by simpa using hm,fun _ => ⟨⟨g,0,none⟩,rfl,fun j p hj => ⟨encE p,rfl,k58_mk w p,fun i u hu => ?_⟩⟩⟩
  rw [List.getElem?_map] at hj
  obtain ⟨x,hx,hxe⟩ := Option.map_eq_some_iff.1 hj
  obtain ⟨hjl,hje⟩ := (List.getElem?_eq_some_iff.1 hx)
  have hi : i < 6 := by
    have := (List.getElem?_eq_some_iff.1 hu).1
    simpa [encE] using this
  have h1 := (h.cell (i := j) (c := i) (by simpa using hjl) hi).1
  rw [get_bangX P j hjl,hje] at h1
  have e5 : (⟨g,0,none⟩ : Addr).add (j * k58.sz + i) = ⟨g,0 + j * 6 + i,none⟩ := by
    show (⟨g,0,none⟩ : Addr).add (j * 6 + i) = _
    unfold Addr.add
    by_cases h0 : j * 6 + i = 0
    · rw [if_pos h0,Nat.zero_add,h0]
    rw [if_neg h0,Nat.zero_add]
    simp
  rw [e5,h1]
  have : (encX x)[i]? = some (encX x)[i]! := by
    rw [List.getElem!_eq_getElem?_getD,List.getElem?_eq_getElem (by rw [encX_len];exact hi)]
    rfl
  rw [← this]
  subst hxe
  exact hu
theorem perm_ofX {P : List ES} {d' : Array ES} (h : PermIn 0 P.toArray.size P.toArray d') : d'.toList.Perm P := by
  obtain ⟨hs,_,hp⟩ := h
  have e1 : (P.toArray.extract 0 P.toArray.size).toList = P := by simp
  have e2 : (d'.extract 0 P.toArray.size).toList = d'.toList := by
    rw [← hs]
    simp
  rwa [e1,e2] at hp
theorem isAgg58 : ∀ w,(isAgg 58).run Try.prog w = .ok true w := fun _ => by kernel_rfl
theorem sizeOf58 : ∀ w,(Go.sizeOf 58).run Try.prog w = .ok 6 w := fun _ => by kernel_rfl
theorem below_rowPut {α : Type} [Inhabited α] {enc : α → Value} {B : Nat} {w0 w : World} {g q o : Nat} {d : Array α} (h : Below B w0 w) (hg : B ≤ g) : Below B w0 (putRow enc (Sort.ahead w q) g o d) :=
  ⟨h.os,h.tape,h.output,by simpa [putRow,mapBlock,Sort.ahead] using h.size,fun k hk => by
    rw [← h.block k hk]
    simp [putRow,mapBlock,Sort.ahead,Array.getElem?_modify,show g ≠ k by omega]⟩
theorem below_more (w : World) (os : Array Obj) : Below w.heap.size w (grow w os) :=
  ⟨rfl,rfl,rfl,by show w.heap.size ≤ (w.heap ++ os).size;rw [Array.size_append];omega,fun j hj => heap_grow_old w os hj⟩
theorem R_turned {α : Type} {d : Kd α} {enc : α → List Value} {e : Nat} (hlen : ∀ x,(enc x).length = d.sz) (hK : ∀ w x cs,d.K w x cs → cs = enc x) (hM : ∀ w base ok x,d.M w base ok x (enc x)) {w w' : World} {base : Nat} {ok : Nat → Prop} {g cap : Nat} {P Q : List α}
    (h : d.R e w base ok (.slice (some ⟨g,0,none⟩) P.length cap) P) (hl : Q.length = P.length)
    (hblk : ∀ cells,w.heap[g]? = some (.cells cells e (0,0)) → ∃ cells',w'.heap[g]? = some (.cells cells' e (0,0)) ∧ cells'.size = cells.size)
    (hC : d.C w' (some ⟨g,0,none⟩) Q.length Q) : d.R e w' base ok (.slice (some ⟨g,0,none⟩) Q.length cap) Q := by
  obtain ⟨h0,inner,⟨hil,hq⟩,hr⟩ := h
  rcases hq with ⟨h1,_⟩ | ⟨g',cap',cur,he,hb,hh,hnc,hcm,hcs,ht⟩
  · injection h1 with h1
    cases h1
  injection he with h1 h2 h3
  injection h1 with h1
  injection h1 with h1
  subst h1 h3
  obtain ⟨cells',hh',hs'⟩ := hblk cur hh
  have hle : Q.length * d.sz ≤ cells'.size := by
    rw [hs',hcs,hl]
    exact Nat.mul_le_mul_right _ hnc
  have hle2 : (cells'.toList.take (Q.length * d.sz)).length = Q.length * d.sz := by
    rw [List.length_take,Nat.min_eq_left (by simpa using hle)]
  refine ⟨h0,cells'.toList.take (Q.length * d.sz),⟨hle2,.inr ⟨g,cap,cells',rfl,hb,hh',by rw [hl];exact hnc,hcm,by rw [hs',hcs],rfl⟩⟩,hle2,fun j p hj => ?_⟩
  have hjl := (List.getElem?_eq_some_iff.1 hj).1
  obtain ⟨_,_,hrow⟩ := hC
  obtain ⟨ad,e1,hrow⟩ := hrow (by omega)
  cases e1
  obtain ⟨c,hcl,hKc,hcell⟩ := hrow j p hj
  have hce := hK _ _ _ hKc
  have hjs : j * d.sz + d.sz ≤ Q.length * d.sz := by rw [← Nat.succ_mul];exact Nat.mul_le_mul_right _ hjl
  have heq : ((cells'.toList.take (Q.length * d.sz)).drop (j * d.sz)).take d.sz = enc p := by
    apply List.ext_getElem?
    intro t
    rw [List.getElem?_take,List.getElem?_drop,List.getElem?_take]
    by_cases ht2 : t < d.sz
    · rw [if_pos ht2,if_pos (by omega)]
      have htc : t < c.length := by omega
      have h5 := hcell t _ (List.getElem?_eq_getElem htc)
      have e5 : (⟨g,0,none⟩ : Addr).add (j * d.sz + t) = ⟨g,j * d.sz + t,none⟩ := by
        unfold Addr.add
        by_cases h6 : j * d.sz + t = 0
        · rw [if_pos h6,h6]
        rw [if_neg h6]
        simp
      rw [e5,blk_cell hh'] at h5
      rw [Array.getElem?_toList,h5,← hce,List.getElem?_eq_getElem htc]
    rw [if_neg ht2,List.getElem?_eq_none (by rw [hlen];omega)]
  rw [heq]
  exact hM _ _ _ _
theorem sortBlock {α : Type} [Inhabited α] {encK : α → List Value} {k n o : Nat} {w : World} {g : Nat} {d' : Array α} {os : Array Obj} {e : Nat} (hg : g < w.heap.size) : ∀ cells,w.heap[g]? = some (.cells cells e (0,0)) → ∃ cells',(sortWorldK encK k w g o n d' os).heap[g]? = some (.cells cells' e (0,0)) ∧ cells'.size = cells.size := by
  intro cells h
  unfold sortWorldK putRowK
  rw [heap_grow_old _ os (by simpa [putRow,mapBlock,Sort.ahead] using hg)]
  have h2 : (Sort.ahead w n).heap[g]? = some (.cells cells e (0,0)) := h
  refine ⟨putCells id o (flatK encK k d') cells,?_,by unfold putCells;simp⟩
  show ((Sort.ahead w n).heap.modify g (onCells (putCells id o (flatK encK k d'))))[g]? = _
  rw [Array.getElem?_modify,if_pos rfl,h2]
  rfl
theorem sort_entries {w : World} {base : Nat} {ok : Nat → Prop} {A : Option Addr} {cap : Nat} {P L : List S58} (h : Kd.R k58 58 w base ok (.slice A P.length cap) P) (hbase : base ≤ w.heap.size) (hsm : ∀ x ∈ P,SmallE x) (hPL : P.Perm L) (hn : (L.map (·.f0)).Nodup) (hs : P.length < 4611686018427387904) :
    Calls Try.prog 34 #[.slice A P.length cap,.func (.func 35) #[] #[]] w fun e w' => e = .returned (.tuple #[]) ∧ Below base w w' ∧ Kd.R k58 58 w' base ok (.slice A (sortE L).length cap) (sortE L) := by
  obtain ⟨X,hX⟩ : ∃ X : List ES,X.map (·.1) = P := ⟨P.attachWith SmallE hsm,(List.attachWith_map_val (f := fun x : S58 => x) hsm).trans (by simp)⟩
  subst hX
  by_cases hp : 0 < X.length
  rotate_left
  · have h0 : X = [] := List.eq_nil_of_length_eq_zero (by omega)
    subst h0
    have hL : L = [] := List.nil_perm.1 hPL
    subst hL
    have hR0 := h
    have hcon := AnyF.slices_SortFunc_none (P := Try.prog) (ρ := Try.sortE_ren) { Try.sortE with } A cap (.func (.func 35) #[] #[]) w
    refine hcon.mono fun e w' h => ⟨h.1,by rw [h.2];exact Below.refl _ _,?_⟩
    rw [h.2]
    have e0 : sortE [] = [] := by simp [sortE]
    rw [e0]
    exact hR0
  obtain ⟨g,cap',e,hg,hlt,_⟩ := Kd.R_form h (by simpa using hp)
  cases e
  have hH := holdsX h hp
  have eg : ∀ args w,(callFunc 35 args).run Try.prog w = .ok (.enter 35 args) w := fun args w => enters_ Try.func35 (by kernel_rfl) rfl args w
  have hcon := AnyQ.slices_SortFunc Try.sortE 6 isAgg58 sizeOf58 encX encX_len encX_one cfE swoE 35 #[] g 0 cap X.toArray w eg (fun _ _ _ _ x y => order_any x y _) hH hlt (by simpa using hs)
  rw [show (X.toArray).size = (X.map (·.1)).length by simp] at hcon
  refine hcon.mono ?_
  rintro e w' ⟨rfl,d',n,os,hpm,hst,rfl⟩
  have hpm2 := perm_ofX (P := X) (d' := d') (by rw [show (X.toArray).size = (X.map (·.1)).length by simp];exact hpm)
  have hsz : d'.size = X.length := by simpa using hpm2.length_eq
  have e0 : d'.toList.map (·.1) = sortE L := by
    have hpv : (d'.toList.map (·.1)).Perm L := (hpm2.map _).trans hPL
    refine byKey_unique (hpv.trans (sortE_perm L).symm) (byKey_of ?_ ((hpv.map (·.f0)).nodup_iff.2 hn)) (sortE_byKey hn)
    rw [List.pairwise_iff_getElem]
    intro i j hi hj hij
    have hi' : i < d'.size := by simpa using hi
    have hj' : j < d'.size := by simpa using hj
    have := hst i j (Nat.zero_le _) hij (by simpa [hsz] using hj')
    rw [ltOfE] at this
    simpa [getElem!_def,hi',hj'] using this
  refine ⟨rfl,?_,?_⟩
  · unfold sortWorldK putRowK
    exact below_then (below_rowPut (Below.refl base w) hg) (by rw [size_putRow];exact hbase) (below_more _ os)
  have hr := readsX (P := d'.toList) (w := sortWorldK encX 6 w g 0 n d' os) (g := g) (by
    have := holdsK_sortWorldK_c encX 6 w g 0 X.toArray d' n os hH hlt (by simpa using hsz)
    simpa using this) (by simp only [Array.length_toList];have : (X.map (·.1)).length = X.length := by simp
                          omega)
  rw [e0] at hr
  have hll : (sortE L).length = (X.map (·.1)).length := by rw [sortE_len,← hPL.length_eq]
  exact R_turned (enc := encE) (fun _ => rfl) (fun _ _ _ hk => k58_open hk) k58_mkM h hll (sortBlock hlt) hr
end Go.Proofs.Ytjcnmpkaiopihaa.PA
