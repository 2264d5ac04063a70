/- A call, on both caches: they tell the same, and hold the same behind it. Conditions: the call's weight and news are words, its list fits in memory. -/
import Derived.Test.YtblemmagkehanaaGreatZkDv
namespace Go.Proofs.YtblemmagkehanaaGreat.PA
open Go.RowKit Go.Proofs.YtblemmagkehanaaGreatW.PrintWords Go.Proofs.YtblemmagkehanaaGreatW.PrintLast Go.Proofs.YtblemmagkehanaaGreatW.PrintMore
set_option linter.unusedVariables false
set_option linter.unusedSimpArgs false
structure StateAt (w : World) (g b : Nat) (L : List Nb) (A : Option Addr) (c : Nat) (m : List S43) : Prop where
  cache : CacheAt w g b L
  doc : Kd.C k43 w A m.length m
  room : m.length ≤ c
  ok : StOk L m
def DoesOut (w : World) (g b : Nat) (L : List Nb) (e : Ending) (w' : World) : Prop :=
  ∃ A c L' m,e = .returned (.tuple #[.slice A m.length c,.bool true]) ∧ StateAt w' g b L' A c m ∧ OpOut w g b L L' w'
theorem OpOut.after {w w1 w2 : World} {g b : Nat} {L L' : List Nb} (hb : Below w.heap.size w w1) (h : OpOut w1 g b L L' w2) : OpOut w g b L L' w2 := by
  obtain ⟨x,hx,hg⟩ := h.row;refine ⟨h.at_,⟨x,hx,(grown_of_below hb _).trans hg⟩,fun e he => ?_⟩
  rcases h.ps e he with h1 | h1
  · exact .inl h1
  exact .inr (Nat.le_trans hb.size h1)
theorem DoesOut.mk' {w w0 w1 w2 : World} {g b : Nat} {L L' : List Nb} {m : List S43} {A : Option Addr} {c : Nat} (hw : Below w.heap.size w w0) (hD : DocOut w0 m A c w1) (hC : CacheAt w g b L) (hO : OpOut w1 g b L L' w2) (hS : StOk L' m) : DoesOut w g b L (.returned (.tuple #[.slice A m.length c,.bool true])) w2 := by
  have hb := below_then hw hw.size hD.2.2;obtain ⟨x,hx,hg⟩ := hO.row;exact ⟨A,c,L',m,rfl,⟨hO.at_,C43_kept hD.1 ((hC.below hb).odd hx) hg,hD.2.1,hS⟩,hO.after hb⟩
theorem add_op {w w' : World} {g b : Nat} {L : List Nb} {id : Int} {wt : Nat} (h : CacheAt w g b L) (ho : AddOut w g b L id wt w') : ∃ L',OpOut w g b L L' w' ∧ ((addE L id wt ≠ 0 ∧ L' = L) ∨ (addE L id wt = 0 ∧ ∃ p,L' = L ++ [nbNew id wt p])) := by
  rcases ho with ⟨h1,h2,h3⟩ | ⟨h1,p,h2,h3,h4⟩
  · exact ⟨L,OpOut.same h h3,.inl ⟨h1,rfl⟩⟩
  refine ⟨_,⟨h3,⟨b,.inl rfl,h4⟩,fun e he => ?_⟩,.inr ⟨h1,p,rfl⟩⟩
  rcases List.mem_append.1 he with he | he
  · exact .inl ⟨e,he,rfl⟩
  rw [List.mem_singleton.1 he];exact .inr h2
theorem del_op {w w' : World} {g b : Nat} {L : List Nb} {id : Int} (h : CacheAt w g b L) (hc : CacheAt w' g b (delL id L)) (hg : w.grownBy w' (some b)) : OpOut w g b L (delL id L) w' :=
  ⟨hc,⟨b,.inl rfl,hg⟩,fun e he => .inl ⟨e,(List.mem_filter.1 he).1,rfl⟩⟩
theorem news_b {W : World} {B : Option Addr} {c : Nat} {l : List S61} (h : Kd.C k61 W B l.length l) (hc : l.length ≤ c) (hl : l.length < 3518437208883) : Calls Tryz.prog 23 #[.slice B l.length c] W fun e w' => ∃ v,e = .returned v ∧ Kd.R k61 61 w' W.heap.size (fun _ => True) v l ∧ Below W.heap.size W w' := by
  obtain ⟨K,hK⟩ := news_copy l hl;exact beaconref13_News.calls K B c l _ W h hc (hK K (Nat.le_refl _))
set_option maxHeartbeats 2000000 in
set_option maxRecDepth 1000000 in
theorem does_add {w : World} {g b : Nat} {L : List Nb} {A : Option Addr} {c : Nat} {m : List S43} (h : StateAt w g b L A c m) (id : Int) (wt : Nat) (v3 : Value) (hv : ∃ B n cB,v3 = .slice B n cB) (hw : wt < 18446744073709551616) :
    Calls Tryz.prog 8 #[.pointer (some ⟨g,0,none⟩),.slice A m.length c,.agg #[.int .i64 0,.int .i64 id,.float .f64 wt,v3]] w fun e w' => DoesOut w g b L e w' := by
  have HS := Aside0.mk h;have hu31 := Tryz.underlying31;obtain ⟨B,n,cB,rfl⟩ := hv;obtain ⟨q,hq⟩ : ∃ q,addE L id wt = q := ⟨_,rfl⟩
  have hr := h.ok.addE_eq id wt;rw [hq] at hr;have RE := Aside0.mk hr;have QE := Aside0.mk hq;obtain ⟨w0,hw0⟩ : ∃ w0,w0 = w.alloc (.cells #[.int .i64 0,.int .i64 id,.float .f64 wt,.slice B n cB] 31) := ⟨_,rfl⟩
  have B0 : Aside0 (Below w.heap.size w w0) := ⟨by rw [hw0];exact below_alloc (Below.refl _ _) _⟩
  have K0 : Aside0 (w0.heap[w.heap.size]? = some (.cells #[.int .i64 0,.int .i64 id,.float .f64 wt,.slice B n cB] 31 (0,0))) := ⟨by rw [hw0];exact blk_new w _⟩
  clear h hr hq;go_enter Tryz.func8,Tryz.ntmps8
  go_wp2_with (first | (go_at_call 28;rw [← hw0];refine (doc_add (Kd.C_below HS.out.doc B0.out) HS.out.room HS.out.ok.fit id wt hw).mono ?_;rw [RE.out];rintro e w1 ⟨A',c',rfl,hD⟩;have HDo := Aside0.mk hD;have K1 := Aside0.mk (blk_below K0.out hD.2.2);have C1 := Aside0.mk (HS.out.cache.below (below_then B0.out B0.out.size hD.2.2));clear hD;have k0 : w1.cell? ⟨w.heap.size,0,none⟩ = some (.int .i64 0) := (blk_cell K1.out 0).trans rfl;have k1 : w1.cell? ⟨w.heap.size,1,none⟩ = some (.int .i64 id) := (blk_cell K1.out 1).trans rfl;have k2 : w1.cell? ⟨w.heap.size,2,none⟩ = some (.float .f64 wt) := (blk_cell K1.out 2).trans rfl) | (go_at_call 25;refine (add_live C1.out id wt hw).mono ?_;rw [QE.out];rintro e w2 ⟨rfl,hA⟩;have HA := Aside0.mk hA;clear hA))
  go_ret2;obtain ⟨L',hO,hL⟩ := add_op C1.out HA.out;have hres := fun hS => DoesOut.mk' B0.out HDo.out HS.out.cache hO hS
  simp only [beq_self_eq_true] at hres ⊢;refine hres ?_;unfold rAddM
  rcases hL with ⟨h1,rfl⟩ | ⟨h1,p,rfl⟩
  · rw [if_neg (by rw [HS.out.ok.addE_eq];exact h1)]
    exact HS.out.ok
  rw [if_pos (by rw [HS.out.ok.addE_eq];exact h1)];exact HS.out.ok.add p h1
end Go.Proofs.YtblemmagkehanaaGreat.PA
namespace Go.Proofs.YtblemmagkehanaaGreat.PA
open Go.RowKit Go.Proofs.YtblemmagkehanaaGreatW.PrintWords Go.Proofs.YtblemmagkehanaaGreatW.PrintLast Go.Proofs.YtblemmagkehanaaGreatW.PrintMore
set_option linter.unusedVariables false
set_option linter.unusedSimpArgs false
theorem StOk.weigh {L : List Nb} {m : List S43} (h : StOk L m) (id : Int) (wt : Nat) : StOk (weighL L id wt) (rWeighM m id wt) := by
  unfold weighL rWeighM;rw [h.weighE_eq]
  by_cases h1 : weighE L id wt = 0
  · rw [if_pos h1,if_pos h1]
    exact h.turn (fun _ _ _ => rfl) (fun _ => rfl) (fun _ => rfl) (fun e he _ => h.news e he)
  rw [if_neg h1,if_neg h1];exact h
theorem StOk.forget {L : List Nb} {m : List S43} (h : StOk L m) (id : Int) : StOk (forgetL L id) (rForM m id) :=
  h.turn (fun _ _ _ => rfl) (fun _ => rfl) (fun _ => rfl) (fun e he _ => ⟨List.Pairwise.nil,fun n hn => by cases hn⟩)
theorem StOk.forE_eq {L : List Nb} {m : List S43} (h : StOk L m) (id : Int) : rRemE m id = forgetE L id := h.remE_eq id
set_option maxHeartbeats 2000000 in
set_option maxRecDepth 1000000 in
theorem does_weigh {w : World} {g b : Nat} {L : List Nb} {A : Option Addr} {c : Nat} {m : List S43} (h : StateAt w g b L A c m) (id : Int) (wt : Nat) (v3 : Value) (hv : ∃ B n cB,v3 = .slice B n cB) (hw : wt < 18446744073709551616) :
    Calls Tryz.prog 8 #[.pointer (some ⟨g,0,none⟩),.slice A m.length c,.agg #[.int .i64 1,.int .i64 id,.float .f64 wt,v3]] w fun e w' => DoesOut w g b L e w' := by
  have HS := Aside0.mk h;have hu31 := Tryz.underlying31;obtain ⟨B,n,cB,rfl⟩ := hv;obtain ⟨w0,hw0⟩ : ∃ w0,w0 = w.alloc (.cells #[.int .i64 1,.int .i64 id,.float .f64 wt,.slice B n cB] 31) := ⟨_,rfl⟩
  have B0 : Aside0 (Below w.heap.size w w0) := ⟨by rw [hw0];exact below_alloc (Below.refl _ _) _⟩
  have K0 : Aside0 (w0.heap[w.heap.size]? = some (.cells #[.int .i64 1,.int .i64 id,.float .f64 wt,.slice B n cB] 31 (0,0))) := ⟨by rw [hw0];exact blk_new w _⟩
  obtain ⟨q,hq⟩ : ∃ q,weighE L id wt = q := ⟨_,rfl⟩
  have hr := h.ok.weighE_eq id wt;rw [hq] at hr;have RE := Aside0.mk hr;have QE := Aside0.mk hq;clear h hr hq;go_enter Tryz.func8,Tryz.ntmps8
  go_wp2_with (first | (go_at_call 29;rw [← hw0];refine (doc_weigh (Kd.C_below HS.out.doc B0.out) HS.out.room HS.out.ok.fit HS.out.ok.asc id wt hw).mono ?_;rw [RE.out];rintro e w1 ⟨A',c',rfl,hD⟩;have HDo := Aside0.mk hD;have K1 := Aside0.mk (blk_below K0.out hD.2.2);have C1 := Aside0.mk (HS.out.cache.below (below_then B0.out B0.out.size hD.2.2));clear hD;have k0 : w1.cell? ⟨w.heap.size,0,none⟩ = some (.int .i64 1) := (blk_cell K1.out 0).trans rfl;have k1 : w1.cell? ⟨w.heap.size,1,none⟩ = some (.int .i64 id) := (blk_cell K1.out 1).trans rfl;have k2 : w1.cell? ⟨w.heap.size,2,none⟩ = some (.float .f64 wt) := (blk_cell K1.out 2).trans rfl) | (go_at_call 26;refine (weigh_live C1.out id wt hw).mono ?_;rw [QE.out];rintro e w2 ⟨rfl,hA⟩;have HA := Aside0.mk hA;clear hA))
  go_ret2;have hres := fun hS => DoesOut.mk' B0.out HDo.out HS.out.cache HA.out hS
  simp only [beq_self_eq_true] at hres ⊢;exact hres (HS.out.ok.weigh id wt)
set_option maxHeartbeats 2000000 in
set_option maxRecDepth 1000000 in
theorem does_remove {w : World} {g b : Nat} {L : List Nb} {A : Option Addr} {c : Nat} {m : List S43} (h : StateAt w g b L A c m) (id : Int) (wt : Nat) (v3 : Value) (hv : ∃ B n cB,v3 = .slice B n cB) :
    Calls Tryz.prog 8 #[.pointer (some ⟨g,0,none⟩),.slice A m.length c,.agg #[.int .i64 2,.int .i64 id,.float .f64 wt,v3]] w fun e w' => DoesOut w g b L e w' := by
  have HS := Aside0.mk h;have hu31 := Tryz.underlying31;obtain ⟨B,n,cB,rfl⟩ := hv;obtain ⟨w0,hw0⟩ : ∃ w0,w0 = w.alloc (.cells #[.int .i64 2,.int .i64 id,.float .f64 wt,.slice B n cB] 31) := ⟨_,rfl⟩
  have B0 : Aside0 (Below w.heap.size w w0) := ⟨by rw [hw0];exact below_alloc (Below.refl _ _) _⟩
  have K0 : Aside0 (w0.heap[w.heap.size]? = some (.cells #[.int .i64 2,.int .i64 id,.float .f64 wt,.slice B n cB] 31 (0,0))) := ⟨by rw [hw0];exact blk_new w _⟩
  obtain ⟨q,hq⟩ : ∃ q,delE id L = q := ⟨_,rfl⟩
  have hr := h.ok.remE_eq id;rw [hq] at hr;have RE := Aside0.mk hr;have QE := Aside0.mk hq;clear h hr hq;go_enter Tryz.func8,Tryz.ntmps8
  go_wp2_with (first | (go_at_call 30;rw [← hw0];refine (doc_remove (Kd.C_below HS.out.doc B0.out) HS.out.room HS.out.ok.fit id).mono ?_;rw [RE.out];rintro e w1 ⟨A',c',rfl,hD⟩;have HDo := Aside0.mk hD;have K1 := Aside0.mk (blk_below K0.out hD.2.2);have C1 := Aside0.mk (HS.out.cache.below (below_then B0.out B0.out.size hD.2.2));clear hD;have k0 : w1.cell? ⟨w.heap.size,0,none⟩ = some (.int .i64 2) := (blk_cell K1.out 0).trans rfl;have k1 : w1.cell? ⟨w.heap.size,1,none⟩ = some (.int .i64 id) := (blk_cell K1.out 1).trans rfl;have k2 : w1.cell? ⟨w.heap.size,2,none⟩ = some (.float .f64 wt) := (blk_cell K1.out 2).trans rfl) | (go_at_call 27;refine (remove_live C1.out id).mono ?_;rw [QE.out];rintro e w2 ⟨rfl,hA,hG⟩;have HA := Aside0.mk (del_op C1.out hA hG);clear hA hG))
  go_ret2;have hres := fun hS => DoesOut.mk' B0.out HDo.out HS.out.cache HA.out hS
  simp only [beq_self_eq_true] at hres ⊢;exact hres (HS.out.ok.del id)
set_option maxHeartbeats 2000000 in
set_option maxRecDepth 1000000 in
theorem does_forget {w : World} {g b : Nat} {L : List Nb} {A : Option Addr} {c : Nat} {m : List S43} (h : StateAt w g b L A c m) (d : Int) (d0 : ¬ d = 0) (d1 : ¬ d = 1) (d2 : ¬ d = 2) (d3 : ¬ d = 3) (id : Int) (wt : Nat) (v3 : Value) (hv : ∃ B n cB,v3 = .slice B n cB) :
    Calls Tryz.prog 8 #[.pointer (some ⟨g,0,none⟩),.slice A m.length c,.agg #[.int .i64 d,.int .i64 id,.float .f64 wt,v3]] w fun e w' => DoesOut w g b L e w' := by
  have b0 : (d == 0) = false := by simpa using d0
  have b1 : (d == 1) = false := by simpa using d1
  have b2 : (d == 2) = false := by simpa using d2
  have b3 : (d == 3) = false := by simpa using d3
  have HS := Aside0.mk h;have hu31 := Tryz.underlying31;obtain ⟨B,n,cB,rfl⟩ := hv;obtain ⟨w0,hw0⟩ : ∃ w0,w0 = w.alloc (.cells #[.int .i64 d,.int .i64 id,.float .f64 wt,.slice B n cB] 31) := ⟨_,rfl⟩
  have B0 : Aside0 (Below w.heap.size w w0) := ⟨by rw [hw0];exact below_alloc (Below.refl _ _) _⟩
  have K0 : Aside0 (w0.heap[w.heap.size]? = some (.cells #[.int .i64 d,.int .i64 id,.float .f64 wt,.slice B n cB] 31 (0,0))) := ⟨by rw [hw0];exact blk_new w _⟩
  obtain ⟨q,hq⟩ : ∃ q,forgetE L id = q := ⟨_,rfl⟩
  obtain ⟨k,hk⟩ : ∃ k,forgetN L id = k := ⟨_,rfl⟩
  have hr := h.ok.forE_eq id;rw [hq] at hr;have hrk := h.ok.forN_eq id;rw [hk] at hrk;have RE := Aside0.mk hr;have QE := Aside0.mk hq;have RK := Aside0.mk hrk;have QK := Aside0.mk hk;clear h hr hq hrk hk;go_enter Tryz.func8,Tryz.ntmps8
  go_wp2_with (first | (go_at_call 31;rw [← hw0];refine (doc_forget (Kd.C_below HS.out.doc B0.out) HS.out.room HS.out.ok.fit HS.out.ok.asc id).mono ?_;rw [RE.out,RK.out];rintro e w1 ⟨A',c',rfl,hD⟩;have HDo := Aside0.mk hD;have K1 := Aside0.mk (blk_below K0.out hD.2.2);have C1 := Aside0.mk (HS.out.cache.below (below_then B0.out B0.out.size hD.2.2));clear hD;have k0 : w1.cell? ⟨w.heap.size,0,none⟩ = some (.int .i64 d) := (blk_cell K1.out 0).trans rfl;have k1 : w1.cell? ⟨w.heap.size,1,none⟩ = some (.int .i64 id) := (blk_cell K1.out 1).trans rfl;have k2 : w1.cell? ⟨w.heap.size,2,none⟩ = some (.float .f64 wt) := (blk_cell K1.out 2).trans rfl) | (go_at_call 15;refine (forget_live C1.out id).mono ?_;rw [QE.out,QK.out];rintro e w2 ⟨rfl,hA⟩;have HA := Aside0.mk hA;clear hA))
  go_ret2;have hres := fun hS => DoesOut.mk' B0.out HDo.out HS.out.cache HA.out hS
  simp only [beq_self_eq_true,Bool.and_self,Bool.and_true] at hres ⊢;exact hres (HS.out.ok.forget id)
end Go.Proofs.YtblemmagkehanaaGreat.PA
