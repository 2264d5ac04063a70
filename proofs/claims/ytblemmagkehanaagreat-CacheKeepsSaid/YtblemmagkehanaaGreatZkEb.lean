/- Learn, on both caches. Conditions: the news are words and fit in memory. -/
import Derived.Test.YtblemmagkehanaaGreatZkMn
import Derived.Test.YtblemmagkehanaaGreatZkEa
namespace Go.Proofs.YtblemmagkehanaaGreat.PA
open Go.RowKit Go.Proofs.YtblemmagkehanaaGreatW.PrintWords Go.Proofs.YtblemmagkehanaaGreatW.PrintLast Go.Proofs.YtblemmagkehanaaGreatW.PrintMore
set_option linter.unusedVariables false
set_option linter.unusedSimpArgs false
def learnE (L : List Nb) (id : Int) (ns : List S61) : Int := match nbGet id L with | none => 4 | some _ => if risFrom ns ns.length 0 = true then 0 else 1
def learnN (L : List Nb) (id : Int) (ns : List S61) : Int := match nbGet id L with | none => 0 | some e => if risFrom ns ns.length 0 = true then ((cntAt e.news ns ns.length : Nat) : Int) else 0
def learnM (L : List Nb) (id : Int) (ns : List S61) (m : List S43) : List S43 := match nbGet id L with | none => m | some e => if risFrom ns ns.length 0 = true then hdTurn id (fun h => ⟨h.f0,h.f1,foldN e.news ns⟩) m else m
def LearnTo (s : Nat) (L : List Nb) (id : Int) (ns : List S61) (L' : List Nb) : Prop := match nbGet id L with | none => L' = L | some e => if risFrom ns ns.length 0 = true then ∃ A c,L' = nbTurn id (nbLearn A c (foldN e.news ns)) L ∧ ∀ ad,A = some ad → s ≤ ad.block else L' = L
theorem learn_any {w : World} {g b : Nat} {L : List Nb} {m : List S43} (h : CacheAt w g b L) (hs : StOk L m) (id : Int) {B : Option Addr} {cB : Nat} {ns : List S61} (hN : Kd.C k61 w B ns.length ns) (hc : ns.length ≤ cB) (hw : WordsN ns) (hl : ns.length ≤ 4611686018427387903) :
    Calls Tryz.prog 11 #[.pointer (some ⟨g,0,none⟩),.int .i64 id,.slice B ns.length cB] w fun e w' => ∃ L',e = .returned (.tuple #[.int .i64 (learnN L id ns),.int .i64 (learnE L id ns)]) ∧ OpOut w g b L L' w' ∧ LearnTo w.heap.size L id ns L' := by
  unfold learnN learnE LearnTo
  cases hg : nbGet id L with
  | none =>
    refine (learn_none h hg B ns.length cB).mono ?_;rintro e w' ⟨rfl,rfl⟩;exact ⟨L,rfl,OpOut.same h (Below.refl _ _),rfl⟩
  | some x =>
    cases hr : risFrom ns ns.length 0 with
    | false =>
      refine (learn_bad h hg hN hc hw hl hr).mono ?_;rintro e w' ⟨rfl,hb⟩;exact ⟨L,rfl,OpOut.same h hb,rfl⟩
    | true =>
      have hx := hs.news x (nbGet_mem hg).1;have hn := ris_news hr;have ho : ∀ j,outAt x.news ns j = foldN x.news (ns.take j) := out_fold x.news ns;refine (learn_ok h hg hN hc hw hl hr (fun j hj => ?_) ?_).mono ?_
      · rw [ho j]
        have h1 := NewsOk.fold hx hn j;have h2 := h1.len;exact ⟨mono_asc h1.1 _,by omega⟩
      · rw [ho]
        have h1 := NewsOk.fold hx hn ns.length;have h2 := h1.len;omega
      rintro e w' ⟨A,c,rfl,hO,ha⟩;rw [ho,List.take_length] at hO;exact ⟨_,rfl,hO,A,c,rfl,ha⟩
theorem doc_learn_any {w : World} {A B : Option Addr} {c cB : Nat} {L : List Nb} {m : List S43} {ns : List S61} (h : Kd.C k43 w A m.length m) (hc : m.length ≤ c) (hs : StOk L m) (id : Int) (hN : Kd.C k61 w B ns.length ns) (hcB : ns.length ≤ cB) (hnl : ns.length < 4611686018427387904) :
    Calls Tryz.prog 12 #[.slice A m.length c,.int .i64 id,.slice B ns.length cB] w fun e w' => ∃ A' c',e = .returned (.tuple #[.slice A' (learnM L id ns m).length c',.int .i64 (learnN L id ns),.int .i64 (learnE L id ns)]) ∧ DocOut w (learnM L id ns m) A' c' w' := by
  have hml : m.length < 4611686018427387904 := by have := hs.fit.1;omega
  unfold learnN learnE learnM
  cases hg : nbGet id L with
  | none => exact doc_learn_none h hc hml (hs.no hg) _
  | some x =>
    obtain ⟨j,hj,hji,hje⟩ := hs.yes hg
    cases hr : risFrom ns ns.length 0 with
    | false => exact doc_learn_bad h hc hml hji hN hcB hnl hr
    | true =>
      have e1 : m[j].f2 = x.news := by rw [hje];rfl
      have := doc_learn_ok h hc hs.fit hs.asc hji hj hN hcB hnl hr (by rw [e1];exact hs.news x (nbGet_mem hg).1);rw [e1] at this;exact this
theorem StOk.learn {s : Nat} {L L' : List Nb} {m : List S43} (h : StOk L m) {id : Int} {ns : List S61} (hL : LearnTo s L id ns L') : StOk L' (learnM L id ns m) := by
  unfold LearnTo at hL;unfold learnM
  cases hg : nbGet id L with
  | none => rw [hg] at hL;simp only at hL;subst hL;exact h
  | some x =>
    rw [hg] at hL;simp only at hL
    cases hr : risFrom ns ns.length 0 with
    | false => rw [hr] at hL;simp only [Bool.false_eq_true,if_false] at hL ⊢;subst hL;exact h
    | true =>
      rw [hr] at hL;simp only [if_true] at hL ⊢;obtain ⟨A,c,rfl,_⟩ := hL;have hx := h.news x (nbGet_mem hg).1;refine h.turn (fun _ _ _ => rfl) (fun _ => rfl) (fun _ => rfl) (fun e _ _ => ?_);have := NewsOk.fold hx (ris_news hr) ns.length
      rwa [List.take_length] at this
theorem OpOut.cell {w0 w w' : World} {g b : Nat} {L L' : List Nb} (h0 : CacheAt w0 g b L) (h : OpOut w g b L L' w') {p : Addr} {v : Value} (hp : w0.heap.size ≤ p.block) (hv : w.cell? p = some v) : w'.cell? p = some v := by
  obtain ⟨x,hx,hg⟩ := h.row;have : x < w0.heap.size := by
    rcases hx with h1 | ⟨e,he,h1⟩
    · rw [h1];exact h0.lt.2.1
    rw [← h1];exact h0.lt.2.2 e he
  exact hg.cell hv (fun e => by cases e;omega)
set_option maxHeartbeats 8000000 in
set_option maxRecDepth 1000000 in
theorem does_learn {w : World} {g b : Nat} {L : List Nb} {A : Option Addr} {c : Nat} {m : List S43} (h : StateAt w g b L A c m) (id : Int) (wt : Nat) {B : Option Addr} {cB : Nat} {ns : List S61} (hN : Kd.C k61 w B ns.length ns) (hcB : ns.length ≤ cB) (hw : WordsN ns) (hnl : ns.length < 3518437208883) :
    Calls Tryz.prog 8 #[.pointer (some ⟨g,0,none⟩),.slice A m.length c,.agg #[.int .i64 3,.int .i64 id,.float .f64 wt,.slice B ns.length cB]] w fun e w' => DoesOut w g b L e w' := by
  have HS := Aside0.mk h;have HN := Aside0.mk hN;have hu31 := Tryz.underlying31;obtain ⟨w0,hw0⟩ : ∃ w0,w0 = w.alloc (.cells #[.int .i64 3,.int .i64 id,.float .f64 wt,.slice B ns.length cB] 31) := ⟨_,rfl⟩
  have B0 : Aside0 (Below w.heap.size w w0) := ⟨by rw [hw0];exact below_alloc (Below.refl _ _) _⟩
  have K0 : Aside0 (w0.heap[w.heap.size]? = some (.cells #[.int .i64 3,.int .i64 id,.float .f64 wt,.slice B ns.length cB] 31 (0,0))) := ⟨by rw [hw0];exact blk_new w _⟩
  have DM := Aside0.mk (doc_learn_any (Kd.C_below h.doc B0.out) h.room h.ok id (Kd.C_below hN B0.out) hcB (by omega));have LM := Aside0.mk (fun (W : World) (hb : Below w.heap.size w W) (B' : Option Addr) (cB' : Nat) (hN' : Kd.C k61 W B' ns.length ns) (hc' : ns.length ≤ cB') => learn_any (h.cache.below hb) h.ok id hN' hc' hw (by omega));have NB := Aside0.mk (fun (W : World) (hb : Below w.heap.size w W) => news_b (Kd.C_below hN hb) hcB hnl);obtain ⟨q,hq⟩ : ∃ q,learnE L id ns = q := ⟨_,rfl⟩
  obtain ⟨k,hk⟩ : ∃ k,learnN L id ns = k := ⟨_,rfl⟩
  rw [hq,hk] at DM;simp only [hq,hk] at LM;clear h hN hq hk hw hnl hcB;go_enter Tryz.func8,Tryz.ntmps8
  go_wp2_with (go_at_call 12;rw [← hw0];refine DM.out.mono ?_;rintro e w1 ⟨A',c',rfl,hD⟩;have HDo := Aside0.mk hD;have K1 := Aside0.mk (blk_below K0.out hD.2.2);have HB1 := Aside0.mk (below_then B0.out B0.out.size hD.2.2);clear hD;have k1 : w1.cell? ⟨w.heap.size,1,none⟩ = some (.int .i64 id) := (blk_cell K1.out 1).trans rfl;have k3 : w1.cell? ⟨w.heap.size,3,none⟩ = some (.slice B ns.length cB) := (blk_cell K1.out 3).trans rfl)
  go_cut [17,18] from 94 to 103 (fun s17 s18 wx => s17 = .int .i64 k ∧ s18 = .int .i64 q ∧ ∃ (w4 : World) (L' : List Nb),Aside0 (Below w1.heap.size w1 w4) ∧ Aside0 (OpOut w4 g b L L' wx) ∧ Aside0 (LearnTo w4.heap.size L id ns L'))
  case first =>
    · skip
      refine start_ (n := 12) (S := fun w' => w'.cell? ⟨w.heap.size,1,none⟩ = some (.int .i64 id) ∧ w'.cell? ⟨w.heap.size,3,none⟩ = some (.slice B ns.length cB)) (ds := []) #[false,false,false,false,false,false,false,false,false,false,false,false] (by kernel_rfl) rfl rfl ⟨k1,k3⟩ (fun hHeld => ?_);refine manyD_ (fuel := 7) (a' := ?_) ((0,0) :: (1,0) :: (3,0) :: (2,2) :: (4,2) :: []) #[true,true,true,true,true,false,false,false,false,false,false,false] rfl (by kernel_rfl) (fun _ _ _ _ _ h => h) (fun _ => hHeld) ?_ ?_;rotate_left
      · repeat (first | exact Chain.nil _ | (apply Chain.on;rfl;rfl;(focus intro w';go_simp;with_reducible rfl);(focus simp only [Act.put,List.setIfInBounds_toArray,List.set_cons_zero,List.set_cons_succ,i64_w,i32_w];rfl)) | (apply Chain.take;rfl;rfl;(focus rintro w' ⟨s0,s1⟩;go_simp;with_reducible rfl);(focus simp only [Act.put,List.setIfInBounds_toArray,List.set_cons_zero,List.set_cons_succ,i64_w,i32_w];rfl)))
      refine one_ (i := 5) (N := some 100) #[true,true,true,true,true,true,false,false,false,false,false,false] rfl rfl (by kernel_rfl) (by decide) (fun K hK => ?_);refine goes_ Tryz.func23 (by kernel_rfl) rfl #[.slice B ns.length cB] (by rfl) rfl rfl (by simp only [List.map_toArray,List.map_cons,List.map_nil];rfl) ?_
      with_reducible refine (NB.out _ (below_then HB1.out HB1.out.size (below_drew (Below.refl _ _)))).mono ?_
      rintro e w3 ⟨v3,rfl,hR,hb⟩;refine ⟨_,rfl,?_⟩;obtain ⟨Av,cv,ev⟩ := Kd.R_slice hR;subst ev;have HR := Aside0.mk hR;have HB3 := Aside0.mk (below_then (below_drew (Below.refl w1.heap.size w1)) (Nat.le_refl _) hb);clear hR hb;have a0 := pw_cell_below HB3.out k1;have a1 := pw_cell_below HB3.out k3;refine hK.out _ _ ⟨a0,a1⟩ (fun hHeld => ?_);clear hK K;refine norm_ (a' := ?_) ?_ ?_;rotate_left
      · show Act.put _ (some 100) _ = _
        simp only [Act.put,List.setIfInBounds_toArray,List.set_cons_zero,List.set_cons_succ,i64_w,i32_w];rfl
      refine one_ (i := 6) (N := some 101) #[true,true,true,true,true,true,true,false,false,false,false,false] rfl rfl (by kernel_rfl) (by decide) (fun K hK => ?_);refine goes_ Tryz.func11 (by kernel_rfl) rfl #[.pointer (some ⟨g,0,none⟩),.int .i64 id,.slice Av ns.length cv] (by rfl) rfl rfl (by simp only [List.map_toArray,List.map_cons,List.map_nil];rfl) ?_
      with_reducible refine (LM.out _ (below_then HB1.out HB1.out.size HB3.out) Av cv (Kd.R_reads' HR.out).2.2 (Kd.R_reads' HR.out).2.1).mono ?_
      rintro e w5 ⟨L',rfl,hO,hL⟩;refine ⟨_,rfl,?_⟩;have HA := Aside0.mk hO;have HL := Aside0.mk hL;have j0 := OpOut.cell HS.out.cache hO (Nat.le_refl _) a0;have j1 := OpOut.cell HS.out.cache hO (Nat.le_refl _) a1;clear hO hL;refine hK.out _ _ ⟨j0,j1⟩ (fun hHeld => ?_);clear hK K;refine norm_ (a' := ?_) ?_ ?_;rotate_left
      · show Act.put _ (some 101) _ = _
        simp only [Act.put,List.setIfInBounds_toArray,List.set_cons_zero,List.set_cons_succ,i64_w,i32_w];rfl
      refine manyD_ (fuel := 0) (a' := ?_) ((7,0) :: (8,0) :: (9,0) :: (10,0) :: (11,0) :: []) #[true,true,true,true,true,true,true,true,true,true,true,true] rfl (by kernel_rfl) (fun _ _ _ _ _ h => h) (fun h => absurd h (by decide)) ?_ ?_;rotate_left
      · repeat (first | exact Chain.nil _ | (apply Chain.on;rfl;rfl;(focus intro w';go_simp;with_reducible rfl);(focus simp only [Act.put,List.setIfInBounds_toArray,List.set_cons_zero,List.set_cons_succ,i64_w,i32_w];rfl)))
      refine done_ (by kernel_rfl) ?_
      go_wp2_with fail
      go_meet
      exact ⟨rfl,rfl,w3,L',HB3,HA,HL⟩
  case rest =>
    obtain ⟨rfl,rfl,w4,L',HB4,HA,HL⟩ := hcut
    go_wp2_with fail
    go_ret2;have hres := fun hS => DoesOut.mk' B0.out HDo.out HS.out.cache (HA.out.after HB4.out) hS
    simp only [beq_self_eq_true,Bool.and_self,Bool.and_true] at hres ⊢;exact hres (HS.out.ok.learn HL.out)
end Go.Proofs.YtblemmagkehanaaGreat.PA
