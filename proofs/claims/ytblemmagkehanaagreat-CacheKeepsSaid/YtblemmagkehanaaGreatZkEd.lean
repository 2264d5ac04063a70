/- What is compared with itself is the same; a call whatever it is; is. Conditions: those that each theorem names. -/
import Derived.Test.YtblemmagkehanaaGreatZkEb
import Derived.Test.YtblemmagkehanaaGreatZkCr
import Derived.Test.YtblemmagkehanaaGreatZkMn
import Derived.Test.YtblemmagkehanaaGreatZkPAx0
import Derived.Test.YtblemmagkehanaaGreatZkPAx7
import Derived.Test.YtblemmagkehanaaGreatZkPAx8
import Derived.Test.YtblemmagkehanaaGreatZkPAx14
namespace Go.Proofs.YtblemmagkehanaaGreat.PA
open Go.RowKit Go.Proofs.YtblemmagkehanaaGreatW.PrintWords Go.Proofs.YtblemmagkehanaaGreatW.PrintLast Go.Proofs.YtblemmagkehanaaGreatW.PrintMore
set_option linter.unusedVariables false
set_option linter.unusedSimpArgs false
theorem sameN_l0 (l : List S61) (hl : l.length < 4611686018427387904) : ∀ (n i k : Nat),i + n = l.length → 2 * n + 1 ≤ k → beaconref06_SameNews.l0 k l l (i : Int) = some true
  | 0,i,k + 1,e,hk => by
    rw [beaconref06_SameNews.l0,if_neg (by omega)]
  | n + 1,i,k + 2,e,hk => by
    have ih := sameN_l0 l hl n (i + 1) k (by omega) (by omega);rw [beaconref06_SameNews.l0,if_pos (by omega),if_pos (by omega),if_pos (by omega),if_pos rfl,if_pos rfl,if_pos rfl,if_pos rfl,bne_self_eq_false,beaconref06_SameNews.j1,if_neg (by decide),next64 _ (by omega),ih]
theorem sameN_ref (l : List S61) (hl : l.length < 4611686018427387904) (k : Nat) (hk : 2 * l.length + 1 ≤ k) : beaconref06_SameNews.f k l l = some true := by
  unfold beaconref06_SameNews.f;rw [if_pos rfl];exact sameN_l0 l hl l.length 0 k (by omega) hk
def ActW (a : S31) : Prop := a.f2 < 18446744073709551616 ∧ WordsN a.f3 ∧ a.f3.length < 3518437208883
theorem does_any {w : World} {g b : Nat} {L : List Nb} {A : Option Addr} {c : Nat} {m : List S43} (h : StateAt w g b L A c m) (a : S31) (ha : ActW a) {B : Option Addr} {cB : Nat} (hN : Kd.C k61 w B a.f3.length a.f3) (hcB : a.f3.length ≤ cB) :
    Calls Tryz.prog 8 #[.pointer (some ⟨g,0,none⟩),.slice A m.length c,.agg #[.int .i64 a.f0,.int .i64 a.f1,.float .f64 a.f2,.slice B a.f3.length cB]] w fun e w' => DoesOut w g b L e w' := by
  obtain ⟨d,id,wt,ns⟩ := a
  by_cases d0 : d = 0
  · subst d0;exact does_add h id wt _ ⟨B,_,cB,rfl⟩ ha.1
  by_cases d1 : d = 1
  · subst d1;exact does_weigh h id wt _ ⟨B,_,cB,rfl⟩ ha.1
  by_cases d2 : d = 2
  · subst d2;exact does_remove h id wt _ ⟨B,_,cB,rfl⟩
  by_cases d3 : d = 3
  · subst d3;exact does_learn h id wt hN hcB ha.2.1 ha.2.2
  exact does_forget h d d0 d1 d2 d3 id wt _ ⟨B,_,cB,rfl⟩
structure PlayAt (w0 wr : World) (g b : Nat) (L : List Nb) (A : Option Addr) (c : Nat) (m : List S43) : Prop where
  st : StateAt wr g b L A c m
  old : Below w0.heap.size w0 wr
  far : w0.heap.size ≤ b ∧ ∀ e ∈ L,w0.heap.size ≤ e.p
theorem StateAt.below {w w1 : World} {g b : Nat} {L : List Nb} {A : Option Addr} {c : Nat} {m : List S43} (h : StateAt w g b L A c m) (hb : Below w.heap.size w w1) : StateAt w1 g b L A c m := ⟨h.cache.below hb,Kd.C_below h.doc hb,h.room,h.ok⟩
theorem PlayAt.below {w0 w w1 : World} {g b : Nat} {L : List Nb} {A : Option Addr} {c : Nat} {m : List S43} (h : PlayAt w0 w g b L A c m) (hb : Below w.heap.size w w1) : PlayAt w0 w1 g b L A c m := ⟨h.st.below hb,below_then h.old h.old.size hb,h.far⟩
theorem OpOut.old {w0 w w' : World} {g b : Nat} {L L' : List Nb} (h : OpOut w g b L L' w') (ho : Below w0.heap.size w0 w) (hf : w0.heap.size ≤ b ∧ ∀ e ∈ L,w0.heap.size ≤ e.p) : Below w0.heap.size w0 w' ∧ w0.heap.size ≤ b ∧ ∀ e ∈ L',w0.heap.size ≤ e.p := by
  obtain ⟨x,hx,hg⟩ := h.row;refine ⟨pw_below_grown ho (some x) ho.size hg (fun k e => ?_),hf.1,fun e he => ?_⟩
  · cases e
    rcases hx with h1 | ⟨e,he,h1⟩
    · rw [h1];exact hf.1
    rw [← h1];exact hf.2 e he
  rcases h.ps e he with ⟨e',he',h1⟩ | h1
  · rw [← h1];exact hf.2 e' he'
  exact Nat.le_trans ho.size h1
theorem PlayAt.does {w0 w w' : World} {g b : Nat} {L : List Nb} {A : Option Addr} {c : Nat} {m : List S43} {e : Ending} (h : PlayAt w0 w g b L A c m) (hd : DoesOut w g b L e w') : ∃ A' c' L' m',e = .returned (.tuple #[.slice A' m'.length c',.bool true]) ∧ PlayAt w0 w' g b L' A' c' m' := by
  obtain ⟨A',c',L',m',rfl,hs,ho⟩ := hd;obtain ⟨h1,h2,h3⟩ := ho.old h.old h.far;exact ⟨A',c',L',m',rfl,hs,h1,h2,h3⟩
end Go.Proofs.YtblemmagkehanaaGreat.PA
namespace Go.Proofs.YtblemmagkehanaaGreat.PA
open Go.RowKit Go.Proofs.YtblemmagkehanaaGreatW.PrintWords Go.Proofs.YtblemmagkehanaaGreatW.PrintLast Go.Proofs.YtblemmagkehanaaGreatW.PrintMore
set_option linter.unusedVariables false
set_option linter.unusedSimpArgs false
def nA : S61 := ⟨7,1,4613937818241073152,0,0⟩
theorem ev_w : wE 4609434218613702656 = 0 := by kernel_rfl
theorem ev_ris : risFrom [nA] [nA].length 0 = true := by kernel_rfl
theorem ev_cnt : cntAt [] [nA] [nA].length = 1 := by kernel_rfl
theorem ev_fold : foldN [] [nA] = [nA] := by kernel_rfl
def lA (p : Nat) (A : Option Addr) (c : Nat) : List Nb := [⟨2,p,4609434218613702656,A,c,[nA]⟩]
theorem ev_turn (p : Nat) (A : Option Addr) (c : Nat) : nbTurn 2 (nbLearn A c (foldN [] [nA])) ([] ++ [nbNew 2 4609434218613702656 p]) = lA p A c := by
  rw [ev_fold];rfl
theorem ev_dst (p : Nat) (A : Option Addr) (c : Nat) : (keysV (seenM (dstP 1 (lA p A c)))).length = 1 := by
  have h : ∀ l : List (Int × Value),(keysV l).length = l.length := fun l => by unfold keysV;rw [List.length_mergeSort,List.length_map]
  rw [h];unfold seenM;rw [List.length_map];have hi : idsV (lA p A c) = [2] := by simp [idsV,keysV,nbM,lA]
  unfold dstP;rw [hi];rfl
theorem ev_ok (p : Nat) : StOk ([] ++ [nbNew 2 4609434218613702656 p]) (insH ⟨2,4609434218613702656,[]⟩ []) := by
  refine StOk.add (L := []) (m := []) ⟨List.Perm.refl _,List.Pairwise.nil,fun e he => (by cases he),fun e he => (by cases he),by decide⟩ p ?_;unfold addE;rw [ev_w];rfl
theorem ev_add : addE [] 2 4609434218613702656 = 0 := by
  unfold addE;rw [ev_w];rfl
theorem ev_le (p : Nat) : learnE ([] ++ [nbNew 2 4609434218613702656 p]) 2 [nA] = 0 := by
  show (if risFrom [nA] [nA].length 0 = true then (0 : Int) else 1) = 0
  rw [ev_ris,if_pos rfl]
theorem ev_ln (p : Nat) : learnN ([] ++ [nbNew 2 4609434218613702656 p]) 2 [nA] = 1 := by
  show (if risFrom [nA] [nA].length 0 = true then ((cntAt [] [nA] [nA].length : Nat) : Int) else 0) = 1
  rw [ev_ris,if_pos rfl,ev_cnt];rfl
theorem ev_to {s p : Nat} {L' : List Nb} (h : LearnTo s ([] ++ [nbNew 2 4609434218613702656 p]) 2 [nA] L') : ∃ A c,L' = lA p A c := by
  have h2 : if risFrom [nA] [nA].length 0 = true then ∃ A c,L' = nbTurn 2 (nbLearn A c (foldN [] [nA])) ([] ++ [nbNew 2 4609434218613702656 p]) ∧ ∀ ad,A = some ad → s ≤ ad.block else L' = [] ++ [nbNew 2 4609434218613702656 p] := h
  rw [ev_ris,if_pos rfl] at h2;obtain ⟨A,c,hl,_⟩ := h2;rw [ev_turn] at hl;exact ⟨A,c,hl⟩
theorem ev_ok2 (p : Nat) (A : Option Addr) (c : Nat) : ∃ m,StOk (lA p A c) m ∧ m.length = 1 := by
  have h := (ev_ok p).turn (f := nbLearn A c (foldN [] [nA])) (f' := fun h => ⟨h.f0,h.f1,foldN [] [nA]⟩) (id := 2) (fun _ _ _ => rfl) (fun _ => rfl) (fun _ => rfl) (fun e _ _ => by
    rw [ev_fold];exact ris_news ev_ris)
  rw [ev_turn] at h;exact ⟨_,h,rfl⟩
theorem ev_out {w1 w2 : World} {g b : Nat} (h : AddOut w1 g b [] 2 4609434218613702656 w2) : ∃ p,CacheAt w2 g b ([] ++ [nbNew 2 4609434218613702656 p]) ∧ w1.heap.size ≤ p ∧ w1.grownBy w2 (some b) := by
  rcases h with ⟨h1,_,_⟩ | ⟨_,p,h2,h3,h4⟩
  · exact absurd ev_add h1
  exact ⟨p,h3,h2,h4⟩
theorem ev_learn {w : World} {g b p : Nat} (h : CacheAt w g b ([] ++ [nbNew 2 4609434218613702656 p])) {Av : Option Addr} {cv : Nat} (hC : Kd.C k61 w Av [nA].length [nA]) (hc : [nA].length ≤ cv) :
    Calls Tryz.prog 11 #[.pointer (some ⟨g,0,none⟩),.int .i64 2,.slice Av 1 cv] w fun e w' => ∃ A c,e = .returned (.tuple #[.int .i64 1,.int .i64 0]) ∧ OpOut w g b ([] ++ [nbNew 2 4609434218613702656 p]) (lA p A c) w' := by
  refine (learn_any h (ev_ok p) 2 hC hc (fun n hn => ?_) (by decide)).mono ?_
  · rw [List.mem_singleton.1 hn]
    decide
  rw [ev_le,ev_ln];rintro e w' ⟨L',rfl,hO,hL⟩;obtain ⟨A,c,rfl⟩ := ev_to hL;exact ⟨A,c,rfl,hO⟩
theorem ev_all {w : World} {g b p : Nat} {A : Option Addr} {c : Nat} (h : CacheAt w g b (lA p A c)) : Calls Tryz.prog 24 #[.pointer (some ⟨g,0,none⟩)] w fun e w' => ∃ A c,e = .returned (.slice A 1 c) ∧ Below w.heap.size w w' := by
  obtain ⟨m,hS,hm⟩ := ev_ok2 p A c;refine (all_live h hS.ids (show 1 ≤ 2147483647 by decide)).mono ?_;rintro e w' ⟨v,rfl,hR,hb⟩;rw [hS.all h.ids] at hR;obtain ⟨A1,c1,rfl,_,_⟩ := Kd.S_reads hR;rw [hm];exact ⟨A1,c1,rfl,hb⟩
theorem ev_dests {w : World} {g b p : Nat} {A : Option Addr} {c : Nat} (h : CacheAt w g b (lA p A c)) : Calls Tryz.prog 21 #[.pointer (some ⟨g,0,none⟩),.int .i64 1] w fun e w' => ∃ A c,e = .returned (.slice A 1 c) ∧ Below w.heap.size w w' := by
  obtain ⟨m,hS,hm⟩ := ev_ok2 p A c;refine (dests_live h hS.ids (show 1 ≤ 2147483647 by decide) hS.news 1).mono ?_;rintro e w' ⟨v,rfl,hR,hb⟩;obtain ⟨A1,c1,rfl,_,_⟩ := Kd.R_reads hR;rw [ev_dst];exact ⟨A1,c1,rfl,hb⟩
set_option maxHeartbeats 2000000 in
set_option maxRecDepth 10000 in
theorem awake_any (w : World) : Calls Tryz.prog 10 #[] w fun e w' => e = .returned (.bool true) ∧ Below w.heap.size w w' := by
  go_enter Tryz.func10,Tryz.ntmps10
  go_wp2_with (first | (go_at_call 7;refine (cache_new _).mono ?_;rintro e w1 ⟨g,b,rfl,hg,hb,hC,hB⟩;have HG := Aside0.mk hb;have C1 := Aside0.mk hC;have HB1 := Aside0.mk hB;clear hg hb hC hB) | (go_at_call 25;refine (add_live C1.out 2 4609434218613702656 (by decide)).mono ?_;rw [ev_add];rintro e w2 ⟨rfl,hA⟩;obtain ⟨p,h2,h3,h4⟩ := ev_out hA;have C2 := Aside0.mk h2;have HP := Aside0.mk (Nat.le_trans HB1.out.size h3);have HB2 := Aside0.mk (pw_below_grown HB1.out (some b) HB1.out.size h4 (fun k e => by cases e;exact HG.out));clear hA h2 h3 h4) | (go_at_call 32;refine (beaconlaw13_mark.calls 7 4613937818241073152 [nA] _ rfl).mono ?_;rintro e w3 ⟨v,rfl,hR,hb⟩;obtain ⟨Av,cv,ev⟩ := Kd.R_slice hR;subst ev;have HR := Aside0.mk hR;have HB3 := Aside0.mk (below_then HB2.out HB2.out.size hb);have C3 := Aside0.mk (C2.out.below hb);clear hb hR) | (go_at_call 11;refine (ev_learn C3.out (Kd.R_reads' HR.out).2.2 (Kd.R_reads' HR.out).2.1).mono ?_;rintro e w4 ⟨A4,c4,rfl,hO⟩;have C4 := Aside0.mk hO.at_;have HB4 := Aside0.mk (hO.old HB3.out ⟨HG.out,fun e he => by rw [List.mem_singleton.1 he];exact HP.out⟩).1;clear hO) | (go_at_call 24;refine (ev_all C4.out).mono ?_;rintro e w5 ⟨A5,c5,rfl,hb⟩;have HB5 := Aside0.mk (below_then HB4.out HB4.out.size hb);have C5 := Aside0.mk (C4.out.below hb);clear hb) | (go_at_call 21;refine (ev_dests C5.out).mono ?_;rintro e w6 ⟨A6,c6,rfl,hb⟩;have HB6 := Aside0.mk (below_then HB5.out HB5.out.size hb);clear hb))
  go_ret;exact ⟨rfl,HB6.out⟩
end Go.Proofs.YtblemmagkehanaaGreat.PA
