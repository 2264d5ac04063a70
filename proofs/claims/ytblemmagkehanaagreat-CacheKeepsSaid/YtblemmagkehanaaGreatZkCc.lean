/- A cache that was made: Weigh, Forget, List. No condition but those that each theorem names. -/
import Derived.Test.YtblemmagkehanaaGreatZkCb
namespace Go.Proofs.YtblemmagkehanaaGreat.PA
open Go.RowKit Go.Proofs.YtblemmagkehanaaGreatW.PrintWords Go.Proofs.YtblemmagkehanaaGreatW.PrintLast Go.Proofs.YtblemmagkehanaaGreatW.PrintMore
set_option linter.unusedVariables false
set_option linter.unusedSimpArgs false
structure OpOut (w : World) (g b : Nat) (L L' : List Nb) (w' : World) : Prop where
  at_ : CacheAt w' g b L'
  row : ∃ x,(x = b ∨ ∃ e ∈ L,e.p = x) ∧ w.grownBy w' (some x)
  ps : ∀ e ∈ L',(∃ e' ∈ L,e'.p = e.p) ∨ w.heap.size ≤ e.p
theorem OpOut.same {w w' : World} {g b : Nat} {L : List Nb} (h : CacheAt w g b L) (hb : Below w.heap.size w w') : OpOut w g b L L w' := ⟨h.below hb,⟨b,.inl rfl,grown_of_below hb _⟩,fun e he => .inl ⟨e,he,rfl⟩⟩
theorem CacheAt.odd {w : World} {g b : Nat} {L : List Nb} (h : CacheAt w g b L) {x : Nat} (hx : x = b ∨ ∃ e ∈ L,e.p = x) : Odd w x := by
  rcases hx with rfl | ⟨e,he,rfl⟩
  · exact odd_map h.map
  exact odd_nb (h.nb e he).1
theorem grown_cell (W : World) (p : Addr) (v : Value) : W.grownBy (W.setCell p v) (some p.block) :=
  ⟨rfl,rfl,rfl,by simp,fun i hi hne => Below.heap_setCell W p v i (fun e => hne (by rw [e]))⟩
theorem turn_mem {id : Int} {f : Nb → Nb} (hf : ∀ e,(f e).p = e.p) {L : List Nb} {e : Nb} (h : e ∈ nbTurn id f L) : ∃ e' ∈ L,e'.p = e.p := by
  obtain ⟨x,hx,rfl⟩ := List.mem_map.1 h;refine ⟨x,hx,?_⟩
  split
  · exact (hf x).symm
  rfl
theorem turn_none {id : Int} {f : Nb → Nb} {L : List Nb} (h : nbGet id L = none) : nbTurn id f L = L := by
  unfold nbTurn
  conv => rhs;rw [← List.map_id L]
  refine List.map_congr_left fun x hx => ?_
  have : x.id ≠ id := fun e => nbGet_none.1 h (by rw [← e];exact List.mem_map_of_mem hx)
  rw [if_neg this];rfl
theorem CacheAt.store {w w1 : World} {g b : Nat} {L : List Nb} (h : CacheAt w g b L) (hb : Below w.heap.size w w1) {id : Int} {e : Nb} (he : nbGet id L = some e) {j : Nat} {v : Value} (f : Nb → Nb) (hf : ∀ x,(f x).p = x.p) (hi : ∀ x,(f x).id = x.id)
    (hn : (#[Value.float .f64 e.wt,.slice e.A e.news.length e.c].setIfInBounds j v) = #[.float .f64 (f e).wt,.slice (f e).A (f e).news.length (f e).c]) (hC : Kd.C k61 w1 (f e).A (f e).news.length (f e).news) (hl : (f e).news.length ≤ (f e).c ∧ ((f e).A = none → (f e).c = 0) ∧ (f e).news.length ≤ 4294967296) :
    OpOut w g b L (nbTurn id f L) (w1.setCell ⟨e.p,j,none⟩ v) := by
  obtain ⟨hm,rfl⟩ := nbGet_mem he;have h1 := h.below hb;have hg := grown_cell w1 ⟨e.p,j,none⟩ v;refine ⟨h1.turn hm hg f hf hi ⟨?_,C61_kept hC (odd_nb (h1.nb e hm).1) hg,hl⟩,⟨e.p,.inr ⟨e,hm,rfl⟩,(grown_of_below hb _).trans hg⟩,fun x hx => .inl (turn_mem hf hx)⟩;rw [hf,blk_set (h1.nb e hm).1 j v,hn]
def weighE (L : List Nb) (id : Int) (wt : Nat) : Int := if wE wt ≠ 0 then wE wt else if (nbGet id L).isSome then 0 else 4
def weighL (L : List Nb) (id : Int) (wt : Nat) : List Nb := if weighE L id wt = 0 then nbTurn id (fun e => { e with wt := wt }) L else L
set_option maxHeartbeats 1000000 in
set_option maxRecDepth 100000 in
theorem weigh_live {w : World} {g b : Nat} {L : List Nb} (h : CacheAt w g b L) (id : Int) (wt : Nat) (hw : wt < 18446744073709551616) :
    Calls Tryz.prog 26 #[.pointer (some ⟨g,0,none⟩),.int .i64 id,.float .f64 wt] w fun e_ w' => e_ = .returned (.int .i64 (weighE L id wt)) ∧ OpOut w g b L (weighL L id wt) w' := by
  have HD := Aside0.mk h;obtain ⟨n,hn⟩ : ∃ n,weighE L id wt = n := ⟨_,rfl⟩
  obtain ⟨L',hL'⟩ : ∃ L',weighL L id wt = L' := ⟨_,rfl⟩
  rw [hn,hL'];obtain ⟨m,hm⟩ : ∃ m,wE wt = m := ⟨_,rfl⟩
  have WM := Aside0.mk (fun W => weight_b wt hw m hm W)
  by_cases h2 : m = 0
  rotate_left
  · have e1 : n = m := by rw [← hn];simp [weighE,hm,h2]
    have e2 : L' = L := by rw [← hL'];simp [weighL,weighE,hm,h2]
    subst e1 e2;have hb : (n != 0) = true := by simpa using h2
    clear h hn hm h2 hL';go_enter Tryz.func26,Tryz.ntmps26
    go_wp2_with (first | (go_at_call 52;refine (is_live HD.out.box).mono ?_;rintro e w' ⟨rfl,rfl⟩) | (go_at_call 54;refine (WM.out _).mono ?_;rintro e w2 ⟨rfl,hb⟩;have HB2 := Aside0.mk hb;clear hb))
    go_ret;exact ⟨rfl,OpOut.same HD.out HB2.out⟩
  subst h2
  cases hg : nbGet id L with
  | none =>
    have e1 : n = 4 := by rw [← hn];simp [weighE,hm,hg]
    have e2 : L' = L := by rw [← hL'];simp [weighL,weighE,hm,hg]
    subst e1 e2;have HG := Aside0.mk hg;clear h hn hm hL' hg;go_enter Tryz.func26,Tryz.ntmps26
    go_wp2_with (first | (go_at_call 52;refine (is_live HD.out.box).mono ?_;rintro e w' ⟨rfl,rfl⟩) | (go_at_call 54;refine (WM.out _).mono ?_;rintro e w2 ⟨rfl,hb⟩;have HB2 := Aside0.mk hb;clear hb) | (go_at_call 33;refine (find_none (HD.out.below HB2.out) HG.out).mono ?_;rintro e w3 ⟨rfl,rfl⟩))
    go_ret;exact ⟨rfl,OpOut.same HD.out HB2.out⟩
  | some e =>
    have e1 : n = 0 := by rw [← hn];simp [weighE,hm,hg]
    have e2 : L' = nbTurn id (fun e => { e with wt := wt }) L := by rw [← hL'];simp [weighL,weighE,hm,hg]
    subst e1 e2;have HG := Aside0.mk hg;have HN := Aside0.mk (h.nb e (nbGet_mem hg).1);clear h hn hm hL' hg;go_enter Tryz.func26,Tryz.ntmps26
    go_wp2_with (first | (go_at_call 52;refine (is_live HD.out.box).mono ?_;rintro e w' ⟨rfl,rfl⟩) | (go_at_call 54;refine (WM.out _).mono ?_;rintro e w2 ⟨rfl,hb⟩;have HB2 := Aside0.mk hb;clear hb) | (go_at_call 33;refine (find_some (HD.out.below HB2.out) HG.out).mono ?_;rintro e w3 ⟨rfl,rfl⟩;have N2 := Aside0.mk (HN.out.below HB2.out);have c0 : w2.cell? ⟨e.p,0,none⟩ = some (.float .f64 e.wt) := (blk_cell N2.out.1 0).trans rfl;have f0 := blk_frozen N2.out.1 0))
    go_ret;exact ⟨rfl,HD.out.store HB2.out HG.out (fun e => { e with wt := wt }) (fun _ => rfl) (fun _ => rfl) rfl N2.out.2.1 N2.out.2.2⟩
def forgetE (L : List Nb) (id : Int) : Int := if (nbGet id L).isSome then 0 else 4
def forgetN (L : List Nb) (id : Int) : Int := (((nbGet id L).map fun e => e.news.length).getD 0 : Nat)
def forgetL (L : List Nb) (id : Int) : List Nb := nbTurn id (fun e => { e with A := none,c := 0,news := [] }) L
set_option maxHeartbeats 1000000 in
set_option maxRecDepth 100000 in
theorem forget_live {w : World} {g b : Nat} {L : List Nb} (h : CacheAt w g b L) (id : Int) :
    Calls Tryz.prog 15 #[.pointer (some ⟨g,0,none⟩),.int .i64 id] w fun e_ w' => e_ = .returned (.tuple #[.int .i64 (forgetN L id),.int .i64 (forgetE L id)]) ∧ OpOut w g b L (forgetL L id) w' := by
  have HD := Aside0.mk h
  cases hg : nbGet id L with
  | none =>
    have e1 : forgetN L id = 0 := by simp [forgetN,hg]
    have e2 : forgetE L id = 4 := by simp [forgetE,hg]
    have e3 : forgetL L id = L := turn_none hg;rw [e1,e2,e3];have HF := Aside0.mk (find_none h hg);clear h e1 e2 e3 hg;go_enter Tryz.func15,Tryz.ntmps15
    go_wp2_with (go_at_call 33;refine HF.out.mono ?_;rintro e w3 ⟨rfl,rfl⟩)
    go_ret2;exact ⟨rfl,OpOut.same HD.out (Below.refl _ _)⟩
  | some e =>
    have e1 : forgetN L id = (e.news.length : Int) := by simp [forgetN,hg]
    have e2 : forgetE L id = 0 := by simp [forgetE,hg]
    rw [e1,e2];have HF := Aside0.mk (find_some h hg);have HG := Aside0.mk hg;have HN := Aside0.mk (h.nb e (nbGet_mem hg).1);have c1 : w.cell? ⟨e.p,1,none⟩ = some (.slice e.A e.news.length e.c) := (blk_cell HN.out.1 1).trans rfl;have f1 := blk_frozen HN.out.1 1;clear h e1 e2 hg;go_enter Tryz.func15,Tryz.ntmps15
    go_wp2_with (go_at_call 33;refine HF.out.mono ?_;rintro e w3 ⟨rfl,rfl⟩)
    go_ret2;exact ⟨rfl,HD.out.store (Below.refl _ _) HG.out (fun e => { e with A := none,c := 0,news := [] }) (fun _ => rfl) (fun _ => rfl) rfl (C61_nil _ _) ⟨Nat.le_refl _,fun _ => rfl,Nat.zero_le _⟩⟩
end Go.Proofs.YtblemmagkehanaaGreat.PA
