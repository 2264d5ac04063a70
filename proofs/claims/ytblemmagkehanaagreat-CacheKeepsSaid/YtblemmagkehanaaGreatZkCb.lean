/- A cache that was made: what is told of one neighbour, and Add, Weigh, Remove, Forget. No condition but those that each theorem names. -/
import Derived.Test.YtblemmagkehanaaGreatZkCa
import Derived.Test.YtblemmagkehanaaGreatZkGn
namespace Go.Proofs.YtblemmagkehanaaGreat.PA
open Go.RowKit Go.Proofs.YtblemmagkehanaaGreatW.PrintWords Go.Proofs.YtblemmagkehanaaGreatW.PrintLast Go.Proofs.YtblemmagkehanaaGreatW.PrintMore
set_option linter.unusedVariables false
set_option linter.unusedSimpArgs false
set_option maxRecDepth 100000 in
theorem is_live {w : World} {g b : Nat} (hc : w.heap[g]? = some (.cells #[.map (some b)] 65 (0,0))) : Calls Tryz.prog 52 #[.pointer (some ⟨g,0,none⟩)] w fun e w' => e = .returned (.bool true) ∧ w = w' := by
  have h1 : w.cell? ⟨g,0,none⟩ = some (.map (some b)) := (blk_cell hc 0).trans rfl;clear hc;have hq := fun r (W_ : World) => run_neq_map_nil (P := Tryz.prog) W_ 63 3 74 r Tryz.underlying63
  go_enter Tryz.func52,Tryz.ntmps52;go_wp2;go_ret;exact ⟨rfl,rfl⟩
set_option maxRecDepth 100000 in
theorem cache_new (w : World) : Calls Tryz.prog 7 #[] w fun e w' => ∃ g b,e = .returned (.pointer (some ⟨g,0,none⟩)) ∧ w.heap.size ≤ g ∧ w.heap.size ≤ b ∧ CacheAt w' g b [] ∧ Below w.heap.size w w' := by
  have hmm := @run_makeMap Tryz.prog;have hu65 := Tryz.underlying65;go_enter Tryz.func7,Tryz.ntmps7;go_wp2;go_ret;have e1 := al_new (w.alloc (Obj.map #[] 0)) (Obj.cells #[Value.map (some w.heap.size)] 65);rw [World.size_alloc] at e1;exact ⟨_,_,rfl,Nat.le_succ _,Nat.le_refl _,⟨e1,(isMap_made w).alloc _,by simp,by simp⟩,((Below.refl _ _).alloc (Nat.le_refl _) _).alloc (by simp) _⟩
set_option maxRecDepth 100000 in
theorem find_some {w : World} {g b : Nat} {L : List Nb} (h : CacheAt w g b L) {id : Int} {e : Nb} (he : nbGet id L = some e) :
    Calls Tryz.prog 33 #[.pointer (some ⟨g,0,none⟩),.int .i64 id] w fun e_ w' => e_ = .returned (.tuple #[.pointer (some ⟨e.p,0,none⟩),.int .i64 0]) ∧ w = w' := by
  have HD := Aside0.mk h;have ht : (mget (nbM L) id).getD (.pointer none) = .pointer (some ⟨e.p,0,none⟩) := by rw [mget_nb,he];rfl
  have hs : (mget (nbM L) id).isSome = true := by rw [mget_nb,he];rfl
  have HT := Aside0.mk ht;have HS := Aside0.mk hs;have c0 : w.cell? ⟨g,0,none⟩ = some (.map (some b)) := (blk_cell h.box 0).trans rfl;clear h he ht hs;go_enter Tryz.func33,Tryz.ntmps33
  go_wp2_with (first | (go_at_call 52;refine (is_live HD.out.box).mono ?_;rintro e w' ⟨rfl,rfl⟩) | (at_lookup;refine wp_look rfl _ _ 63 3 74 rfl (key_int Tryz.underlying3) Tryz.underlying63 rfl id rfl HD.out.map (.pointer none) (by kernel_rfl) ?_;rw [HT.out,HS.out]))
  go_ret2;exact ⟨rfl,rfl⟩
set_option maxRecDepth 100000 in
theorem find_none {w : World} {g b : Nat} {L : List Nb} (h : CacheAt w g b L) {id : Int} (he : nbGet id L = none) :
    Calls Tryz.prog 33 #[.pointer (some ⟨g,0,none⟩),.int .i64 id] w fun e_ w' => e_ = .returned (.tuple #[.pointer none,.int .i64 4]) ∧ w = w' := by
  have HD := Aside0.mk h;have ht : (mget (nbM L) id).getD (.pointer none) = .pointer none := by rw [mget_nb,he];rfl
  have hs : (mget (nbM L) id).isSome = false := by rw [mget_nb,he];rfl
  have HT := Aside0.mk ht;have HS := Aside0.mk hs;have c0 : w.cell? ⟨g,0,none⟩ = some (.map (some b)) := (blk_cell h.box 0).trans rfl;clear h he ht hs;go_enter Tryz.func33,Tryz.ntmps33
  go_wp2_with (first | (go_at_call 52;refine (is_live HD.out.box).mono ?_;rintro e w' ⟨rfl,rfl⟩) | (at_lookup;refine wp_look rfl _ _ 63 3 74 rfl (key_int Tryz.underlying3) Tryz.underlying63 rfl id rfl HD.out.map (.pointer none) (by kernel_rfl) ?_;rw [HT.out,HS.out]))
  go_ret2;exact ⟨rfl,rfl⟩
def delE (id : Int) (L : List Nb) : Int := if (nbGet id L).isSome then 0 else 4
def delL (id : Int) (L : List Nb) : List Nb := L.filter fun e => decide (e.id ≠ id)
theorem del_none {id : Int} {L : List Nb} (h : nbGet id L = none) : delL id L = L := List.filter_eq_self.2 fun x hx => by
  have : x.id ≠ id := fun e => nbGet_none.1 h (by rw [← e];exact List.mem_map_of_mem hx)
  simp [this]
set_option maxRecDepth 100000 in
theorem remove_live {w : World} {g b : Nat} {L : List Nb} (h : CacheAt w g b L) (id : Int) :
    Calls Tryz.prog 27 #[.pointer (some ⟨g,0,none⟩),.int .i64 id] w fun e_ w' => e_ = .returned (.int .i64 (delE id L)) ∧ CacheAt w' g b (delL id L) ∧ w.grownBy w' (some b) := by
  cases he : nbGet id L with
  | none =>
    have e1 : delE id L = 4 := by simp [delE,he]
    rw [e1,del_none he];have HF := Aside0.mk (find_none h he);have HD := Aside0.mk h;clear h he e1;go_enter Tryz.func27,Tryz.ntmps27
    go_wp2_with (go_at_call 33;refine HF.out.mono ?_;rintro e w' ⟨rfl,rfl⟩)
    go_ret;exact ⟨rfl,HD.out,World.grownBy.refl _ _⟩
  | some e =>
    have e1 : delE id L = 0 := by simp [delE,he]
    rw [e1];have HF := Aside0.mk (find_some h he);have HD := Aside0.mk h;have c0 : w.cell? ⟨g,0,none⟩ = some (.map (some b)) := (blk_cell h.box 0).trans rfl;clear h he e1;go_enter Tryz.func27,Tryz.ntmps27
    go_wp2_with (first | (go_at_call 33;refine HF.out.mono ?_;rintro e w' ⟨rfl,rfl⟩) | ((with_reducible refine gate_builtin (b := .delete) (xs := #[.tmp 19,.tmp 20]) rfl ?_);refine wp_del rfl (.tmp 19) (.tmp 20) 63 3 74 rfl (key_int Tryz.underlying3) Tryz.underlying63 rfl id rfl HD.out.map ?_;intro w1 hm1 hg1 hs1;have HM := Aside0.mk hm1;have HG := Aside0.mk hg1;clear hm1 hg1 hs1))
    go_ret;exact ⟨rfl,HD.out.del id HM.out HG.out,HG.out⟩
theorem weight_b (wt : Nat) (hw : wt < 18446744073709551616) (n : Int) (hn : wE wt = n) (W : World) : Calls Tryz.prog 54 #[.float .f64 wt] W fun e w' => e = .returned (.int .i64 n) ∧ Below W.heap.size W w' :=
  (metric_Weight.calls wt n W (by rw [(weight_all wt hw).2.1,hn])).mono fun e w' h => ⟨h.1,h.2.below⟩
theorem id_b (x n : Int) (hn : (if okId x = true then 0 else 20) = n) (W : World) : Calls Tryz.prog 53 #[.int .i64 x] W fun e w' => e = .returned (.int .i64 n) ∧ Below W.heap.size W w' :=
  (ident_CheckId.calls x n W (by rw [check_prog,hn])).mono fun e w' h => ⟨h.1,h.2.below⟩
def addE (L : List Nb) (id : Int) (wt : Nat) : Int := if okId id = false then 20 else if wE wt ≠ 0 then wE wt else if (nbGet id L).isSome then 72 else if 256 ≤ L.length then 2 else 0
def nbNew (id : Int) (wt p : Nat) : Nb := ⟨id,p,wt,none,0,[]⟩
def AddOut (w : World) (g b : Nat) (L : List Nb) (id : Int) (wt : Nat) (w' : World) : Prop :=
  (addE L id wt ≠ 0 ∧ CacheAt w' g b L ∧ Below w.heap.size w w') ∨ (addE L id wt = 0 ∧ ∃ p,w.heap.size ≤ p ∧ CacheAt w' g b (L ++ [nbNew id wt p]) ∧ w.grownBy w' (some b))
theorem AddOut.no {w w' : World} {g b : Nat} {L : List Nb} {id : Int} {wt : Nat} (h : CacheAt w g b L) {n : Int} (hn : addE L id wt = n) (h0 : n ≠ 0) (hb : Below w.heap.size w w') : AddOut w g b L id wt w' := .inl ⟨by rw [hn];exact h0,h.below hb,hb⟩
theorem C61_nil (w : World) (A : Option Addr) : Kd.C k61 w A 0 [] := ⟨rfl,by decide,fun h => absurd h (by decide)⟩
set_option maxHeartbeats 1000000 in
set_option maxRecDepth 100000 in
theorem add_live {w : World} {g b : Nat} {L : List Nb} (h : CacheAt w g b L) (id : Int) (wt : Nat) (hw : wt < 18446744073709551616) :
    Calls Tryz.prog 25 #[.pointer (some ⟨g,0,none⟩),.int .i64 id,.float .f64 wt] w fun e_ w' => e_ = .returned (.int .i64 (addE L id wt)) ∧ AddOut w g b L id wt w' := by
  have HD := Aside0.mk h;have hu81 := Tryz.underlying81;obtain ⟨n,hn⟩ : ∃ n,addE L id wt = n := ⟨_,rfl⟩
  rw [hn]
  by_cases h1 : okId id = false
  · have e1 : n = 20 := by rw [← hn];simp [addE,h1]
    subst e1;have HN := Aside0.mk hn;have IM := Aside0.mk (fun W => id_b id 20 (by rw [h1];rfl) W);clear h hn h1;go_enter Tryz.func25,Tryz.ntmps25
    go_wp2_with (first | (go_at_call 52;refine (is_live HD.out.box).mono ?_;rintro e w' ⟨rfl,rfl⟩) | (go_at_call 53;refine (IM.out _).mono ?_;rintro e w1 ⟨rfl,hb⟩;have HB1 := Aside0.mk hb;clear hb))
    go_ret;exact ⟨rfl,AddOut.no HD.out HN.out (by decide) HB1.out⟩
  have h1' : okId id = true := by simpa using h1
  have IM := Aside0.mk (fun W => id_b id 0 (by rw [h1'];rfl) W);obtain ⟨m,hm⟩ : ∃ m,wE wt = m := ⟨_,rfl⟩
  have WM := Aside0.mk (fun W => weight_b wt hw m hm W)
  by_cases h2 : m = 0
  rotate_left
  · have e1 : n = m := by rw [← hn];simp [addE,h1,hm,h2]
    subst e1;have HN := Aside0.mk hn;have H0 := Aside0.mk h2;have hb : (n != 0) = true := by simpa using h2
    clear h hn h1 h1' hm h2;go_enter Tryz.func25,Tryz.ntmps25
    go_wp2_with (first | (go_at_call 52;refine (is_live HD.out.box).mono ?_;rintro e w' ⟨rfl,rfl⟩) | (go_at_call 53;refine (IM.out _).mono ?_;rintro e w1 ⟨rfl,hb⟩;have HB1 := Aside0.mk hb;clear hb) | (go_at_call 54;refine (WM.out _).mono ?_;rintro e w2 ⟨rfl,hb⟩;have HB2 := Aside0.mk (below_then HB1.out HB1.out.size hb);clear hb))
    go_ret;exact ⟨rfl,AddOut.no HD.out HN.out H0.out HB2.out⟩
  subst h2;have LN : Aside0 (((nbM L).length : Int) = (L.length : Int)) := ⟨by simp [nbM]⟩
  cases hg : nbGet id L with
  | some e =>
    have e1 : n = 72 := by rw [← hn];simp [addE,h1,hm,hg]
    subst e1;have HN := Aside0.mk hn;have ht : (mget (nbM L) id).getD (.pointer none) = .pointer (some ⟨e.p,0,none⟩) := by rw [mget_nb,hg];rfl
    have hs : (mget (nbM L) id).isSome = true := by rw [mget_nb,hg];rfl
    have HT := Aside0.mk ht;have HS := Aside0.mk hs;clear h hn h1 h1' hm ht hs hg;go_enter Tryz.func25,Tryz.ntmps25
    go_wp2_with (first | (go_at_call 52;refine (is_live HD.out.box).mono ?_;rintro e w' ⟨rfl,rfl⟩) | (go_at_call 53;refine (IM.out _).mono ?_;rintro e w1 ⟨rfl,hb⟩;have HB1 := Aside0.mk hb;clear hb) | (go_at_call 54;refine (WM.out _).mono ?_;rintro e w2 ⟨rfl,hb⟩;have HB2 := Aside0.mk (below_then HB1.out HB1.out.size hb);clear hb;have D2 := Aside0.mk (HD.out.below HB2.out);have c0 : w2.cell? ⟨g,0,none⟩ = some (.map (some b)) := (blk_cell D2.out.box 0).trans rfl) | (at_lookup;refine wp_look rfl _ _ 63 3 74 rfl (key_int Tryz.underlying3) Tryz.underlying63 rfl id rfl D2.out.map (.pointer none) (by kernel_rfl) ?_;rw [HT.out,HS.out]))
    go_ret;exact ⟨rfl,AddOut.no HD.out HN.out (by decide) HB2.out⟩
  | none =>
    have ht : (mget (nbM L) id).getD (.pointer none) = .pointer none := by rw [mget_nb,hg];rfl
    have hs : (mget (nbM L) id).isSome = false := by rw [mget_nb,hg];rfl
    have HT := Aside0.mk ht;have HS := Aside0.mk hs;have HG := Aside0.mk (nbGet_none.1 hg)
    by_cases hl : 256 ≤ L.length
    · have e1 : n = 2 := by rw [← hn];simp [addE,h1,hm,hg,hl]
      subst e1;have HN := Aside0.mk hn;have hlz : (256 : Int) ≤ (L.length : Int) := by omega
      clear h hn h1 h1' hm ht hs hg hl;go_enter Tryz.func25,Tryz.ntmps25
      go_wp2_with (first | (go_at_call 52;refine (is_live HD.out.box).mono ?_;rintro e w' ⟨rfl,rfl⟩) | (go_at_call 53;refine (IM.out _).mono ?_;rintro e w1 ⟨rfl,hb⟩;have HB1 := Aside0.mk hb;clear hb) | (go_at_call 54;refine (WM.out _).mono ?_;rintro e w2 ⟨rfl,hb⟩;have HB2 := Aside0.mk (below_then HB1.out HB1.out.size hb);clear hb;have D2 := Aside0.mk (HD.out.below HB2.out);have c0 : w2.cell? ⟨g,0,none⟩ = some (.map (some b)) := (blk_cell D2.out.box 0).trans rfl) | (at_lookup;refine wp_look rfl _ _ 63 3 74 rfl (key_int Tryz.underlying3) Tryz.underlying63 rfl id rfl D2.out.map (.pointer none) (by kernel_rfl) ?_;rw [HT.out,HS.out]) | (at_len;refine wp_lenW (by rfl) _ 63 3 74 rfl Tryz.underlying63 rfl D2.out.map ?_;rw [LN.out]))
      go_ret;exact ⟨rfl,AddOut.no HD.out HN.out (by decide) HB2.out⟩
    have e1 : n = 0 := by rw [← hn];simp [addE,h1,hm,hg,hl]
    subst e1;have HN := Aside0.mk hn;have hlz : ¬ (256 : Int) ≤ (L.length : Int) := by omega
    clear h hn h1 h1' hm ht hs hg hl;go_enter Tryz.func25,Tryz.ntmps25
    go_wp2_with (first | (go_at_call 52;refine (is_live HD.out.box).mono ?_;rintro e w' ⟨rfl,rfl⟩) | (go_at_call 53;refine (IM.out _).mono ?_;rintro e w1 ⟨rfl,hb⟩;have HB1 := Aside0.mk hb;clear hb) | (go_at_call 54;refine (WM.out _).mono ?_;rintro e w2 ⟨rfl,hb⟩;have HB2 := Aside0.mk (below_then HB1.out HB1.out.size hb);clear hb;have D2 := Aside0.mk (HD.out.below HB2.out);have c0 : w2.cell? ⟨g,0,none⟩ = some (.map (some b)) := (blk_cell D2.out.box 0).trans rfl;have hlt := blk_lt D2.out.box) | (at_lookup;refine wp_look rfl _ _ 63 3 74 rfl (key_int Tryz.underlying3) Tryz.underlying63 rfl id rfl D2.out.map (.pointer none) (by kernel_rfl) ?_;rw [HT.out,HS.out]) | (at_len;refine wp_lenW (by rfl) _ 63 3 74 rfl Tryz.underlying63 rfl D2.out.map ?_;rw [LN.out]) | ((with_reducible refine gate_ (.mapUpdate 63 (.tmp 45) (.tmp 46) (.tmp 49)) rfl ?_);refine wp_put rfl (.tmp 45) (.tmp 46) (.tmp 49) 63 3 74 rfl (key_int Tryz.underlying3) Tryz.underlying63 rfl id rfl (Nb.val (nbNew id wt w2.heap.size)) rfl (D2.out.map.alloc _) ?_;intro w7 hm7 hg7 hs7;have HM := Aside0.mk hm7;have HG7 := Aside0.mk hg7;clear hm7 hg7 hs7))
    go_ret;refine ⟨rfl,.inr ⟨HN.out,w2.heap.size,HB2.out.size,?_,?_⟩⟩
    · refine HD.out.add (nbNew id wt w2.heap.size) (below_alloc HB2.out _) HB2.out.size ⟨al_new _ _,C61_nil _ _,Nat.le_refl _,fun _ => rfl,Nat.zero_le _⟩ HG.out HM.out HG7.out
    exact (grown_of_below (below_alloc HB2.out _) (some b)).trans HG7.out
end Go.Proofs.YtblemmagkehanaaGreat.PA
