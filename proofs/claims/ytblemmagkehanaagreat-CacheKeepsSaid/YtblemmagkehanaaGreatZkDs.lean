/- The document's five calls, as they run: what was there is handed back where they refuse. Conditions: the neighbours rise, the lists fit in memory. -/
import Derived.Test.YtblemmagkehanaaGreatZkGh
namespace Go.Proofs.YtblemmagkehanaaGreat.PA
open Go.RowKit Go.Proofs.YtblemmagkehanaaGreatW.PrintWords Go.Proofs.YtblemmagkehanaaGreatW.PrintLast Go.Proofs.YtblemmagkehanaaGreatW.PrintMore
set_option linter.unusedVariables false
set_option linter.unusedSimpArgs false
theorem rid_b (x n : Int) (hn : (if okId x = true then 0 else 20) = n) (W : World) : Calls Tryz.prog 55 #[.int .i64 x] W fun e w' => e = .returned (.int .i64 n) ∧ Below W.heap.size W w' :=
  (beaconref02_CheckId.calls x n W (by rw [check_ref,hn])).mono fun e w' h => ⟨h.1,h.2.below⟩
theorem rwt_b (wt : Nat) (hw : wt < 18446744073709551616) (n : Int) (hn : wE wt = n) (W : World) : Calls Tryz.prog 56 #[.float .f64 wt] W fun e w' => e = .returned (.int .i64 n) ∧ Below W.heap.size W w' :=
  (beaconref01_Weight.calls wt n W (by rw [(weight_all wt hw).1,hn])).mono fun e w' h => ⟨h.1,h.2.below⟩
def placeI (id : Int) (m : List S43) : Int := match idxH id m with | some j => (j : Int) | none => -1
theorem place_b {W : World} {A : Option Addr} {c : Nat} {m : List S43} (h : Kd.C k43 W A m.length m) (hc : m.length ≤ c) (hl : m.length < 4611686018427387904) (id : Int) : Calls Tryz.prog 36 #[.slice A m.length c,.int .i64 id] W fun e w' => e = .returned (.int .i64 (placeI id m)) ∧ Below W.heap.size W w' :=
  (beaconref13_place.calls (m.length + 1) A c m id (placeI id m) W h hc (by
    unfold placeI
    cases hx : idxH id m with
    | none => exact place_none hl hx _ (Nat.le_refl _)
    | some j => exact place_some hl hx _ (Nat.le_refl _))).mono fun e w' h => ⟨h.1,h.2.below⟩
theorem told_b {W : World} {A : Option Addr} {c : Nat} {l : List S61} (h : Kd.C k61 W A l.length l) (hc : l.length ≤ c) (hl : l.length < 4611686018427387904) : Calls Tryz.prog 37 #[.slice A l.length c] W fun e w' => e = .returned (.bool (risFrom l l.length 0)) ∧ Below W.heap.size W w' := by
  obtain ⟨K,hK⟩ := told_ref l hl;exact (beaconref13_told.calls K A c l _ W h hc (hK K (Nat.le_refl _))).mono fun e w' h => ⟨h.1,by first | exact h.2.below | exact h.2⟩
def DocOut (w : World) (m : List S43) (A : Option Addr) (c : Nat) (w' : World) : Prop := Kd.C k43 w' A m.length m ∧ m.length ≤ c ∧ Below w.heap.size w w'
theorem DocOut.same {w w' : World} {m : List S43} {A : Option Addr} {c : Nat} (h : Kd.C k43 w A m.length m) (hc : m.length ≤ c) (hb : Below w.heap.size w w') : DocOut w m A c w' := ⟨Kd.C_below h hb,hc,hb⟩
theorem DocOut.of_S {w w' : World} {m : List S43} {v : Value} (h : Kd.S k43 43 w' w.heap.size (fun _ => True) v m) (hb : Below w.heap.size w w') : ∃ A c,v = .slice A m.length c ∧ DocOut w m A c w' := by
  obtain ⟨A,c,rfl,hc,hC⟩ := Kd.S_reads h;exact ⟨A,c,rfl,hC,hc,hb⟩
theorem DocOut.of_N {w w' : World} {m : List S43} {v : Value} {ok : Nat → Prop} (h : Kd.N k43 43 w' w.heap.size ok v m) (hb : Below w.heap.size w w') : ∃ A c,v = .slice A m.length c ∧ DocOut w m A c w' := by
  obtain ⟨A,c,rfl,hc,hC⟩ := Kd.N_reads h;exact ⟨A,c,rfl,hC,hc,hb⟩
def rAddE (m : List S43) (id : Int) (wt : Nat) : Int := if okId id = false then 20 else if wE wt ≠ 0 then wE wt else if (idxH id m).isSome then 72 else if 256 ≤ m.length then 2 else 0
def rAddM (m : List S43) (id : Int) (wt : Nat) : List S43 := if rAddE m id wt = 0 then insH ⟨id,wt,[]⟩ m else m
set_option maxHeartbeats 1000000 in
set_option maxRecDepth 100000 in
theorem doc_add {w : World} {A : Option Addr} {c : Nat} {m : List S43} (h : Kd.C k43 w A m.length m) (hc : m.length ≤ c) (hf : FitH m) (id : Int) (wt : Nat) (hw : wt < 18446744073709551616) :
    Calls Tryz.prog 28 #[.slice A m.length c,.int .i64 id,.float .f64 wt] w fun e w' => ∃ A' c',e = .returned (.tuple #[.slice A' (rAddM m id wt).length c',.int .i64 (rAddE m id wt)]) ∧ DocOut w (rAddM m id wt) A' c' w' := by
  have hl := hf.1;obtain ⟨n,hn⟩ : ∃ n,rAddE m id wt = n := ⟨_,rfl⟩
  have hM : rAddM m id wt = if n = 0 then insH ⟨id,wt,[]⟩ m else m := by unfold rAddM;rw [hn]
  have HC := Aside0.mk h;have HCC := Aside0.mk hc
  by_cases h1 : okId id = false
  · have e1 : n = 20 := by rw [← hn];simp [rAddE,h1]
    subst e1;rw [hn,hM,if_neg (by decide)];have IM := Aside0.mk (fun W => rid_b id 20 (by rw [h1];rfl) W);clear h hc hn hM h1 hf;go_enter Tryz.func28,Tryz.ntmps28
    go_wp2_with (go_at_call 55;refine (IM.out _).mono ?_;rintro e w1 ⟨rfl,hb⟩;have HB1 := Aside0.mk hb;clear hb)
    go_ret2;exact ⟨A,c,rfl,DocOut.same HC.out HCC.out HB1.out⟩
  have h1' : okId id = true := by simpa using h1
  have IM := Aside0.mk (fun W => rid_b id 0 (by rw [h1'];rfl) W);obtain ⟨q,hq⟩ : ∃ q,wE wt = q := ⟨_,rfl⟩
  have WM := Aside0.mk (fun W => rwt_b wt hw q hq W)
  by_cases h2 : q = 0
  rotate_left
  · have e1 : n = q := by rw [← hn];simp [rAddE,h1,hq,h2]
    subst e1;rw [hn,hM,if_neg h2];have hb : (n != 0) = true := by simpa using h2
    clear h hc hn hM h1 h1' hq h2 hf;go_enter Tryz.func28,Tryz.ntmps28
    go_wp2_with (first | (go_at_call 55;refine (IM.out _).mono ?_;rintro e w1 ⟨rfl,hb⟩;have HB1 := Aside0.mk hb;clear hb) | (go_at_call 56;refine (WM.out _).mono ?_;rintro e w2 ⟨rfl,hb⟩;have HB2 := Aside0.mk (below_then HB1.out HB1.out.size hb);clear hb))
    go_ret2;exact ⟨A,c,rfl,DocOut.same HC.out HCC.out HB2.out⟩
  subst h2;have PM := Aside0.mk (fun W hW => place_b (Kd.C_below (w1 := W) h hW) hc (by omega) id)
  cases hj : idxH id m with
  | some j =>
    have e1 : n = 72 := by rw [← hn];simp [rAddE,h1,hq,hj]
    subst e1;rw [hn,hM,if_neg (by decide)];have ep : placeI id m = (j : Int) := by unfold placeI;rw [hj]
    rw [ep] at PM;have hjz : (0 : Int) ≤ (j : Int) := by omega
    clear h hc hn hM h1 h1' hq hj ep hf;go_enter Tryz.func28,Tryz.ntmps28
    go_wp2_with (first | (go_at_call 55;refine (IM.out _).mono ?_;rintro e w1 ⟨rfl,hb⟩;have HB1 := Aside0.mk hb;clear hb) | (go_at_call 56;refine (WM.out _).mono ?_;rintro e w2 ⟨rfl,hb⟩;have HB2 := Aside0.mk (below_then HB1.out HB1.out.size hb);clear hb) | (go_at_call 36;refine (PM.out _ HB2.out).mono ?_;rintro e w3 ⟨rfl,hb⟩;have HB3 := Aside0.mk (below_then HB2.out HB2.out.size hb);clear hb))
    go_ret2;exact ⟨A,c,rfl,DocOut.same HC.out HCC.out HB3.out⟩
  | none =>
    have ep : placeI id m = -1 := by unfold placeI;rw [hj]
    by_cases h3 : 256 ≤ m.length
    · have e1 : n = 2 := by rw [← hn];simp [rAddE,h1,hq,hj,h3]
      subst e1;rw [hn,hM,if_neg (by decide)];rw [ep] at PM;have hlz : (256 : Int) ≤ (m.length : Int) := by omega
      clear h hc hn hM h1 h1' hq hj ep hf h3;go_enter Tryz.func28,Tryz.ntmps28
      go_wp2_with (first | (go_at_call 55;refine (IM.out _).mono ?_;rintro e w1 ⟨rfl,hb⟩;have HB1 := Aside0.mk hb;clear hb) | (go_at_call 56;refine (WM.out _).mono ?_;rintro e w2 ⟨rfl,hb⟩;have HB2 := Aside0.mk (below_then HB1.out HB1.out.size hb);clear hb) | (go_at_call 36;refine (PM.out _ HB2.out).mono ?_;rintro e w3 ⟨rfl,hb⟩;have HB3 := Aside0.mk (below_then HB2.out HB2.out.size hb);clear hb))
      go_ret2;exact ⟨A,c,rfl,DocOut.same HC.out HCC.out HB3.out⟩
    have e1 : n = 0 := by rw [← hn];simp [rAddE,h1,hq,hj,h3]
    subst e1;rw [hn,hM,if_pos rfl];obtain ⟨K,hK⟩ := add_ref hf h1' hw hq hj (by omega);refine (beaconref13_Add.calls K A c m id wt _ _ w h hc (hK K (Nat.le_refl _))).mono ?_;rintro e w' ⟨v,rfl,hS,hb⟩;obtain ⟨A',c',rfl,hD⟩ := DocOut.of_N hS hb;exact ⟨A',c',rfl,hD⟩
def rWeighE (m : List S43) (id : Int) (wt : Nat) : Int := if wE wt ≠ 0 then wE wt else if (idxH id m).isSome then 0 else 4
def rWeighM (m : List S43) (id : Int) (wt : Nat) : List S43 := if rWeighE m id wt = 0 then hdTurn id (fun h => ⟨h.f0,wt,h.f2⟩) m else m
set_option maxHeartbeats 1000000 in
set_option maxRecDepth 100000 in
theorem doc_weigh {w : World} {A : Option Addr} {c : Nat} {m : List S43} (h : Kd.C k43 w A m.length m) (hc : m.length ≤ c) (hf : FitH m) (ha : AscH m) (id : Int) (wt : Nat) (hw : wt < 18446744073709551616) :
    Calls Tryz.prog 29 #[.slice A m.length c,.int .i64 id,.float .f64 wt] w fun e w' => ∃ A' c',e = .returned (.tuple #[.slice A' (rWeighM m id wt).length c',.int .i64 (rWeighE m id wt)]) ∧ DocOut w (rWeighM m id wt) A' c' w' := by
  have hl := hf.1;obtain ⟨n,hn⟩ : ∃ n,rWeighE m id wt = n := ⟨_,rfl⟩
  have hM : rWeighM m id wt = if n = 0 then hdTurn id (fun h => ⟨h.f0,wt,h.f2⟩) m else m := by unfold rWeighM;rw [hn]
  have HC := Aside0.mk h;have HCC := Aside0.mk hc;obtain ⟨q,hq⟩ : ∃ q,wE wt = q := ⟨_,rfl⟩
  have WM := Aside0.mk (fun W => rwt_b wt hw q hq W)
  by_cases h2 : q = 0
  rotate_left
  · have e1 : n = q := by rw [← hn];simp [rWeighE,hq,h2]
    subst e1;rw [hn,hM,if_neg h2];have hb : (n != 0) = true := by simpa using h2
    clear h hc hn hM hq h2 hf ha;go_enter Tryz.func29,Tryz.ntmps29
    go_wp2_with (go_at_call 56;refine (WM.out _).mono ?_;rintro e w2 ⟨rfl,hb⟩;have HB2 := Aside0.mk hb;clear hb)
    go_ret2;exact ⟨A,c,rfl,DocOut.same HC.out HCC.out HB2.out⟩
  subst h2;have PM := Aside0.mk (fun W hW => place_b (Kd.C_below (w1 := W) h hW) hc (by omega) id)
  cases hj : idxH id m with
  | some j =>
    have e1 : n = 0 := by rw [← hn];simp [rWeighE,hq,hj]
    subst e1;rw [hn,hM,if_pos rfl];obtain ⟨K,hK⟩ := weigh_ref hf ha hj hw hq;refine (beaconref13_Weigh.calls K A c m id wt _ _ w h hc (hK K (Nat.le_refl _))).mono ?_;rintro e w' ⟨v,rfl,hS,hb⟩;obtain ⟨A',c',rfl,hD⟩ := DocOut.of_S hS hb;exact ⟨A',c',rfl,hD⟩
  | none =>
    have e1 : n = 4 := by rw [← hn];simp [rWeighE,hq,hj]
    subst e1;rw [hn,hM,if_neg (by decide)];have ep : placeI id m = -1 := by unfold placeI;rw [hj]
    rw [ep] at PM;clear h hc hn hM hq hj ep hf ha;go_enter Tryz.func29,Tryz.ntmps29
    go_wp2_with (first | (go_at_call 56;refine (WM.out _).mono ?_;rintro e w2 ⟨rfl,hb⟩;have HB2 := Aside0.mk hb;clear hb) | (go_at_call 36;refine (PM.out _ HB2.out).mono ?_;rintro e w3 ⟨rfl,hb⟩;have HB3 := Aside0.mk (below_then HB2.out HB2.out.size hb);clear hb))
    go_ret2;exact ⟨A,c,rfl,DocOut.same HC.out HCC.out HB3.out⟩
def rRemE (m : List S43) (id : Int) : Int := if (idxH id m).isSome then 0 else 4
def rRemM (m : List S43) (id : Int) : List S43 := m.filter fun h => decide (h.f0 ≠ id)
theorem rem_none {m : List S43} {id : Int} (h : idxH id m = none) : rRemM m id = m := List.filter_eq_self.2 fun x hx => by
  have : x.f0 ≠ id := fun e => idx_none.1 h (by rw [← e];exact List.mem_map_of_mem hx)
  simp [this]
set_option maxHeartbeats 1000000 in
set_option maxRecDepth 100000 in
theorem doc_remove {w : World} {A : Option Addr} {c : Nat} {m : List S43} (h : Kd.C k43 w A m.length m) (hc : m.length ≤ c) (hf : FitH m) (id : Int) :
    Calls Tryz.prog 30 #[.slice A m.length c,.int .i64 id] w fun e w' => ∃ A' c',e = .returned (.tuple #[.slice A' (rRemM m id).length c',.int .i64 (rRemE m id)]) ∧ DocOut w (rRemM m id) A' c' w' := by
  have hl := hf.1;have HC := Aside0.mk h;have HCC := Aside0.mk hc;have PM := Aside0.mk (fun W hW => place_b (Kd.C_below (w1 := W) h hW) hc (by omega) id)
  cases hj : idxH id m with
  | some j =>
    have e1 : rRemE m id = 0 := by simp [rRemE,hj]
    rw [e1];obtain ⟨K,hK⟩ := remove_ref hf hj;refine (beaconref13_Remove.calls K A c m id _ _ w h hc (hK K (Nat.le_refl _))).mono ?_;rintro e w' ⟨v,rfl,hS,hb⟩;obtain ⟨A',c',rfl,hD⟩ := DocOut.of_N hS hb;exact ⟨A',c',rfl,hD⟩
  | none =>
    have e1 : rRemE m id = 4 := by simp [rRemE,hj]
    rw [e1,rem_none hj];have ep : placeI id m = -1 := by unfold placeI;rw [hj]
    rw [ep] at PM;clear h hc hj ep hf e1;go_enter Tryz.func30,Tryz.ntmps30
    go_wp2_with (go_at_call 36;refine (PM.out _ (Below.refl _ _)).mono ?_;rintro e w3 ⟨rfl,hb⟩;have HB3 := Aside0.mk hb;clear hb)
    go_ret2;exact ⟨A,c,rfl,DocOut.same HC.out HCC.out HB3.out⟩
def rForM (m : List S43) (id : Int) : List S43 := hdTurn id (fun h => ⟨h.f0,h.f1,[]⟩) m
def rForN (m : List S43) (id : Int) : Int := match idxH id m with | some j => (((m.getD j z43).f2.length : Nat) : Int) | none => 0
theorem hdTurn_none {m : List S43} {id : Int} {f : S43 → S43} (h : idxH id m = none) : hdTurn id f m = m := by
  unfold hdTurn
  conv => rhs;rw [← List.map_id m]
  refine List.map_congr_left fun x hx => ?_
  have : x.f0 ≠ id := fun e => idx_none.1 h (by rw [← e];exact List.mem_map_of_mem hx)
  rw [if_neg this];rfl
set_option maxHeartbeats 1000000 in
set_option maxRecDepth 100000 in
theorem doc_forget {w : World} {A : Option Addr} {c : Nat} {m : List S43} (h : Kd.C k43 w A m.length m) (hc : m.length ≤ c) (hf : FitH m) (ha : AscH m) (id : Int) :
    Calls Tryz.prog 31 #[.slice A m.length c,.int .i64 id] w fun e w' => ∃ A' c',e = .returned (.tuple #[.slice A' (rForM m id).length c',.int .i64 (rForN m id),.int .i64 (rRemE m id)]) ∧ DocOut w (rForM m id) A' c' w' := by
  have hl := hf.1;have HC := Aside0.mk h;have HCC := Aside0.mk hc;have PM := Aside0.mk (fun W hW => place_b (Kd.C_below (w1 := W) h hW) hc (by omega) id)
  cases hj : idxH id m with
  | some j =>
    obtain ⟨hjl,_⟩ := idx_at hj;have e1 : rRemE m id = 0 := by simp [rRemE,hj]
    have e2 : rForN m id = ((m[j].f2.length : Nat) : Int) := by unfold rForN;rw [hj];simp only [getDh hjl]
    rw [e1,e2];obtain ⟨K,hK⟩ := forget_ref hf ha hj hjl;refine (beaconref13_Forget.calls K A c m id _ _ _ w h hc (hK K (Nat.le_refl _))).mono ?_;rintro e w' ⟨v,rfl,hS,hb⟩;obtain ⟨A',c',rfl,hD⟩ := DocOut.of_S hS hb;exact ⟨A',c',rfl,hD⟩
  | none =>
    have e1 : rRemE m id = 4 := by simp [rRemE,hj]
    have e2 : rForN m id = 0 := by unfold rForN;rw [hj]
    rw [e1,e2,show rForM m id = m from hdTurn_none hj];have ep : placeI id m = -1 := by unfold placeI;rw [hj]
    rw [ep] at PM;clear h hc hj ep hf ha e1 e2;go_enter Tryz.func31,Tryz.ntmps31
    go_wp2_with (go_at_call 36;refine (PM.out _ (Below.refl _ _)).mono ?_;rintro e w3 ⟨rfl,hb⟩;have HB3 := Aside0.mk hb;clear hb)
    go_ret3;exact ⟨A,c,rfl,DocOut.same HC.out HCC.out HB3.out⟩
set_option maxHeartbeats 1000000 in
set_option maxRecDepth 100000 in
theorem doc_learn_none {w : World} {A : Option Addr} {c : Nat} {m : List S43} (h : Kd.C k43 w A m.length m) (hc : m.length ≤ c) (hl : m.length < 4611686018427387904) {id : Int} (hj : idxH id m = none) (v : Value) :
    Calls Tryz.prog 12 #[.slice A m.length c,.int .i64 id,v] w fun e w' => ∃ A' c',e = .returned (.tuple #[.slice A' m.length c',.int .i64 0,.int .i64 4]) ∧ DocOut w m A' c' w' := by
  have HC := Aside0.mk h;have HCC := Aside0.mk hc;have PM := Aside0.mk (fun W hW => place_b (Kd.C_below (w1 := W) h hW) hc hl id);have ep : placeI id m = -1 := by unfold placeI;rw [hj]
  rw [ep] at PM;clear h hc hj ep hl;go_enter Tryz.func12,Tryz.ntmps12
  go_wp2_with (go_at_call 36;refine (PM.out _ (Below.refl _ _)).mono ?_;rintro e w3 ⟨rfl,hb⟩;have HB3 := Aside0.mk hb;clear hb)
  go_ret3;exact ⟨A,c,rfl,DocOut.same HC.out HCC.out HB3.out⟩
set_option maxHeartbeats 1000000 in
set_option maxRecDepth 100000 in
theorem doc_learn_bad {w : World} {A B : Option Addr} {c cB : Nat} {m : List S43} {ns : List S61} (h : Kd.C k43 w A m.length m) (hc : m.length ≤ c) (hl : m.length < 4611686018427387904) {id : Int} {j : Nat} (hj : idxH id m = some j) (hN : Kd.C k61 w B ns.length ns) (hcB : ns.length ≤ cB) (hnl : ns.length < 4611686018427387904) (hr : risFrom ns ns.length 0 = false) :
    Calls Tryz.prog 12 #[.slice A m.length c,.int .i64 id,.slice B ns.length cB] w fun e w' => ∃ A' c',e = .returned (.tuple #[.slice A' m.length c',.int .i64 0,.int .i64 1]) ∧ DocOut w m A' c' w' := by
  have HC := Aside0.mk h;have HCC := Aside0.mk hc;have PM := Aside0.mk (fun W hW => place_b (Kd.C_below (w1 := W) h hW) hc hl id);have TM := Aside0.mk (fun W hW => told_b (Kd.C_below (w1 := W) hN hW) hcB hnl);rw [hr] at TM;have ep : placeI id m = (j : Int) := by unfold placeI;rw [hj]
  rw [ep] at PM;have hjz : ¬ (j : Int) < 0 := by omega
  clear h hc hj ep hl hN hcB hnl hr;go_enter Tryz.func12,Tryz.ntmps12
  go_wp2_with (first | (go_at_call 36;refine (PM.out _ (Below.refl _ _)).mono ?_;rintro e w3 ⟨rfl,hb⟩;have HB3 := Aside0.mk hb;clear hb) | (go_at_call 37;refine (TM.out _ HB3.out).mono ?_;rintro e w4 ⟨rfl,hb⟩;have HB4 := Aside0.mk (below_then HB3.out HB3.out.size hb);clear hb))
  go_ret3;exact ⟨A,c,rfl,DocOut.same HC.out HCC.out HB4.out⟩
theorem doc_learn_ok {w : World} {A B : Option Addr} {c cB : Nat} {m : List S43} {ns : List S61} (h : Kd.C k43 w A m.length m) (hc : m.length ≤ c) (hf : FitH m) (ha : AscH m) {id : Int} {j : Nat} (hj : idxH id m = some j) (hjl : j < m.length) (hN : Kd.C k61 w B ns.length ns) (hcB : ns.length ≤ cB) (hnl : ns.length < 4611686018427387904) (hr : risFrom ns ns.length 0 = true) (hok : NewsOk m[j].f2) :
    Calls Tryz.prog 12 #[.slice A m.length c,.int .i64 id,.slice B ns.length cB] w fun e w' => ∃ A' c',e = .returned (.tuple #[.slice A' (hdTurn id (fun h => ⟨h.f0,h.f1,foldN m[j].f2 ns⟩) m).length c',.int .i64 ((cntAt m[j].f2 ns ns.length : Nat) : Int),.int .i64 0]) ∧ DocOut w (hdTurn id (fun h => ⟨h.f0,h.f1,foldN m[j].f2 ns⟩) m) A' c' w' := by
  obtain ⟨K,hK⟩ := learn_ref hf ha hj hjl hr hnl hok;refine (beaconref13_Learn.calls K A c m id B cB ns _ _ _ w h hc hN hcB (hK K (Nat.le_refl _))).mono ?_;rintro e w' ⟨v,rfl,hS,hb⟩;obtain ⟨A',c',rfl,hD⟩ := DocOut.of_S hS hb;exact ⟨A',c',rfl,hD⟩
end Go.Proofs.YtblemmagkehanaaGreat.PA
