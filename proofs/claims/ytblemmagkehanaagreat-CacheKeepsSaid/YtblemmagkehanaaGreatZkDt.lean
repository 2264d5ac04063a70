/- The program's cache and the document's hold the same neighbours: what each tells of a call is the same, and they stay the same. No condition but those that each theorem names. -/
import Derived.Test.YtblemmagkehanaaGreatZkDs
import Derived.Test.YtblemmagkehanaaGreatZkCr
namespace Go.Proofs.YtblemmagkehanaaGreat.PA
open Go.RowKit Go.Proofs.YtblemmagkehanaaGreatW.PrintWords
set_option linter.unusedVariables false
set_option linter.unusedSimpArgs false
structure StOk (L : List Nb) (m : List S43) : Prop where
  perm : (L.map Nb.hd).Perm m
  asc : AscH m
  ids : ∀ e ∈ L,okId e.id = true
  news : ∀ e ∈ L,NewsOk e.news
  len : L.length ≤ 256
theorem StOk.mlen {L : List Nb} {m : List S43} (h : StOk L m) : m.length = L.length := by
  rw [← h.perm.length_eq,List.length_map]
theorem StOk.fit {L : List Nb} {m : List S43} (h : StOk L m) : FitH m := by
  refine ⟨by rw [h.mlen];have := h.len;omega,fun x hx => ?_⟩;obtain ⟨e,he,rfl⟩ := List.mem_map.1 (h.perm.mem_iff.2 hx);have := (h.news e he).len
  show e.news.length < _
  omega
theorem StOk.ids_eq {L : List Nb} {m : List S43} (h : StOk L m) (id : Int) : id ∈ m.map (·.f0) ↔ id ∈ L.map (·.id) := by
  have := (h.perm.map (·.f0)).mem_iff (a := id);rw [← this,List.map_map];rfl
theorem StOk.no {L : List Nb} {m : List S43} (h : StOk L m) {id : Int} (he : nbGet id L = none) : idxH id m = none := idx_none.2 fun hx => nbGet_none.1 he ((h.ids_eq id).1 hx)
theorem StOk.yes {L : List Nb} {m : List S43} (h : StOk L m) {id : Int} {e : Nb} (he : nbGet id L = some e) : ∃ j,∃ hj : j < m.length,idxH id m = some j ∧ m[j] = e.hd := by
  obtain ⟨hm,rfl⟩ := nbGet_mem he
  cases hx : idxH e.id m with
  | none => exact absurd ((h.ids_eq e.id).2 (List.mem_map_of_mem hm)) (idx_none.1 hx)
  | some j =>
    obtain ⟨hj,hid⟩ := idx_at hx;refine ⟨j,hj,rfl,?_⟩;have h2 : e.hd ∈ m := h.perm.mem_iff.1 (List.mem_map_of_mem hm);exact nodup_map_inj h.asc.nodup (List.getElem_mem hj) h2 hid
theorem StOk.addE_eq {L : List Nb} {m : List S43} (h : StOk L m) (id : Int) (wt : Nat) : rAddE m id wt = addE L id wt := by
  unfold rAddE addE;rw [h.mlen]
  cases hg : nbGet id L with
  | none => rw [h.no hg];rfl
  | some e =>
    obtain ⟨j,_,hj,_⟩ := h.yes hg;rw [hj];rfl
theorem StOk.weighE_eq {L : List Nb} {m : List S43} (h : StOk L m) (id : Int) (wt : Nat) : rWeighE m id wt = weighE L id wt := by
  unfold rWeighE weighE
  cases hg : nbGet id L with
  | none => rw [h.no hg];rfl
  | some e =>
    obtain ⟨j,_,hj,_⟩ := h.yes hg;rw [hj];rfl
theorem StOk.remE_eq {L : List Nb} {m : List S43} (h : StOk L m) (id : Int) : rRemE m id = delE id L := by
  unfold rRemE delE
  cases hg : nbGet id L with
  | none => rw [h.no hg];rfl
  | some e =>
    obtain ⟨j,_,hj,_⟩ := h.yes hg;rw [hj];rfl
theorem StOk.forN_eq {L : List Nb} {m : List S43} (h : StOk L m) (id : Int) : rForN m id = forgetN L id := by
  unfold rForN forgetN
  cases hg : nbGet id L with
  | none => rw [h.no hg];rfl
  | some e =>
    obtain ⟨j,hjl,hj,he⟩ := h.yes hg;rw [hj];simp only [getDh hjl,he];rfl
theorem StOk.add {L : List Nb} {m : List S43} (h : StOk L m) {id : Int} {wt : Nat} (p : Nat) (he : addE L id wt = 0) : StOk (L ++ [nbNew id wt p]) (insH ⟨id,wt,[]⟩ m) := by
  have hid : okId id = true := by
    cases h1 : okId id with
    | true => rfl
    | false => unfold addE at he;simp [h1] at he
  have hn : nbGet id L = none := by
    cases h1 : nbGet id L with
    | none => rfl
    | some e =>
      unfold addE at he;rw [h1] at he
      by_cases h2 : wE wt = 0 <;> simp [hid,h2] at he
  have hl : L.length < 256 := by
    rcases Nat.lt_or_ge L.length 256 with h1 | h1
    · exact h1
    unfold addE at he;rw [hn] at he
    by_cases h2 : wE wt = 0 <;> simp [hid,h2,h1] at he
  refine ⟨?_,insH_asc h.asc (by rw [h.ids_eq];exact nbGet_none.1 hn),?_,?_,by simp;omega⟩
  · rw [List.map_append]
    refine List.perm_append_comm.trans ?_;exact ((h.perm.cons _)).trans (insH_perm _ _).symm
  · intro e hm
    rcases List.mem_append.1 hm with hm | hm
    · exact h.ids e hm
    rw [List.mem_singleton.1 hm];exact hid
  intro e hm
  rcases List.mem_append.1 hm with hm | hm
  · exact h.news e hm
  rw [List.mem_singleton.1 hm];exact ⟨List.Pairwise.nil,fun n hn => by cases hn⟩
theorem StOk.turn {L : List Nb} {m : List S43} (h : StOk L m) {id : Int} {f : Nb → Nb} {f' : S43 → S43} (hf : ∀ e ∈ L,e.id = id → (f e).hd = f' e.hd) (hi : ∀ e,(f e).id = e.id) (hi' : ∀ x,(f' x).f0 = x.f0) (hn : ∀ e ∈ L,e.id = id → NewsOk (f e).news) : StOk (nbTurn id f L) (hdTurn id f' m) := by
  refine ⟨?_,turn_asc hi' h.asc,?_,?_,by unfold nbTurn;rw [List.length_map];exact h.len⟩
  · have e1 : (nbTurn id f L).map Nb.hd = hdTurn id f' (L.map Nb.hd) := by
      unfold nbTurn hdTurn;rw [List.map_map,List.map_map];refine List.map_congr_left fun e he => ?_
      simp only [Function.comp]
      by_cases h1 : e.id = id
      · rw [if_pos h1,if_pos (show e.hd.f0 = id from h1),hf e he h1]
      rw [if_neg h1,if_neg (show ¬ e.hd.f0 = id from h1)]
    rw [e1];exact h.perm.map _
  · intro e he
    obtain ⟨x,hx,rfl⟩ := List.mem_map.1 he
    by_cases h1 : x.id = id
    · rw [if_pos h1,hi]
      exact h.ids x hx
    rw [if_neg h1];exact h.ids x hx
  intro e he;obtain ⟨x,hx,rfl⟩ := List.mem_map.1 he
  by_cases h1 : x.id = id
  · rw [if_pos h1]
    exact hn x hx h1
  rw [if_neg h1];exact h.news x hx
theorem StOk.del {L : List Nb} {m : List S43} (h : StOk L m) (id : Int) : StOk (delL id L) (rRemM m id) := by
  refine ⟨?_,List.Pairwise.sublist List.filter_sublist h.asc,fun e he => h.ids e (List.mem_filter.1 he).1,fun e he => h.news e (List.mem_filter.1 he).1,Nat.le_trans (List.length_filter_le _ _) h.len⟩;have e1 : (delL id L).map Nb.hd = rRemM (L.map Nb.hd) id := by
    unfold delL rRemM;rw [List.filter_map];rfl
  rw [e1];exact h.perm.filter _
theorem asc_perm : ∀ {a b : List S43},AscH a → AscH b → a.Perm b → a = b
  | [],b,_,_,h => (List.nil_perm.1 h).symm
  | x :: a,[],_,_,h => absurd (List.perm_nil.1 h) (by simp)
  | x :: a,y :: b,ha,hb,h => by
    have pa := List.pairwise_cons.1 ha;have pb := List.pairwise_cons.1 hb;have e : x = y := by
      rcases List.mem_cons.1 (h.mem_iff.1 List.mem_cons_self) with h1 | h1
      · exact h1
      rcases List.mem_cons.1 (h.mem_iff.2 (List.mem_cons_self (a := y))) with h2 | h2
      · exact h2.symm
      have h3 := pb.1 x h1;have h4 := pa.1 y h2;omega
    subst e;rw [asc_perm pa.2 pb.2 ((List.perm_cons x).1 h)]
theorem allK_flat (L : List Nb) : allK L = (idsV L).flatMap fun id => match nbGet id L with | some e => [e.hd] | none => [] := by
  unfold allK heardK
  congr 1
  funext id
  cases nbGet id L with
  | none => rfl
  | some e =>
    simp only [rowH,Bool.true_or,if_true];have : e.news.filter (fun _ => true) = e.news := List.filter_eq_self.2 fun _ _ => rfl
    rw [this];rfl
theorem flat_ids (L : List Nb) : ∀ ks : List Int,(∀ k ∈ ks,k ∈ L.map (·.id)) → (ks.flatMap fun id => match nbGet id L with | some e => [e.hd] | none => []).map (·.f0) = ks
  | [],_ => rfl
  | k :: ks,h => by
    rw [List.flatMap_cons,List.map_append,flat_ids L ks (fun x hx => h x (List.mem_cons_of_mem _ hx))]
    cases hg : nbGet k L with
    | none => exact absurd (h k List.mem_cons_self) (nbGet_none.1 hg)
    | some e =>
      obtain ⟨_,h2⟩ := nbGet_mem hg
      show e.id :: ks = k :: ks
      rw [h2]
theorem idsV_rise {L : List Nb} (h : (L.map (·.id)).Nodup) : (idsV L).Pairwise (· < ·) := by
  have hs : (idsV L).Pairwise (fun a b => leI a b = true) := by
    unfold idsV keysV;exact List.pairwise_mergeSort (fun a b c h1 h2 => by simp only [leI,decide_eq_true_eq] at *;omega) (fun a b => by simp only [leI,Bool.or_eq_true,decide_eq_true_eq];omega) _
  have hn : (idsV L).Nodup := (idsV_perm L).symm.nodup h;exact (hs.and hn).imp fun {a b} h => by
    have h1 := h.1;have h2 := h.2;simp only [leI,decide_eq_true_eq] at h1;omega
theorem nbGet_self {L : List Nb} (h : (L.map (·.id)).Nodup) {e : Nb} (he : e ∈ L) : nbGet e.id L = some e := by
  cases hg : nbGet e.id L with
  | none => exact absurd (List.mem_map_of_mem he) (nbGet_none.1 hg)
  | some x =>
    obtain ⟨h1,h2⟩ := nbGet_mem hg;rw [nodup_map_inj h h1 he h2]
theorem flat_hd : ∀ L : List Nb,(L.flatMap fun e => [e.hd]) = L.map Nb.hd
  | [] => rfl
  | a :: r => by rw [List.flatMap_cons,flat_hd r];rfl
theorem StOk.all {L : List Nb} {m : List S43} (h : StOk L m) (hn : (L.map (·.id)).Nodup) : allK L = m := by
  have hk : ∀ k ∈ idsV L,k ∈ L.map (·.id) := fun k hk => (idsV_perm L).mem_iff.1 hk
  rw [allK_flat];have hf := flat_ids L (idsV L) hk;refine asc_perm ?_ h.asc ((?_ : List.Perm _ _).trans h.perm)
  · have := idsV_rise hn
    rw [← hf] at this;exact List.pairwise_map.1 this
  have p1 : ((idsV L).flatMap fun id => match nbGet id L with | some e => [e.hd] | none => []).Perm ((L.map (·.id)).flatMap fun id => match nbGet id L with | some e => [e.hd] | none => []) := (idsV_perm L).flatMap_right _;refine p1.trans ?_;rw [List.flatMap_map];have : (L.flatMap fun e => match nbGet e.id L with | some e => [e.hd] | none => []) = L.flatMap fun e => [e.hd] := by
    rw [List.flatMap_def,List.flatMap_def]
    congr 1
    refine List.map_congr_left fun e he => ?_
    rw [nbGet_self hn he]
  rw [this];rw [flat_hd]
end Go.Proofs.YtblemmagkehanaaGreat.PA
