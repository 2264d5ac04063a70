/- A cache that was made: Dests. Conditions: those that each theorem names. -/
import Derived.Test.YtblemmagkehanaaGreatZkDt
namespace Go.Proofs.YtblemmagkehanaaGreat.PA
open Go.RowKit Go.Proofs.YtblemmagkehanaaGreatW.PrintWords Go.Proofs.YtblemmagkehanaaGreatW.PrintLast Go.Proofs.YtblemmagkehanaaGreatW.PrintMore
set_option linter.unusedVariables false
set_option linter.unusedSimpArgs false
def seenM (D : List Int) : List (Int × Value) := D.map fun k => (k,.agg #[])
def addK (D : List Int) (d : Int) : List Int := if d ∈ D then D else D ++ [d]
theorem mput_seen (d : Int) : ∀ D : List Int,mput (seenM D) d (.agg #[]) = seenM (addK D d)
  | [] => by simp [mput,seenM,mfind,addK]
  | a :: r => by
    have ih := mput_seen d r
    by_cases h1 : d = a
    · subst h1
      simp [mput,seenM,mfind,addK]
    have hc : mput (seenM (a :: r)) d (.agg #[]) = (a,.agg #[]) :: mput (seenM r) d (.agg #[]) := by
      show mput ((a,.agg #[]) :: seenM r) d (.agg #[]) = _
      unfold mput;rw [mfind];simp only [h1,if_false];rw [mfind_shift]
      cases mfind d (seenM r) 0 with
      | none => rfl
      | some x => rfl
    rw [hc,ih]
    by_cases h2 : d ∈ r
    · have h3 : d ∈ a :: r := List.mem_cons_of_mem _ h2
      simp [addK,h2,h3,seenM]
    have h3 : ¬ d ∈ a :: r := by simp [h1,h2]
    simp [addK,h2,h1,seenM]
def addN (D : List Int) (n : S61) : List Int := addK D n.f0
def addH (D : List Int) (h : S43) : List Int := h.f2.foldl addN D
def dstK (H : List S43) : List Int := H.foldl addH []
theorem addK_mem {D : List Int} {d x : Int} : x ∈ addK D d ↔ x ∈ D ∨ x = d := by
  unfold addK
  split
  · rename_i h
    constructor
    · exact .inl
    rintro (h1 | rfl)
    · exact h1
    exact h
  simp
theorem addF_mem {x : Int} : ∀ (ns : List S61) (D : List Int),x ∈ ns.foldl addN D ↔ x ∈ D ∨ ∃ n ∈ ns,n.f0 = x
  | [],D => by simp
  | n :: r,D => by
    rw [List.foldl_cons,addF_mem r];unfold addN;rw [addK_mem]
    constructor
    · rintro ((h | rfl) | ⟨m,hm,h⟩)
      · exact .inl h
      · exact .inr ⟨n,List.mem_cons_self,rfl⟩
      exact .inr ⟨m,List.mem_cons_of_mem _ hm,h⟩
    rintro (h | ⟨m,hm,h⟩)
    · exact .inl (.inl h)
    rcases List.mem_cons.1 hm with rfl | hm
    · exact .inl (.inr h.symm)
    exact .inr ⟨m,hm,h⟩
theorem addA_mem {x : Int} : ∀ (H : List S43) (D : List Int),x ∈ H.foldl addH D ↔ x ∈ D ∨ ∃ h ∈ H,∃ n ∈ h.f2,n.f0 = x
  | [],D => by simp
  | h :: r,D => by
    rw [List.foldl_cons,addA_mem r];unfold addH;rw [addF_mem]
    constructor
    · rintro ((h1 | h1) | ⟨m,hm,h1⟩)
      · exact .inl h1
      · exact .inr ⟨h,List.mem_cons_self,h1⟩
      exact .inr ⟨m,List.mem_cons_of_mem _ hm,h1⟩
    rintro (h1 | ⟨m,hm,h1⟩)
    · exact .inl (.inl h1)
    rcases List.mem_cons.1 hm with rfl | hm
    · exact .inl (.inr h1)
    exact .inr ⟨m,hm,h1⟩
theorem addK_nodup {D : List Int} {d : Int} (h : D.Nodup) : (addK D d).Nodup := by
  unfold addK
  split
  · exact h
  rename_i hd
  rw [List.nodup_append];exact ⟨h,by simp,fun a ha b hb => by simp at hb;subst hb;rintro rfl;exact hd ha⟩
theorem addF_nodup : ∀ (ns : List S61) {D : List Int},D.Nodup → (ns.foldl addN D).Nodup
  | [],D,h => h
  | n :: r,D,h => addF_nodup r (D := addN D n) (addK_nodup h)
theorem addA_nodup : ∀ (H : List S43) {D : List Int},D.Nodup → (H.foldl addH D).Nodup
  | [],D,h => h
  | x :: r,D,h => addA_nodup r (D := addH D x) (addF_nodup _ h)
set_option maxRecDepth 100000 in
theorem f47_any (x : S61) (kind : Int) (q : Nat) (W : World) (hq : W.heap[q]? = some (.cells #[.int .i64 kind] 3 (0,0))) : Calls Tryz.prog 47 #[agg61 x,.pointer (some ⟨q,0,none⟩)] W fun e w' => e = .returned (.bool (x.f1 == kind)) ∧ Below W.heap.size W w' := by
  have q0 : W.cell? ⟨q,0,none⟩ = some (.int .i64 kind) := (blk_cell hq 0).trans rfl;have hlt := blk_lt hq;have hu61 := Tryz.underlying61;unfold agg61;clear hq;go_enter Tryz.func47,Tryz.ntmps47;go_wp2;go_ret;exact ⟨rfl,below_alloc (Below.refl _ _) _⟩
end Go.Proofs.YtblemmagkehanaaGreat.PA
namespace Go.Proofs.YtblemmagkehanaaGreat.PA
open Go.RowKit Go.Proofs.YtblemmagkehanaaGreatW.PrintWords Go.Proofs.YtblemmagkehanaaGreatW.PrintLast Go.Proofs.YtblemmagkehanaaGreatW.PrintMore
set_option linter.unusedVariables false
set_option linter.unusedSimpArgs false
theorem take_fold {α β : Type} (f : β → α → β) (b : β) (l : List α) (i : Nat) (h : i < l.length) : (l.take (i + 1)).foldl f b = f ((l.take i).foldl f b) l[i] := by
  rw [List.take_succ_eq_append_getElem h,List.foldl_append];rfl
theorem okId_pos {x : Int} (h : okId x = true) : 1 ≤ x ∧ x ≤ 2147483647 := by simpa [okId] using h
theorem heardK_ids {L : List Nb} (hn : ∀ e ∈ L,NewsOk e.news) (all : Bool) (p : S61 → Bool) (ks : List Int) : ∀ h ∈ heardK all p L ks,h.f2.length ≤ 4294967294 ∧ ∀ n ∈ h.f2,okId n.f0 = true := by
  intro h hh;obtain ⟨id,_,h2⟩ := List.mem_flatMap.1 hh
  cases hg : nbGet id L with
  | none => rw [hg] at h2;cases h2
  | some e =>
    rw [hg] at h2;obtain ⟨he,_⟩ := nbGet_mem hg;have h3 : h ∈ rowH all p e := h2;unfold rowH at h3
    split at h3
    · rw [List.mem_singleton.1 h3]
      have hok := hn e he;refine ⟨Nat.le_trans (List.length_filter_le _ _) hok.len,fun n hm => ?_⟩;have h4 := may_key (hok.2 n (List.mem_filter.1 hm).1)
      simp [okId,h4.1,h4.2.1]
    cases h3
def dstP (kind : Int) (L : List Nb) : List Int := dstK (heardK false (fun x => x.f1 == kind) L (idsV L))
theorem dstP_ids {L : List Nb} (hn : ∀ e ∈ L,NewsOk e.news) (kind : Int) : (dstP kind L).Nodup ∧ (∀ x ∈ dstP kind L,okId x = true) ∧ (dstP kind L).length ≤ 2147483647 := by
  have h1 : (dstP kind L).Nodup := addA_nodup _ List.nodup_nil;have h2 : ∀ x ∈ dstP kind L,okId x = true := fun x hx => by
    rcases (addA_mem _ _).1 hx with h | ⟨h,hh,n,hm,rfl⟩
    · cases h
    exact (heardK_ids hn _ _ _ h hh).2 n hm
  exact ⟨h1,h2,pigeon 2147483647 _ h1 fun x hx => okId_pos (h2 x hx)⟩
set_option maxHeartbeats 8000000 in
set_option maxRecDepth 1000000 in
theorem dests_live {w : World} {g b : Nat} {L : List Nb} (h : CacheAt w g b L) (hk : ∀ e ∈ L,okId e.id = true) (hl : L.length ≤ 2147483647) (hn : ∀ e ∈ L,NewsOk e.news) (kind : Int) :
    Calls Tryz.prog 21 #[.pointer (some ⟨g,0,none⟩),.int .i64 kind] w fun e w' => ∃ v,e = .returned v ∧ Kd.R (Kd.int .i64) 3 w' w.heap.size (fun _ => True) v (keysV (seenM (dstP kind L))) ∧ Below w.heap.size w w' := by
  have HD := Aside0.mk h;have HK := Aside0.mk hk;have HL := Aside0.mk hl;have ID := Aside0.mk (dstP_ids hn kind);have HI := Aside0.mk (heardK_ids hn false (fun x => x.f1 == kind) (idsV L));have HLn : Aside0 ((heardK false (fun x => x.f1 == kind) L (idsV L)).length ≤ 2147483647) := ⟨by have h1 := heardK_len false (fun x => x.f1 == kind) L (idsV L);rw [idsV_len] at h1;omega⟩
  have hu43 := Tryz.underlying43;have hu61 := Tryz.underlying61;have hmm := @run_makeMap Tryz.prog;obtain ⟨H,hH⟩ : ∃ H,heardK false (fun x => x.f1 == kind) L (idsV L) = H := ⟨_,rfl⟩
  have hdp : dstP kind L = dstK H := by unfold dstP;rw [hH]
  rw [hdp] at ID ⊢;rw [hH] at HI HLn;have HH := Aside0.mk hH;clear h hk hl hn hH hdp;obtain ⟨w1,hw1⟩ : ∃ w1,w1 = (w.alloc (.cells #[.int .i64 kind] 3)).alloc (.map #[] 0) := ⟨_,rfl⟩
  have B1 : Aside0 (Below w.heap.size w w1) := ⟨by rw [hw1];exact below_alloc (below_alloc (Below.refl _ _) _) _⟩
  have Q1 : Aside0 (w1.heap[w.heap.size]? = some (.cells #[.int .i64 kind] 3 (0,0))) := ⟨by rw [hw1];exact (al_old _ _ (by simp)).trans (blk_new w _)⟩
  have M1 : Aside0 (IsMap w1 (w.heap.size + 1) (Value.int .i64) (seenM [])) := ⟨by rw [hw1];have := isMap_made (enc := Value.int .i64) (w.alloc (.cells #[.int .i64 kind] 3));rwa [World.size_alloc] at this⟩
  go_enter Tryz.func21,Tryz.ntmps21
  go_wp2_with (go_at_call 44;rw [← hw1];refine (heard_any (HD.out.below B1.out) HK.out HL.out false (fun x => x.f1 == kind) #[.pointer (some ⟨w.heap.size,0,none⟩)] Tryz.func47 (by kernel_rfl) rfl (fun x W hW => f47_any x kind w.heap.size W (blk_below Q1.out hW))).mono ?_;rintro e w2 ⟨v,rfl,hS,hb⟩;rw [HH.out] at hS;obtain ⟨AH,cH,ev,hcH,hC⟩ := Kd.S_reads hS;subst ev;have C2 := Aside0.mk hC;have B2 := Aside0.mk (below_then B1.out B1.out.size hb);have M2 := Aside0.mk (M1.out.below hb);clear hS hb hC hcH)
  obtain ⟨bm,hbm⟩ : ∃ bm,bm = w.heap.size + 1 := ⟨_,rfl⟩
  rw [← hbm] at M1 M2 ⊢;have GB : Aside0 (w.heap.size ≤ bm) := ⟨by omega⟩
  clear hbm hw1;have hmax := Kd.C_max C2.out
  go_loopg [15] H.length (fun kx s15 wr => ∃ i : Nat,s15 = .int .i64 i ∧ i ≤ H.length ∧ H.length - i ≤ kx ∧ Aside0 (Below w.heap.size w wr) ∧ Aside0 (Kd.C k43 wr AH H.length H) ∧ Aside0 (IsMap wr bm (Value.int .i64) (seenM ((H.take i).foldl addH []))))
  case atStart => exact ⟨0,rfl,Nat.zero_le _,by omega,B2,C2,M2⟩
  case round =>
    obtain ⟨i,rfl,hin,hg,BO,CO,MO⟩ := hrel;have hln := HLn.out
    by_cases hlt : i < H.length
    rotate_left
    · obtain rfl : i = H.length := by omega
      rw [List.take_length] at MO;have MF : Aside0 (IsMap wr bm (Value.int .i64) (seenM (dstK H))) := MO
      go_wp2_with (first | (go_at_call 49;refine (keysB (some bm) _).mono ?_;rintro e w4 ⟨rfl,rfl⟩) | (go_at_call 48;refine (sorted_B (MF.out.alloc _) (fun x hx => by obtain ⟨k,hk,rfl⟩ := List.mem_map.1 hx;exact ID.out.2.1 k hk) (by have h1 := ID.out.2.2;simpa [seenM] using h1) (blk_new _ _)).mono ?_;rintro e w5 ⟨vk,rfl,hR,hb⟩;have HR := Aside0.mk hR;have HB5 := Aside0.mk (below_then (below_alloc BO.out (Obj.cells #[.map (some bm)] 93)) (below_alloc BO.out _).size hb);clear hR hb))
      go_ret;exact ⟨vk,rfl,Kd.R_lower HR.out (below_alloc BO.out _).size,HB5.out⟩
    obtain ⟨ad,A2,c2,ea,x0,x1,x2,hl2,hi2⟩ := at_T43 CO.out (i : Int) (by omega) (by omega);rw [rdh,getDh hlt] at x0 x1 x2 hl2 hi2;simp only [Int.toNat_natCast] at x0 x1 x2;obtain ⟨h,hh⟩ : ∃ h,H[i] = h := ⟨_,rfl⟩
    have NX := Aside0.mk (take_fold addH [] H i hlt);have HX := Aside0.mk (HI.out H[i] (List.getElem_mem hlt));rw [hh] at x0 x1 x2 hl2 hi2 NX HX;have C61 := Aside0.mk hi2;have hfl := HX.out.1;clear hh hi2 hl2;rw [ea]
    go_wp2_with fail
    go_loopg [22] h.f2.length (fun kq s22 wi => ∃ k : Nat,s22 = .int .i64 k ∧ k ≤ h.f2.length ∧ h.f2.length - k ≤ kq ∧ Aside0 (Below w.heap.size w wi) ∧ Aside0 (Kd.C k43 wi AH H.length H) ∧ Aside0 (Kd.C k61 wi A2 h.f2.length h.f2) ∧ Aside0 (IsMap wi bm (Value.int .i64) (seenM ((h.f2.take k).foldl addN ((H.take i).foldl addH [])))))
    case atStart => exact ⟨0,rfl,Nat.zero_le _,by omega,⟨below_alloc BO.out _⟩,⟨Kd.C_alloc CO.out _⟩,⟨Kd.C_alloc C61.out _⟩,⟨MO.out.alloc _⟩⟩
    case round =>
      obtain ⟨k,rfl,hkn,hgk,BI,CI,CN,MI⟩ := hrel;clear x0 x1 x2
      by_cases hltk : k < h.f2.length
      · obtain ⟨ad2,e2,y0,y1,y2,y3,y4⟩ := at_T61 CN.out (k : Int) (by omega) (by omega)
        rw [rdn,getDn hltk] at y0 y1 y2 y3 y4;simp only [Int.toNat_natCast] at y0 y1 y2 y3 y4;obtain ⟨n,hn⟩ : ∃ n,h.f2[k] = n := ⟨_,rfl⟩
        have NK := Aside0.mk (take_fold addN ((H.take i).foldl addH []) h.f2 k hltk);rw [hn] at y0 y1 y2 y3 y4 NK;clear hn;rw [e2]
        go_wp2_with ((with_reducible refine gate_ (.mapUpdate 93 (.tmp 26) (.tmp 28) (.tmp 29)) rfl ?_);refine wp_put rfl (.tmp 26) (.tmp 28) (.tmp 29) 93 3 94 rfl (key_int Tryz.underlying3) Tryz.underlying93 rfl n.f0 rfl (.agg #[]) rfl (MI.out.alloc _) ?_;intro w7 hm7 hg7 hs7;rw [mput_seen] at hm7;have M7 := Aside0.mk hm7;have B7 := Aside0.mk (pw_below_grown (below_alloc BI.out _) (some bm) (below_alloc BI.out _).size hg7 (fun k_ e_ => by cases e_;exact GB.out));have C7 := Aside0.mk (C43_kept (Kd.C_alloc CI.out _) (odd_map (MI.out.alloc _)) hg7);have N7 := Aside0.mk (C61_kept (Kd.C_alloc CN.out _) (odd_map (MI.out.alloc _)) hg7);clear hm7 hg7 hs7)
        rw [← e2]
        go_roundg (h.f2.length - (k + 1))
        case measure => omega
        case rel => exact ⟨k + 1,by go_num,by omega,Nat.le_refl _,B7,C7,N7,⟨by rw [NK.out];exact M7.out⟩⟩
      obtain rfl : k = h.f2.length := by omega
      rw [List.take_length] at MI
      go_wp2_with fail
      rw [← ea]
      go_roundg (H.length - (i + 1))
      case measure => omega
      case rel => exact ⟨i + 1,by go_num,by omega,Nat.le_refl _,BI,CI,⟨by rw [NX.out];exact MI.out⟩⟩
end Go.Proofs.YtblemmagkehanaaGreat.PA
