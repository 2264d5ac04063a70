/- The document's Put, walked where it puts. Condition: what is kept stands by names, and is no more than a directory holds. -/
import Derived.Test.YtlpmblcdafdfdaaYyDu0
namespace Go.Proofs.Ytlpmblcdafdfdaa.PA
open Go.RowKit Go.Proofs.YtlpmblcdafdfdaaW.PrintWords Go.Proofs.YtlpmblcdafdfdaaW.PrintLast Go.Proofs.YtlpmblcdafdfdaaW.PrintMore
set_option linter.unusedVariables false
set_option linter.unusedSimpArgs false
open Classical
set_option maxHeartbeats 4000000 in
set_option maxRecDepth 100000 in
theorem rput_ok (w : World) (life : Int) (A : Option Addr) (c : Nat) (M : List S57) (hr : Kd.C k57 w A M.length M) (hc : M.length ≤ c) (hl : M.length ≤ 4096) (hby : ByName M) (hnd : (M.map (·.f0)).Nodup) (s : ByteArray) (id at_ : Int) (hok : putE M s id at_ = 0) :
    Calls Try.prog 18 #[.agg #[.int .i64 life,.slice A M.length c],.string s,.int .i64 id,.int .i64 at_] w fun e w' => RPutOut w life A M s id at_ e w' := by
  have hu57 := Try.underlying57
  have hu42 := Try.underlying42
  have hu40 := Try.underlying40
  have HR := Aside0.mk hr
  have HC := Aside0.mk hc
  have HB := Aside0.mk hby
  have HN := Aside0.mk hnd
  obtain ⟨hname,hid,hat0,hpl⟩ := putE_inv hok
  have HK := Aside0.mk hok
  clear hr hc hby hnd hok
  obtain ⟨w0,hw0⟩ : ∃ w0,w0 = (w.alloc (Obj.cells #[.int .i64 life,.slice A M.length c] 42)).alloc (Obj.cells #[.int .i64 0,.slice none 0 0] 42) := ⟨_,rfl⟩
  obtain ⟨bx,hbx⟩ : ∃ b,b = w.heap.size := ⟨_,rfl⟩
  obtain ⟨br,hbr⟩ : ∃ b,b = w.heap.size + 1 := ⟨_,rfl⟩
  have W0 := Aside0.mk (And.intro hw0 (And.intro hbx hbr))
  have I0 : Aside0 (PBase w w0 bx br life A M.length c) := ⟨by rw [hw0];exact below_alloc (below_alloc (Below.refl _ _) _) _,by rw [hw0,hbx];exact blk_alloc (blk_new w _) _,by rw [hw0,hbr];have := blk_new (w.alloc (Obj.cells #[.int .i64 life,.slice A M.length c] 42)) (Obj.cells #[.int .i64 0,.slice none 0 0] 42);rwa [World.size_alloc] at this,by omega,by omega,by omega⟩
  have XR : Aside0 (bx ≠ br ∧ w.heap.size ≤ bx ∧ w.heap.size ≤ br) := ⟨by omega⟩
  clear hw0 hbx hbr
  have NM := Aside0.mk (fun W => rname_any s 0 hname W)
  have N1 := Aside0.mk (fun W => rnum_any id true (by rw [hid];rfl) W)
  have H2 := Aside0.mk hat0
  obtain ⟨q,hq⟩ : ∃ q,placeN s M 0 = q := ⟨_,rfl⟩
  have PL := Aside0.mk hq
  rw [hq] at hpl
  have HQ := Aside0.mk hpl
  clear hname hid hat0 hq hpl
  go_enter Try.func18,Try.ntmps18
  go_upto_region 1 with fail
  rw [← W0.out.2.2,← W0.out.2.1,← W0.out.1]
  go_upto_region 4 with (go_at_call 31;refine (NM.out _).mono ?_;rintro e w1 ⟨rfl,hb⟩;have I1 := Aside0.mk (I0.out.below hb);clear hb;have Xw1 := Aside0.mk I1.out.2.1;have Yw1 := Aside0.mk I1.out.2.2.1;have x0w1 : w1.cell? ⟨bx,0,none⟩ = some (.int .i64 life) := (blk_cell Xw1.out 0).trans rfl;have x1w1 : w1.cell? ⟨bx,1,none⟩ = some (.slice A M.length c) := (blk_cell Xw1.out 1).trans rfl;have zxw1 := blk_frozen Xw1.out 1)
  go_cut [32] from 21 to 32 (fun s32 wx => s32 = .bool false ∧ Aside0 (PBase w wx bx br life A M.length c))
  case first =>
    by_cases ha : at_ = 0
    · have hab : (at_ != 0) = false := by simp [ha]
      clear ha
      go_wp2_with (go_at_call 36;(with_reducible refine (N1.out _).mono ?_);rintro e w2 ⟨rfl,hb⟩;have I2 := Aside0.mk (I1.out.below hb);clear hb;have Xw2 := Aside0.mk I2.out.2.1;have Yw2 := Aside0.mk I2.out.2.2.1;have x0w2 : w2.cell? ⟨bx,0,none⟩ = some (.int .i64 life) := (blk_cell Xw2.out 0).trans rfl;have x1w2 : w2.cell? ⟨bx,1,none⟩ = some (.slice A M.length c) := (blk_cell Xw2.out 1).trans rfl;have zxw2 := blk_frozen Xw2.out 1)
      go_meet
      exact ⟨rfl,I2⟩
    · have hab : (at_ != 0) = true := by simpa using ha
      have N2 := Aside0.mk (fun W => rnum_any at_ true (by rw [H2.out.resolve_left ha];rfl) W)
      clear ha
      go_wp2_with (first | (go_at_call 36;(with_reducible refine (N1.out _).mono ?_);rintro e w2 ⟨rfl,hb⟩;have I2 := Aside0.mk (I1.out.below hb);clear hb;have Xw2 := Aside0.mk I2.out.2.1;have Yw2 := Aside0.mk I2.out.2.2.1;have x0w2 : w2.cell? ⟨bx,0,none⟩ = some (.int .i64 life) := (blk_cell Xw2.out 0).trans rfl;have x1w2 : w2.cell? ⟨bx,1,none⟩ = some (.slice A M.length c) := (blk_cell Xw2.out 1).trans rfl;have zxw2 := blk_frozen Xw2.out 1) | (go_at_call 36;(with_reducible refine (N2.out _).mono ?_);rintro e w3 ⟨rfl,hb⟩;have I3 := Aside0.mk (I2.out.below hb);clear hb;have Xw3 := Aside0.mk I3.out.2.1;have Yw3 := Aside0.mk I3.out.2.2.1;have x0w3 : w3.cell? ⟨bx,0,none⟩ = some (.int .i64 life) := (blk_cell Xw3.out 0).trans rfl;have x1w3 : w3.cell? ⟨bx,1,none⟩ = some (.slice A M.length c) := (blk_cell Xw3.out 1).trans rfl;have zxw3 := blk_frozen Xw3.out 1))
      go_meet
      exact ⟨rfl,I3⟩
  case rest =>
  obtain ⟨rfl,I3⟩ := hcut
  rename World => wd
  clear Xw1 Yw1 x0w1 x1w1 zxw1
  have Xwd := Aside0.mk I3.out.2.1
  have Ywd := Aside0.mk I3.out.2.2.1
  have x0wd : wd.cell? ⟨bx,0,none⟩ = some (.int .i64 life) := (blk_cell Xwd.out 0).trans rfl
  have x1wd : wd.cell? ⟨bx,1,none⟩ = some (.slice A M.length c) := (blk_cell Xwd.out 1).trans rfl
  have zxwd := blk_frozen Xwd.out 1
  go_upto_region 7 with (go_at_call 37;refine (place_any M hl s life A c _ (Kd.C_below HR.out I3.out.1) HC.out).mono ?_;rintro e w4 ⟨rfl,hb⟩;rw [PL.out];have I4 := Aside0.mk (I3.out.below hb);clear hb;have Xw4 := Aside0.mk I4.out.2.1;have Yw4 := Aside0.mk I4.out.2.2.1;have x0w4 : w4.cell? ⟨bx,0,none⟩ = some (.int .i64 life) := (blk_cell Xw4.out 0).trans rfl;have x1w4 : w4.cell? ⟨bx,1,none⟩ = some (.slice A M.length c) := (blk_cell Xw4.out 1).trans rfl;have zxw4 := blk_frozen Xw4.out 1)
  go_cut [44] from 37 to 44 (fun s44 wx => s44 = .bool false ∧ Aside0 (PBase w wx bx br life A M.length c))
  case first =>
    rcases HQ.out with ⟨jq,rfl⟩ | ⟨rfl,hlt⟩
    · have hjq : ¬ ((jq : Int) < 0) := by omega
      go_wp2_with fail
      go_meet
      exact ⟨rfl,I4⟩
    · have hlt2 : ¬ ((4096 : Int) ≤ (M.length : Int)) := by omega
      go_wp2_with fail
      go_meet
      exact ⟨rfl,I4⟩
  case rest =>
  obtain ⟨rfl,I5⟩ := hcut
  clear Xw4 Yw4 x0w4 x1w4 zxw4 Xwd Ywd x0wd x1wd zxwd
  have J0 : Aside0 (RInv w wc bx br (.slice none 0 0) (others s (M.take 0)) life A M.length c) := ⟨by rw [List.take_zero];exact ⟨Kd.R_nil _ _ _ _ _,I5.out.1,I5.out.2.1,I5.out.2.2.1⟩⟩
  go_wp2_with fail
  go_loopg [12,13] M.length (fun kq vl vi wr => ∃ j : Nat,vi = .int .i64 (j : Int) ∧ j + kq = M.length ∧ Aside0 (RInv w wr bx br vl (others s (M.take j)) life A M.length c))
  case atStart => exact ⟨0,rfl,by simp,J0⟩
  case round =>
    obtain ⟨j,rfl,hj,HJ⟩ := hrel
    have X0 := Aside0.mk HJ.out.2.2.1
    have x0 : wr.cell? ⟨bx,0,none⟩ = some (.int .i64 life) := (blk_cell X0.out 0).trans rfl
    have x1 : wr.cell? ⟨bx,1,none⟩ = some (.slice A M.length c) := (blk_cell X0.out 1).trans rfl
    have LT : Aside0 (bx < wr.heap.size ∧ br < wr.heap.size) := ⟨blk_lt HJ.out.2.2.1,blk_lt HJ.out.2.2.2⟩
    have LN : Aside0 ((others s (M.take j)).length ≤ 4096) := ⟨Nat.le_trans (others_len _ _) (by rw [List.length_take];omega)⟩
    by_cases hjl : j < M.length
    · have hjz : (j : Int) < (M.length : Int) := by omega
      obtain ⟨a,ha⟩ : ∃ a,M.getD j z57 = a := ⟨_,rfl⟩
      have TT := Aside0.mk (others_take (s := s) HN.out hjl ha)
      by_cases hjq : (j : Int) = q
      · have TK : Aside0 (others s (M.take (j + 1)) = others s (M.take j)) := ⟨by rw [TT.out,if_pos (by rw [PL.out];exact hjq)]⟩
        have hb : ((j : Int) != q) = false := by simp [hjq]
        clear hjq ha
        go_wp2_with fail
        go_roundg (gk - 1)
        case measure => omega
        case rel => exact ⟨j + 1,by go_num,by omega,⟨by rw [TK.out];exact HJ.out⟩⟩
      · have TK : Aside0 (others s (M.take (j + 1)) = others s (M.take j) ++ [⟨a.f0,a.f1,a.f2,a.f3⟩]) := ⟨by rw [TT.out,if_neg (by rw [PL.out];exact hjq)]⟩
        have hb : ((j : Int) != q) = true := by simpa using hjq
        clear hjq
        obtain ⟨ad,e0,x2,x3,x4,x5⟩ := at57 (Kd.C_below HR.out HJ.out.2.1) j hjl a ha
        subst e0
        clear ha
        go_wp2_with ((with_reducible refine gate_builtin (b := .append) (xs := #[.tmp 56,.tmp 62]) rfl ?_);at_builtin;refine Kd.R_append k57 (w0 := w) w.heap.size rfl (.tmp 56) (.tmp 62) 40 57 nilA 40 rfl Try.underlying40 inf57 rfl (by decide) (by omega) u12 (others s (M.take j)) ⟨a.f0,a.f1,a.f2,a.f3⟩ [.string a.f0,.int .i64 a.f1,.int .i64 a.f2,.int .i64 a.f3] (fun k => k ≠ bx ∧ k ≠ br) (fun _ => False) rfl (by first | rfl | (simp [Act.eval,Act.put];done)) ?aP (fun _ hk => hk.elim) ?aF ?aO ?aB ?aS ?aL ?_;(case aP => exact k57_mkM _ _ _ (⟨a.f0,a.f1,a.f2,a.f3⟩ : S57));(case aF => (intro k hk;have := LT.out;omega));(case aO => exact HJ.out.1);(case aB => exact HJ.out.2.1);(case aS => exact HJ.out.2.1.size);(case aL => have := LN.out;omega);intro v3 w3 ho hb3 hg3 hat;rw [← TK.out] at ho;have K3 := Aside0.mk (HJ.out.app ho hb3 hg3);clear ho hb3 hg3 hat)
        go_roundg (gk - 1)
        case measure => omega
        case rel => exact ⟨j + 1,by go_num,by omega,K3⟩
    · have hje : j = M.length := by omega
      subst hje
      clear hjl
      obtain ⟨B,hB⟩ : ∃ B,others s M = B := ⟨_,rfl⟩
      have HL : Aside0 (RInv w wr bx br u12 B life A M.length c) := ⟨by have := HJ.out;rwa [List.take_length,hB] at this⟩
      obtain ⟨nb,hnb⟩ : ∃ nb,nb = B.length := ⟨_,rfl⟩
      have hnl : nb ≤ 4096 := by rw [hnb,← hB];exact Nat.le_trans (others_len _ _) hl
      have BB := Aside0.mk hB
      have NB := Aside0.mk hnb
      have LN : Aside0 (B.length ≤ 4096) := ⟨by rw [← NB.out];exact hnl⟩
      clear HJ hB hnb
      go_wp2_with ((with_reducible refine gate_builtin (b := .append) (xs := #[.tmp 64,.tmp 71]) rfl ?_);at_builtin;refine Kd.R_append k57 (w0 := w) w.heap.size rfl (.tmp 64) (.tmp 71) 40 57 nilA 40 rfl Try.underlying40 inf57 rfl (by decide) (by omega) u12 (B) ⟨s,id,at_,life⟩ [.string s,.int .i64 id,.int .i64 at_,.int .i64 life] (fun k => k ≠ bx ∧ k ≠ br) (fun _ => False) rfl (by first | rfl | (simp [Act.eval,Act.put];done)) ?aP (fun _ hk => hk.elim) ?aF ?aO ?aB ?aS ?aL ?_;(case aP => exact k57_mkM _ _ _ (⟨s,id,at_,life⟩ : S57));(case aF => (intro k hk;have := LT.out;omega));(case aO => exact HL.out.1);(case aB => exact HL.out.2.1);(case aS => exact HL.out.2.1.size);(case aL => have := LN.out;omega);intro v3 w3 ho hb3 hg3 hat;have K2 := Aside0.mk (HL.out.app ho hb3 hg3);clear ho hb3 hg3 hat;obtain ⟨g,cap,rfl,hgx,hgr,K3'⟩ := put_form K2.out NB.out;have K3 := Aside0.mk K3';have GX := Aside0.mk (And.intro hgx hgr);clear K2 K3' hgx hgr)
      go_loopg [14] nb (fun kq vi wr => ∃ k : Nat,vi = .int .i64 (k : Int) ∧ k ≤ nb ∧ kq = k ∧ Aside0 (RInv w wr bx br (.slice (some ⟨g,0,none⟩) (nb + 1) cap) (letIn B (⟨s,id,at_,life⟩ : S57) k) life A M.length c ∧ ∀ x ∈ B.drop k,nmLt s x.f0 = true))
      case atStart => exact ⟨nb,by go_num,Nat.le_refl _,rfl,⟨K3.out,fun x hx => by rw [NB.out,List.drop_length] at hx;cases hx⟩⟩
      case round =>
        obtain ⟨k,rfl,hk,hkq,HJ⟩ := hrel
        obtain rfl : k = gk := hkq.symm
        have X0' := Aside0.mk HJ.out.1.2.2.1
        have Y0' := Aside0.mk HJ.out.1.2.2.2
        cases k with
        | zero =>
          have DONE : Aside0 (letIn B (⟨s,id,at_,life⟩ : S57) 0 = sortN (adPut (⟨s,id,at_,life⟩ : S57) M)) := ⟨by rw [← BB.out];exact letIn_done (L := M) (a := (⟨s,id,at_,life⟩ : S57)) (List.Perm.refl _) HB.out HN.out (Nat.zero_le _) (fun x hx => HJ.out.2 x (by rw [← BB.out];exact hx)) (.inl rfl)⟩
          go_upto_region 17 with fail
          go_cut [91] from 76 to 91 (fun s91 wx => s91 = .bool false ∧ Aside0 (RInv w wx bx br (.slice (some ⟨g,0,none⟩) (nb + 1) cap) (letIn B (⟨s,id,at_,life⟩ : S57) 0) life A M.length c))
          case first =>
            go_quiet (fail)
            go_wp2
            go_meet
            exact ⟨rfl,⟨HJ.out.1.below (pw_below_drewN (Below.refl _ _) _)⟩⟩
          case rest =>
            obtain ⟨rfl,JC⟩ := hcut
            rename World => wd
            have Xd := Aside0.mk JC.out.2.2.1
            have Yd := Aside0.mk JC.out.2.2.2
            have xd0 : wd.cell? ⟨bx,0,none⟩ = some (.int .i64 life) := (blk_cell Xd.out 0).trans rfl
            have xd1 : wd.cell? ⟨bx,1,none⟩ = some (.slice A M.length c) := (blk_cell Xd.out 1).trans rfl
            have zxd1 := blk_frozen Xd.out 1
            have yd0 : wd.cell? ⟨br,0,none⟩ = some (.int .i64 0) := (blk_cell Yd.out 0).trans rfl
            have yd1 : wd.cell? ⟨br,1,none⟩ = some (.slice none 0 0) := (blk_cell Yd.out 1).trans rfl
            have zyd0 := blk_frozen Yd.out 0
            have zyd1 := blk_frozen Yd.out 1
            have hne1 := XR.out.1
            have hne2 := Ne.symm XR.out.1
            go_wp2_with fail
            obtain ⟨W,hW⟩ : ∃ W,W = ((wd.setCell ⟨bx,1,none⟩ (.slice (some ⟨g,0,none⟩) (nb + 1) cap)).setCell ⟨br,0,none⟩ (.int .i64 life)).setCell ⟨br,1,none⟩ (.slice (some ⟨g,0,none⟩) (nb + 1) cap) := ⟨_,rfl⟩
            have BK := rput_end JC.out DONE.out HK.out XR.out
            have BW : W.heap[br]? = some (.cells #[.int .i64 life,.slice (some ⟨g,0,none⟩) (nb + 1) cap] 42 (0,0)) := by rw [hW];exact (blk_set (blk_set (blk_far Yd.out hne2 _) 0 _) 1 _).trans rfl
            rw [← hW] at BK ⊢
            clear hW
            have g0 : W.cell? ⟨br,0,none⟩ = some (.int .i64 life) := (blk_cell BW 0).trans rfl
            have g1 : W.cell? ⟨br,1,none⟩ = some (.slice (some ⟨g,0,none⟩) (nb + 1) cap) := (blk_cell BW 1).trans rfl
            exact bodyPost_ret (v := .tuple #[.agg #[.int .i64 life,.slice (some ⟨g,0,none⟩) (nb + 1) cap],.int .i64 0]) (by simp [results,Try.results18,go_sem,g0,g1]) rfl BK
        | succ k =>
          obtain ⟨y,hy⟩ : ∃ y,B.getD k z57 = y := ⟨_,rfl⟩
          have EY := Aside0.mk ((letIn_prev B (⟨s,id,at_,life⟩ : S57) k (by rw [← NB.out];exact hk)).trans hy)
          have HY := Aside0.mk hy
          clear hy
          obtain ⟨p0,p1,p2,p3,pz⟩ := row_at HJ.out.1 k (by omega) y EY.out
          obtain ⟨q0,q1,q2,q3,qz⟩ := row_at HJ.out.1 (k + 1) (by omega) (⟨s,id,at_,life⟩ : S57) (letIn_at B _ (k + 1) (by rw [← NB.out];exact hk))
          have qz0 : wr.frozen? ⟨g,(k + 1) * 4,none⟩ = false := qz 0
          have qz1 := qz 1
          have qz2 := qz 2
          have qz3 := qz 3
          have pz0 : wr.frozen? ⟨g,k * 4,none⟩ = false := pz 0
          have pz1 := pz 1
          have pz2 := pz 2
          have pz3 := pz 3
          clear qz pz
          by_cases hlt : nmLt s y.f0 = true
          · have hlt2 : Op.bytesLess s.toList y.f0.toList = true := hlt
            have NX : Aside0 (∀ x ∈ B.drop k,nmLt s x.f0 = true) := ⟨fun x hx => by
              have hkl : k < B.length := by rw [← NB.out];omega
              rw [List.drop_eq_getElem_cons hkl] at hx
              rcases List.mem_cons.1 hx with rfl | hx
              · have e : B[k] = y := by rw [← HY.out];simp [List.getD_eq_getElem?_getD,hkl]
                rw [e]
                exact hlt
              · exact HJ.out.2 x hx⟩
            clear hlt
            go_upto_region 17 with fail
            go_cut [91] from 76 to 91 (fun s91 wx => s91 = .bool true ∧ Aside0 (RInv w wx bx br (.slice (some ⟨g,0,none⟩) (nb + 1) cap) (letIn B (⟨s,id,at_,life⟩ : S57) (k + 1)) life A M.length c))
            case first =>
              go_quiet (fail)
              go_wp2
              go_meet
              exact ⟨rfl,⟨HJ.out.1.below (pw_below_drewN (Below.refl _ _) _)⟩⟩
            case rest =>
            obtain ⟨rfl,JC⟩ := hcut
            clear p0 p1 p2 p3 q0 q1 q2 q3 pz0 pz1 pz2 pz3 qz0 qz1 qz2 qz3
            rename World => wd
            obtain ⟨p0,p1,p2,p3,pz⟩ := row_at JC.out k (by omega) y EY.out
            obtain ⟨q0,q1,q2,q3,qz⟩ := row_at JC.out (k + 1) (by omega) (⟨s,id,at_,life⟩ : S57) (letIn_at B _ (k + 1) (by rw [← NB.out];exact hk))
            have qz0 : wd.frozen? ⟨g,(k + 1) * 4,none⟩ = false := qz 0
            have qz1 := qz 1
            have qz2 := qz 2
            have qz3 := qz 3
            have pz0 : wd.frozen? ⟨g,k * 4,none⟩ = false := pz 0
            have pz1 := pz 1
            have pz2 := pz 2
            have pz3 := pz 3
            clear qz pz
            go_upto_block 3 with fail
            go_cut [] from 94 to 109 (fun wx => Aside0 (RInv w wx bx br (.slice (some ⟨g,0,none⟩) (nb + 1) cap) (letIn B (⟨s,id,at_,life⟩ : S57) k) life A M.length c))
            case first =>
              have SW := Aside0.mk (row_swap4 JC.out NB.out hk HY.out GX.out.1 GX.out.2)
              go_upto_region 19 with fail
              go_region
              go_wp2_with fail
              go_meet
              exact SW
            case rest =>
            have JE := hcut
            go_wp2_with fail
            go_roundg k
            case measure => omega
            case rel => exact ⟨k,by go_num,by omega,rfl,⟨JE.out,NX.out⟩⟩
          · have hlt2 : Op.bytesLess s.toList y.f0.toList = false := by
              cases h9 : Op.bytesLess s.toList y.f0.toList
              · rfl
              · exact absurd h9 hlt
            have DONE : Aside0 (letIn B (⟨s,id,at_,life⟩ : S57) (k + 1) = sortN (adPut (⟨s,id,at_,life⟩ : S57) M)) := ⟨by rw [← BB.out];exact letIn_done (L := M) (a := (⟨s,id,at_,life⟩ : S57)) (List.Perm.refl _) HB.out HN.out (by rw [BB.out,← NB.out];exact hk) (fun x hx => HJ.out.2 x (by rw [← BB.out];exact hx)) (.inr (by rw [BB.out];show nmLt s (B.getD k z57).f0 = false;rw [HY.out];exact hlt2))⟩
            clear hlt
            go_upto_region 17 with fail
            go_cut [91] from 76 to 91 (fun s91 wx => s91 = .bool false ∧ Aside0 (RInv w wx bx br (.slice (some ⟨g,0,none⟩) (nb + 1) cap) (letIn B (⟨s,id,at_,life⟩ : S57) (k + 1)) life A M.length c))
            case first =>
              go_quiet (fail)
              go_wp2
              go_meet
              exact ⟨rfl,⟨HJ.out.1.below (pw_below_drewN (Below.refl _ _) _)⟩⟩
            case rest =>
            obtain ⟨rfl,JC⟩ := hcut
            clear p0 p1 p2 p3 q0 q1 q2 q3 pz0 pz1 pz2 pz3 qz0 qz1 qz2 qz3
            rename World => wd
            have Xd := Aside0.mk JC.out.2.2.1
            have Yd := Aside0.mk JC.out.2.2.2
            have xd0 : wd.cell? ⟨bx,0,none⟩ = some (.int .i64 life) := (blk_cell Xd.out 0).trans rfl
            have xd1 : wd.cell? ⟨bx,1,none⟩ = some (.slice A M.length c) := (blk_cell Xd.out 1).trans rfl
            have zxd1 := blk_frozen Xd.out 1
            have yd0 : wd.cell? ⟨br,0,none⟩ = some (.int .i64 0) := (blk_cell Yd.out 0).trans rfl
            have yd1 : wd.cell? ⟨br,1,none⟩ = some (.slice none 0 0) := (blk_cell Yd.out 1).trans rfl
            have zyd0 := blk_frozen Yd.out 0
            have zyd1 := blk_frozen Yd.out 1
            have hne1 := XR.out.1
            have hne2 := Ne.symm XR.out.1
            go_wp2_with fail
            obtain ⟨W,hW⟩ : ∃ W,W = ((wd.setCell ⟨bx,1,none⟩ (.slice (some ⟨g,0,none⟩) (nb + 1) cap)).setCell ⟨br,0,none⟩ (.int .i64 life)).setCell ⟨br,1,none⟩ (.slice (some ⟨g,0,none⟩) (nb + 1) cap) := ⟨_,rfl⟩
            have BK := rput_end JC.out DONE.out HK.out XR.out
            have BW : W.heap[br]? = some (.cells #[.int .i64 life,.slice (some ⟨g,0,none⟩) (nb + 1) cap] 42 (0,0)) := by rw [hW];exact (blk_set (blk_set (blk_far Yd.out hne2 _) 0 _) 1 _).trans rfl
            rw [← hW] at BK ⊢
            clear hW
            have g0 : W.cell? ⟨br,0,none⟩ = some (.int .i64 life) := (blk_cell BW 0).trans rfl
            have g1 : W.cell? ⟨br,1,none⟩ = some (.slice (some ⟨g,0,none⟩) (nb + 1) cap) := (blk_cell BW 1).trans rfl
            exact bodyPost_ret (v := .tuple #[.agg #[.int .i64 life,.slice (some ⟨g,0,none⟩) (nb + 1) cap],.int .i64 0]) (by simp [results,Try.results18,go_sem,g0,g1]) rfl BK
end Go.Proofs.Ytlpmblcdafdfdaa.PA
