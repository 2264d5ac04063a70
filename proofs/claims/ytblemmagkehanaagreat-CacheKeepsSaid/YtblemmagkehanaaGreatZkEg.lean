/- CacheKeeps walked. Condition: the calls and the news are words, and fit in memory. -/
import Derived.Test.YtblemmagkehanaaGreatZkEf
import Derived.Test.YtblemmagkehanaaGreatZkGi
namespace Go.Proofs.YtblemmagkehanaaGreat.PA
open Go.RowKit Go.Proofs.YtblemmagkehanaaGreatW.PrintWords Go.Proofs.YtblemmagkehanaaGreatW.PrintLast Go.Proofs.YtblemmagkehanaaGreatW.PrintMore
set_option linter.unusedVariables false
set_option linter.unusedSimpArgs false
open Classical
noncomputable def beaconlaw13_CacheKeeps.f (l : List S31) (id : Int) (ns : List S61) : Option Bool := if ActsW l ∧ WordsN ns ∧ ns.length < 3518437208883 then some true else none
theorem rd43g (l : List S43) (i : Nat) (h : i < l.length) : rd_T43 l (i : Int) = l[i] := by rw [rdh,getDh h]
theorem one_at {w : World} {A : Option Addr} {id : Int} {F : List S61} (h : Kd.C k43 w A 1 [⟨id,0,F⟩]) : ∃ ad A2 c2,A = some ad ∧ w.cell? ⟨ad.block,ad.off + 2,none⟩ = some (.slice A2 F.length c2) ∧ F.length ≤ c2 ∧ Kd.C k61 w A2 F.length F := by
  obtain ⟨ad,A2,c2,e,_,_,z2,hl,hC⟩ := at_T43 h 0 (Int.le_refl _) (by decide);exact ⟨ad,A2,c2,e,z2,hl,hC⟩
set_option maxHeartbeats 8000000 in
set_option maxRecDepth 1000000 in
theorem beaconlaw13_CacheKeeps.calls (A0 : Option Addr) (c0 : Nat) (l : List S31) (id : Int) (B : Option Addr) (cB : Nat) (ns : List S61) (r : Bool) (w : World) (hr : Kd.C k31 w A0 l.length l) (hc : l.length ≤ c0) (hr2 : Kd.C k61 w B ns.length ns) (hc2 : ns.length ≤ cB) (h : beaconlaw13_CacheKeeps.f l id ns = some r) :
    Calls Tryz.prog 4 #[.slice A0 l.length c0,.int .i64 id,.slice B ns.length cB] w fun e w' => e = .returned (.bool r) ∧ Below w.heap.size w w' := by
  have HW : (ActsW l ∧ WordsN ns ∧ ns.length < 3518437208883) ∧ r = true := by
    unfold beaconlaw13_CacheKeeps.f at h
    split at h
    · rename_i h1
      exact ⟨h1,(Option.some.inj h).symm⟩
    cases h
  obtain ⟨⟨hw,hwn,hnl⟩,rfl⟩ := HW;have AW := Aside0.mk hw;have WN := Aside0.mk hwn;have HR := Aside0.mk hr;have HN := Aside0.mk hr2;have HCB := Aside0.mk hc2;have NL : Aside0 (ns.length ≤ 4611686018427387903) := ⟨by omega⟩
  have hu31 := Tryz.underlying31;have hu43 := Tryz.underlying43;have hmax := Kd.C_max hr;clear h hr hw hr2 hwn hc2 hnl;go_enter Tryz.func4,Tryz.ntmps4
  go_wp2_with (first | (go_at_call 7;refine (cache_new _).mono ?_;rintro e w1 ⟨g,b,rfl,hg,hb,hC,hB⟩;have HG := Aside0.mk hb;have C1 := Aside0.mk hC;have HB1 := Aside0.mk hB;clear hg hb hC hB))
  have P0 : Aside0 (PlayAt w (w1.alloc (Obj.cells #[] 43)) g b [] (some ⟨w1.heap.size,0,none⟩) 0 []) := ⟨play_start HG.out C1.out HB1.out (below_alloc (Below.refl _ _) _) ⟨rfl,by decide,fun h => absurd h (by decide)⟩⟩
  go_loopg [8,9,10] l.length (fun kx s4 s5 s6 wr => ∃ (i : Nat) (L : List Nb) (A2 : Option Addr) (c2 : Nat) (m : List S43),s4 = .slice A2 m.length c2 ∧ s5 = .bool true ∧ s6 = .int .i64 (i : Int) ∧ i ≤ l.length ∧ l.length - i ≤ kx ∧ Aside0 (PlayAt w wr g b L A2 c2 m))
  case atStart => exact ⟨0,[],_,0,[],rfl,rfl,rfl,Nat.zero_le _,by omega,P0⟩
  case round =>
    obtain ⟨i,L,A2,c2,m,rfl,rfl,rfl,hin,hg,PR⟩ := hrel
    by_cases hlt : i < l.length
    · obtain ⟨ad,A3,c3,ea,x0,x1,x2,x3,hl3,hi3⟩ := at_T31 (Kd.C_below HR.out PR.out.old) (i : Int) (by omega) (by omega)
      rw [rd31 l i hlt] at x0 x1 x2 x3 hl3 hi3;simp only [Int.toNat_natCast] at x0 x1 x2 x3;obtain ⟨a,ha⟩ : ∃ a,l[i] = a := ⟨_,rfl⟩
      have WA : Aside0 (ActW a) := ⟨by rw [← ha];exact AW.out _ (List.getElem_mem hlt)⟩
      rw [ha] at x0 x1 x2 x3 hl3 hi3;have HI := Aside0.mk hi3;have HL3 := Aside0.mk hl3;clear ha hi3 hl3;rw [ea]
      go_wp2_with (go_at_call 8;refine (does_any PR.out.st a WA.out HI.out HL3.out).mono ?_;intro e w4 hd;obtain ⟨A5,c5,L5,m5,rfl,hp⟩ := PR.out.does hd;have P5 := Aside0.mk hp;clear hd hp x0 x1 x2 x3)
      rw [← ea]
      go_roundg (l.length - (i + 1))
      case measure => omega
      case rel => exact ⟨i + 1,L5,A5,c5,m5,rfl,rfl,by go_num,by omega,Nat.le_refl _,P5⟩
    obtain rfl : i = l.length := by omega
    have K1 := Aside0.mk PR.out.keep
    by_cases hok : learnE L id ns = 0
    rotate_left
    · have hqq : ∃ q,learnE L id ns = q := ⟨_,rfl⟩
      obtain ⟨q,hq⟩ := hqq;rw [hq] at hok;have hb : (q != 0) = true := by simpa using hok
      have hbb : (q == q) = true := by simp
      have LN := Aside0.mk (learn_no K1.out id HN.out HCB.out WN.out NL.out);have DL := Aside0.mk (fun (W : World) (hC : Kd.C k43 W A2 m.length m) (hb : Below w.heap.size w W) => doc_learn_any hC PR.out.st.room PR.out.st.ok id (Kd.C_below HN.out hb) HCB.out (by have := NL.out;omega));rw [hq] at LN;simp only [hq] at DL;have ST := Aside0.mk PR.out.st;clear hq hok
      go_wp2_with (first | (go_at_call 11;refine LN.out.mono ?_;rintro e w4 ⟨rfl,hb4,hD⟩;have HB4 := Aside0.mk hb4;have D4 := Aside0.mk (hD _ _ _ ST.out.doc);clear hb4 hD) | (go_at_call 12;refine (DL.out _ D4.out HB4.out).mono ?_;rintro e w5 ⟨A5,c5,rfl,hD5⟩;have HB5 := Aside0.mk (below_then HB4.out HB4.out.size hD5.2.2);clear hD5) | (go_at_call 10;refine (awake_any _).mono ?_;rintro e w6 ⟨rfl,hb6⟩;have HB6 := Aside0.mk (below_then HB5.out HB5.out.size hb6);clear hb6))
      go_ret;exact ⟨rfl,HB6.out⟩
    obtain ⟨x,hgx,hrx⟩ : ∃ x,nbGet id L = some x ∧ risFrom ns ns.length 0 = true := by
      unfold learnE at hok
      cases hgx : nbGet id L with
      | none => rw [hgx] at hok;simp at hok
      | some x =>
        rw [hgx] at hok
        cases hrx : risFrom ns ns.length 0 with
        | false => rw [hrx] at hok;simp at hok
        | true => exact ⟨x,rfl,rfl⟩
    have GX := Aside0.mk hgx;have RX := Aside0.mk hrx;have ST := Aside0.mk PR.out.st;have AX := Aside0.mk (PR.out.st.ok.news x (nbGet_mem hgx).1).1;clear hok hgx hrx;obtain ⟨q1,hq1⟩ : ∃ q : Nat,cntAt x.news ns ns.length = q := ⟨_,rfl⟩
    have LG := Aside0.mk (learn_good K1.out id HN.out HCB.out WN.out NL.out GX.out RX.out);rw [hq1] at LG;clear hq1;have FA := Aside0.mk (fold_again AX.out (ris_news RX.out).1);have hmm := ST.out.ok.fit.1;obtain ⟨wo,rfl⟩ : ∃ wo,wo = wr := ⟨_,rfl⟩
    go_wp2_with (go_at_call 11;refine LG.out.mono ?_;rintro e w4 ⟨L1,rfl,hK,hG,hO,hD⟩;have K4 := Aside0.mk hK;have G4 := Aside0.mk hG;have O4 := Aside0.mk hO;have D4 := Aside0.mk (hD _ _ _ ST.out.doc);clear hK hG hO hD)
    go_loopg [16] m.length (fun kx s16 wr => ∃ i : Nat,s16 = .int .i64 (i : Int) ∧ i ≤ m.length ∧ m.length - i ≤ kx ∧ Aside0 (KeepAt w wr g b L1) ∧ Aside0 (Kd.C k43 wr A2 m.length m))
    case atStart => exact ⟨0,rfl,Nat.zero_le _,by omega,K4,D4⟩
    case round =>
      obtain ⟨i,rfl,hin,hg,KR,DR⟩ := hrel
      by_cases hlt : i < m.length
      · obtain ⟨ad,A3,c3,ea,x0,x1,x2,hl3,hi3⟩ := at_T43 DR.out (i : Int) (by omega) (by omega)
        rw [rd43g m i hlt] at x0 x1 x2 hl3 hi3;simp only [Int.toNat_natCast] at x0 x1 x2;obtain ⟨h,hh⟩ : ∃ h,m[i] = h := ⟨_,rfl⟩
        have hmem : h ∈ m := by rw [← hh];exact List.getElem_mem hlt
        have SG := ST.out.ok.get ST.out.cache.ids hmem;have HF := ST.out.ok.fit.2 h hmem;have SK := Aside0.mk (sameN_ref h.f2 (by omega) _ (Nat.le_refl _));rw [hh] at x0 x1 x2 hl3 hi3;have HI := Aside0.mk hi3;have HL3 := Aside0.mk hl3;clear hh hmem hi3 hl3 x1 HF;rw [ea]
        by_cases hid : h.f0 = id
        · obtain ⟨y,hy,hyn⟩ := G4.out
          have hb : (h.f0 != id) = false := by simp [hid]
          rw [← hid] at hy;have LC := Aside0.mk (list_some KR.out.cache hy);clear hy hyn SG hid
          go_wp2_with (go_at_call 13;refine LC.out.mono ?_;rintro e w5 ⟨v,rfl,hR,hb5⟩;have K5 := Aside0.mk (KR.out.below hb5);have D5 := Aside0.mk (Kd.C_below DR.out hb5);have y0 := pw_cell_below hb5 x0;have y2 := pw_cell_below hb5 x2;clear hR hb5 x0 x2)
          rw [← ea]
          go_roundg (m.length - (i + 1))
          case measure => omega
          case rel => exact ⟨i + 1,by go_num,by omega,Nat.le_refl _,K5,D5⟩
        obtain ⟨y,hy,hyn⟩ := SG;have hy1 := O4.out _ _ hid hy;have hb : (h.f0 != id) = true := by simpa using hid
        have LC := Aside0.mk (list_some KR.out.cache hy1);have e2 : y.news = h.f2 := by rw [← hyn];rfl
        rw [e2] at LC;clear hy hyn hy1 hid e2
        go_wp2_with (first | (go_at_call 13;refine LC.out.mono ?_;rintro e w5 ⟨v,rfl,hR,hb5⟩;obtain ⟨Av,cv,ev⟩ := Kd.R_slice hR;subst ev;have R5 := Aside0.mk hR;have HB5 := Aside0.mk hb5;have K5 := Aside0.mk (KR.out.below hb5);have D5 := Aside0.mk (Kd.C_below DR.out hb5);have y0 := pw_cell_below hb5 x0;have y2 := pw_cell_below hb5 x2;clear hR hb5 x0 x2) | (go_at_call 14;refine (beaconref06_SameNews.calls _ Av cv h.f2 A3 c3 h.f2 true _ (Kd.R_reads' R5.out).2.2 (Kd.R_reads' R5.out).2.1 (Kd.C_below HI.out HB5.out) HL3.out SK.out).mono ?_;rintro e w6 ⟨rfl,hb6⟩;have K6 := Aside0.mk (K5.out.below hb6);have D6 := Aside0.mk (Kd.C_below D5.out hb6);clear hb6))
        rw [← ea]
        go_roundg (m.length - (i + 1))
        case measure => omega
        case rel => exact ⟨i + 1,by go_num,by omega,Nat.le_refl _,K6,D6⟩
      obtain rfl : i = m.length := by omega
      obtain ⟨y,hy,hyn⟩ := G4.out;have LG2 := Aside0.mk (learn_good KR.out id HN.out HCB.out WN.out NL.out hy RX.out);have e0 : ((cntAt y.news ns ns.length : Nat) : Int) = 0 := by rw [hyn,FA.out.2];rfl
      rw [e0] at LG2;clear hy hyn e0;obtain ⟨F,hF⟩ : ∃ F,foldN [] ns = F := ⟨_,rfl⟩
      have DO := Aside0.mk (fun (W : World) (hb : Below w.heap.size w W) (q : Nat) (hq : W.heap[q]? = some (.cells #[.int .i64 id,.float .f64 0,.slice none 0 0] 43 (0,0))) => doc_one (w0 := w) id (one_C hq) (Nat.le_refl _) (Kd.C_below HN.out hb) HCB.out RX.out);simp only [hF] at DO;have FL : Aside0 (F.length < 4611686018427387904) := ⟨by have h1 := NewsOk.fold (l := []) ⟨List.Pairwise.nil,fun n hn => by cases hn⟩ (ris_news RX.out) ns.length;rw [List.take_length,hF] at h1;have := h1.len;omega⟩
      have SK := Aside0.mk (sameN_ref F FL.out _ (Nat.le_refl _));have HFF := Aside0.mk hF;clear hF;obtain ⟨wo2,rfl⟩ : ∃ wo,wo = wr := ⟨_,rfl⟩
      go_wp2_with (first | (go_at_call 11;(with_reducible refine LG2.out.mono ?_);rintro e w4 ⟨L2,rfl,hK,hG,_,_⟩;have K5 := Aside0.mk hK;obtain ⟨y2,hy2,_⟩ := hG;have G5 := Aside0.mk hy2;clear hK hy2) | (go_at_call 15;refine (forget_good K5.out id G5.out).mono ?_;rintro e w5 ⟨L3,v3,rfl,hK,hG⟩;have K6 := Aside0.mk hK;obtain ⟨y3,hy3,hn3⟩ := hG;have G6 := Aside0.mk hy3;have N6 := Aside0.mk hn3;clear hK hy3 hn3) | (go_at_call 11;(with_reducible refine (learn_good K6.out id HN.out HCB.out WN.out NL.out G6.out RX.out).mono ?_);rintro e w6 ⟨L4,rfl,hK,hG,_,_⟩;have K7 := Aside0.mk hK;obtain ⟨y4,hy4,hn4⟩ := hG;have G7 := Aside0.mk hy4;have N7 := Aside0.mk (show y4.news = F by rw [hn4,N6.out,HFF.out]);clear hK hy4 hn4) | (go_at_call 13;refine (list_some K7.out.cache G7.out).mono ?_;rintro e w7 ⟨v,rfl,hR,hb7⟩;rw [N7.out] at hR;obtain ⟨Av,cv,ev⟩ := Kd.R_slice hR;subst ev;have R8 := Aside0.mk hR;have K8 := Aside0.mk (K7.out.below hb7);clear hR hb7) | (go_at_call 12;refine (DO.out _ (below_alloc K8.out.old _) w7.heap.size (blk_new _ _)).mono ?_;rintro e w9 ⟨A9,c9,k9,rfl,hC9,hb9⟩;obtain ⟨ad9,A10,c10,eA,z2,hl10,hC10⟩ := one_at hC9;subst eA;have C10 := Aside0.mk hC10;have L10 := Aside0.mk hl10;have HB9 := Aside0.mk (below_then (below_alloc K8.out.old _) (below_alloc K8.out.old _).size hb9);have R9 := Aside0.mk (Kd.R_below (Kd.R_alloc R8.out _) hb9);clear hC9 hb9 hC10 hl10) | (go_at_call 14;refine (beaconref06_SameNews.calls _ Av cv F A10 c10 F true _ (Kd.R_reads' R9.out).2.2 (Kd.R_reads' R9.out).2.1 C10.out L10.out SK.out).mono ?_;rintro e w10 ⟨rfl,hb10⟩;have HB10 := Aside0.mk (below_then HB9.out HB9.out.size hb10);clear hb10) | (go_at_call 10;refine (awake_any _).mono ?_;rintro e w11 ⟨rfl,hb11⟩;have HB11 := Aside0.mk (below_then HB10.out HB10.out.size hb11);clear hb11))
      go_ret;exact ⟨rfl,HB11.out⟩
end Go.Proofs.YtblemmagkehanaaGreat.PA
