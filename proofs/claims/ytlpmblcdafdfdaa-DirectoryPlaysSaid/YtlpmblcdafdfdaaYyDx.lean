/- DirectoryPlays walked. No condition. -/
import Derived.Test.YtlpmblcdafdfdaaYyDx3
namespace Go.Proofs.Ytlpmblcdafdfdaa.PA
open Go.RowKit Go.Proofs.YtlpmblcdafdfdaaW.PrintWords Go.Proofs.YtlpmblcdafdfdaaW.PrintLast Go.Proofs.YtlpmblcdafdfdaaW.PrintMore
set_option linter.unusedVariables false
set_option linter.unusedSimpArgs false
open Classical
def beaconlaw20_DirectoryPlays.f (life : Int) (l : List S46) : Option Bool := some true
set_option maxHeartbeats 8000000 in
set_option maxRecDepth 1000000 in
theorem beaconlaw20_DirectoryPlays.calls (life : Int) (A : Option Addr) (c0 : Nat) (l : List S46) (r : Bool) (w : World) (hr : Kd.C k46 w A l.length l) (hc : l.length ≤ c0) (h : beaconlaw20_DirectoryPlays.f life l = some r) :
    Calls Try.prog 4 #[.int .i64 life,.slice A l.length c0] w fun e w' => e = .returned (.bool r) ∧ Below w.heap.size w w' := by
  obtain rfl : true = r := Option.some.inj h
  clear h
  have hu57 := Try.underlying57
  have hu42 := Try.underlying42
  have hu40 := Try.underlying40
  have hu46 := Try.underlying46
  have hu30 := Try.underlying30
  have hu36 := Try.underlying36
  have HR := Aside0.mk hr
  have hmax := Kd.C_max hr
  clear hr
  by_cases hlife : 1 ≤ life ∧ life ≤ 1048576
  · obtain ⟨hl1,hl2⟩ := hlife
    go_enter Try.func4,Try.ntmps4
    go_wp2_with (first | (go_at_call 16;refine (new_yes life _ hl1 hl2).mono ?_;rintro e w1 ⟨g,b,rfl,hg,hb,hd,hbl⟩;have HB1 := Aside0.mk hbl;have HD1 := Aside0.mk (show DirAt w1 g b life [] from hd);have GB := Aside0.mk (And.intro hg hb);clear hg hb hd hbl) | (go_at_call 17;refine (rnew_any life life 0 _ (rnew_f hl1 hl2)).mono ?_;rintro e w2 ⟨A1,c1,rfl,hC,hA,hb⟩;have HB2 := Aside0.mk hb;have HC2 := Aside0.mk hC;have HA2 := Aside0.mk hA;clear hb hC hA))
    obtain ⟨w3,hw3⟩ : ∃ w3,w3 = w2.alloc (Obj.cells #[.int .i64 life,.slice A1 0 c1] 42) := ⟨_,rfl⟩
    obtain ⟨bm,hbm⟩ : ∃ bm,bm = w2.heap.size := ⟨_,rfl⟩
    have GM := Aside0.mk (And.intro (show bm ≠ g by have := blk_lt HD1.out.1;have := HB2.out.size;omega) (show bm ≠ b by have := HD1.out.2.lt;have := HB2.out.size;omega))
    have LM : Aside0 (w.heap.size ≤ bm) := ⟨by have := HB1.out.size;have := HB2.out.size;omega⟩
    have e0 : sortN ([] : List S57) = [] := by simp [sortN]
    have P3 : Aside0 (PlayAt w w3 g b bm life A1 c1 []) := ⟨by rw [hw3];exact (HD1.out.below HB2.out).below (below_alloc (Below.refl _ _) _),by rw [hw3,hbm,e0];exact blk_new w2 _,by rw [hw3,e0];exact Kd.C_alloc HC2.out _,by rw [e0];exact Nat.zero_le _,fun ad he => by have := HA2.out ad he;omega,by rw [hw3];exact below_alloc (below_then HB1.out HB1.out.size HB2.out) _,⟨Nat.zero_le _,fun a ha => by cases ha⟩⟩
    rw [← hw3,← hbm]
    clear hw3 hbm e0
    go_loopg [9] l.length (fun kq vi wr => ∃ (j : Nat) (L : List S57) (A2 : Option Addr) (c2 : Nat),vi = .int .i64 (j : Int) ∧ j + kq = l.length ∧ Aside0 (PlayAt w wr g b bm life A2 c2 L))
    case atStart => exact ⟨0,[],A1,c1,rfl,by simp,P3⟩
    case round =>
      obtain ⟨j,L,A2,c2,rfl,hj,HP⟩ := hrel
      by_cases hjl : j < l.length
      · have hjz : (j : Int) < (l.length : Int) := by omega
        obtain ⟨c,hcc⟩ : ∃ c,l.getD j z46 = c := ⟨_,rfl⟩
        obtain ⟨ad,e0,x0,x1,x2,x3,x4,x5,x6,x7,x8,x9,x10,x11,x12,x13,x14,x15,x16⟩ := at46 HR.out j hjl c hcc
        subst e0
        replace x0 := (HP.out.2.2.2.2.2.1.cell (World.block_lt_of_cell? w _ x0)).trans x0
        replace x1 := (HP.out.2.2.2.2.2.1.cell (World.block_lt_of_cell? w _ x1)).trans x1
        replace x2 := (HP.out.2.2.2.2.2.1.cell (World.block_lt_of_cell? w _ x2)).trans x2
        replace x3 := (HP.out.2.2.2.2.2.1.cell (World.block_lt_of_cell? w _ x3)).trans x3
        replace x4 := (HP.out.2.2.2.2.2.1.cell (World.block_lt_of_cell? w _ x4)).trans x4
        replace x5 := (HP.out.2.2.2.2.2.1.cell (World.block_lt_of_cell? w _ x5)).trans x5
        replace x6 := (HP.out.2.2.2.2.2.1.cell (World.block_lt_of_cell? w _ x6)).trans x6
        replace x7 := (HP.out.2.2.2.2.2.1.cell (World.block_lt_of_cell? w _ x7)).trans x7
        replace x8 := (HP.out.2.2.2.2.2.1.cell (World.block_lt_of_cell? w _ x8)).trans x8
        replace x9 := (HP.out.2.2.2.2.2.1.cell (World.block_lt_of_cell? w _ x9)).trans x9
        replace x10 := (HP.out.2.2.2.2.2.1.cell (World.block_lt_of_cell? w _ x10)).trans x10
        replace x11 := (HP.out.2.2.2.2.2.1.cell (World.block_lt_of_cell? w _ x11)).trans x11
        replace x12 := (HP.out.2.2.2.2.2.1.cell (World.block_lt_of_cell? w _ x12)).trans x12
        replace x13 := (HP.out.2.2.2.2.2.1.cell (World.block_lt_of_cell? w _ x13)).trans x13
        replace x14 := (HP.out.2.2.2.2.2.1.cell (World.block_lt_of_cell? w _ x14)).trans x14
        replace x15 := (HP.out.2.2.2.2.2.1.cell (World.block_lt_of_cell? w _ x15)).trans x15
        replace x16 := (HP.out.2.2.2.2.2.1.cell (World.block_lt_of_cell? w _ x16)).trans x16
        obtain ⟨w6,hw6⟩ : ∃ w6,w6 = wr.alloc (.cells #[.int .i64 c.f0,.string c.f1,.int .i64 c.f2,.int .i64 c.f3,.int .i64 c.f4,.int .i64 c.f5.f0,.int .i64 c.f5.f1,.int .i64 c.f5.f2,.int .i64 c.f5.f3,.int .i64 c.f5.f4,.int .i64 c.f5.f5,.int .u64 c.f5.f6,.int .i64 c.f5.f7,.string c.f5.f8,.int .i64 c.f5.f9,.int .i64 c.f5.f10,.string c.f5.f11] 46) := ⟨_,rfl⟩
        obtain ⟨bc,hbc⟩ : ∃ bc,bc = wr.heap.size := ⟨_,rfl⟩
        have W6 := Aside0.mk (And.intro hw6 hbc)
        have BCM : Aside0 (bc ≠ bm ∧ bc ≠ b) := ⟨by have := blk_lt HP.out.2.1;have := HP.out.1.2.lt;omega⟩
        have P6 : Aside0 (PlayAt w w6 g b bm life A2 c2 L) := ⟨by rw [hw6];exact HP.out.below (below_alloc (Below.refl _ _) _)⟩
        have C6 : Aside0 (w6.heap[bc]? = some (.cells #[.int .i64 c.f0,.string c.f1,.int .i64 c.f2,.int .i64 c.f3,.int .i64 c.f4,.int .i64 c.f5.f0,.int .i64 c.f5.f1,.int .i64 c.f5.f2,.int .i64 c.f5.f3,.int .i64 c.f5.f4,.int .i64 c.f5.f5,.int .u64 c.f5.f6,.int .i64 c.f5.f7,.string c.f5.f8,.int .i64 c.f5.f9,.int .i64 c.f5.f10,.string c.f5.f11] 46 (0,0))) := ⟨by rw [hw6,hbc];exact blk_new wr _⟩
        clear hw6 hbc hcc
        go_upto_region 10 with fail
        rw [← W6.out.1,← W6.out.2]
        clear x0 x1 x2 x3 x4 x5 x6 x7 x8 x9 x10 x11 x12 x13 x14 x15 x16
        have c0_w6 : w6.cell? ⟨bc,0,none⟩ = some (.int .i64 c.f0) := (blk_cell C6.out 0).trans rfl
        have c1_w6 : w6.cell? ⟨bc,1,none⟩ = some (.string c.f1) := (blk_cell C6.out 1).trans rfl
        have c2_w6 : w6.cell? ⟨bc,2,none⟩ = some (.int .i64 c.f2) := (blk_cell C6.out 2).trans rfl
        have c3_w6 : w6.cell? ⟨bc,3,none⟩ = some (.int .i64 c.f3) := (blk_cell C6.out 3).trans rfl
        have c4_w6 : w6.cell? ⟨bc,4,none⟩ = some (.int .i64 c.f4) := (blk_cell C6.out 4).trans rfl
        have c5_w6 : w6.cell? ⟨bc,5,none⟩ = some (.int .i64 c.f5.f0) := (blk_cell C6.out 5).trans rfl
        have c6_w6 : w6.cell? ⟨bc,6,none⟩ = some (.int .i64 c.f5.f1) := (blk_cell C6.out 6).trans rfl
        have c7_w6 : w6.cell? ⟨bc,7,none⟩ = some (.int .i64 c.f5.f2) := (blk_cell C6.out 7).trans rfl
        have c8_w6 : w6.cell? ⟨bc,8,none⟩ = some (.int .i64 c.f5.f3) := (blk_cell C6.out 8).trans rfl
        have c9_w6 : w6.cell? ⟨bc,9,none⟩ = some (.int .i64 c.f5.f4) := (blk_cell C6.out 9).trans rfl
        have c10_w6 : w6.cell? ⟨bc,10,none⟩ = some (.int .i64 c.f5.f5) := (blk_cell C6.out 10).trans rfl
        have c11_w6 : w6.cell? ⟨bc,11,none⟩ = some (.int .u64 c.f5.f6) := (blk_cell C6.out 11).trans rfl
        have c12_w6 : w6.cell? ⟨bc,12,none⟩ = some (.int .i64 c.f5.f7) := (blk_cell C6.out 12).trans rfl
        have c13_w6 : w6.cell? ⟨bc,13,none⟩ = some (.string c.f5.f8) := (blk_cell C6.out 13).trans rfl
        have c14_w6 : w6.cell? ⟨bc,14,none⟩ = some (.int .i64 c.f5.f9) := (blk_cell C6.out 14).trans rfl
        have c15_w6 : w6.cell? ⟨bc,15,none⟩ = some (.int .i64 c.f5.f10) := (blk_cell C6.out 15).trans rfl
        have c16_w6 : w6.cell? ⟨bc,16,none⟩ = some (.string c.f5.f11) := (blk_cell C6.out 16).trans rfl
        have ltc_w6 := blk_lt C6.out
        go_upto_block 2 with fail
        go_cut [11] (fun s11 wx => ∃ (L' : List S57) (A3 : Option Addr) (c3 : Nat),s11 = .bool true ∧ Aside0 (PlayAt w wx g b bm life A3 c3 L' ∧ wx.heap[bc]? = some (.cells #[.int .i64 c.f0,.string c.f1,.int .i64 c.f2,.int .i64 c.f3,.int .i64 c.f4,.int .i64 c.f5.f0,.int .i64 c.f5.f1,.int .i64 c.f5.f2,.int .i64 c.f5.f3,.int .i64 c.f5.f4,.int .i64 c.f5.f5,.int .u64 c.f5.f6,.int .i64 c.f5.f7,.string c.f5.f8,.int .i64 c.f5.f9,.int .i64 c.f5.f10,.string c.f5.f11] 46 (0,0))))
        case first =>
          as_aux_lemma =>
            have ND := Aside0.mk P6.out.1.nodup
            have KP := Aside0.mk P6.out.2.2.2.2.2.2
            have T6 := Aside0.mk P6.out.two
            have M6 := Aside0.mk P6.out.2.1
            have GMX : Aside0 (bm ≠ g ∧ bm ≠ b) := GM
            have LB : Aside0 (w.heap.size ≤ b) := ⟨GB.out.2⟩
            have nmc : bc ≠ bm := BCM.out.1
            have ncm : bm ≠ bc := fun e => nmc e.symm
            have m0_w6 : w6.cell? ⟨bm,0,none⟩ = some (.int .i64 life) := (blk_cell M6.out 0).trans rfl
            have m1_w6 : w6.cell? ⟨bm,1,none⟩ = some (.slice A2 (sortN L).length c2) := (blk_cell M6.out 1).trans rfl
            have ltm_w6 := blk_lt M6.out
            have zm0_w6 := blk_frozen M6.out 0
            have zm1_w6 := blk_frozen M6.out 1
            by_cases h0 : c.f0 = 0
            · have k0 : (c.f0 == 0) = true := by simp [h0]
              clear h0
              obtain ⟨n,hn⟩ : ∃ n,putE L c.f1 c.f2 c.f3 = n := ⟨_,rfl⟩
              obtain ⟨L',hL'⟩ : ∃ L',putL life L c.f1 c.f2 c.f3 = L' := ⟨_,rfl⟩
              have LV : Aside0 (Lives life L') := ⟨by rw [← hL'];exact lives_put KP.out hl1 _ _ _⟩
              have RC : Aside0 (Calls Try.prog 18 #[.agg #[.int .i64 life,.slice A2 (sortN L).length c2],.string c.f1,.int .i64 c.f2,.int .i64 c.f3] w6 fun e w' => ∃ A' c',e = .returned (.tuple #[.agg #[.int .i64 life,.slice A' (sortN L').length c'],.int .i64 n]) ∧ ValOut w6 w' A2 A' c' L L') := ⟨by rw [← hn,← hL'];exact T6.out.rput ND.out KP.out.1 c.f1 c.f2 c.f3⟩
              have PC : Aside0 (∀ W A' c',MidAt w W g b bm life A' c' L L' → Calls Try.prog 19 #[.pointer (some ⟨g,0,none⟩),.string c.f1,.int .i64 c.f2,.int .i64 c.f3] W fun e w' => e = .returned (.int .i64 n) ∧ PlayAt w w' g b bm life A' c' L' ∧ W.grownBy w' (some b)) := ⟨fun W A' c' hM => (put_live hM.1 c.f1 c.f2 c.f3).mono fun e w' h => ⟨by rw [← hn];exact h.1,(hM.dir (by rw [← hL'];exact h.2.1) h.2.2 GMX.out.2 LB.out).one LV.out,h.2.2⟩⟩
              clear hn hL'
              go_wp2_with (first | (go_at_call 18;refine RC.out.mono ?_;rintro e w7 ⟨A',c',rfl,hv⟩;have C7 := Aside0.mk (blk_below C6.out hv.1);have c1_w7 : w7.cell? ⟨bc,1,none⟩ = some (.string c.f1) := (blk_cell C7.out 1).trans rfl;have c2_w7 : w7.cell? ⟨bc,2,none⟩ = some (.int .i64 c.f2) := (blk_cell C7.out 2).trans rfl;have c3_w7 : w7.cell? ⟨bc,3,none⟩ = some (.int .i64 c.f3) := (blk_cell C7.out 3).trans rfl;have ltc_w7 := blk_lt C7.out;have M7 := Aside0.mk (blk_below M6.out hv.1);have m0_w7 : w7.cell? ⟨bm,0,none⟩ = some (.int .i64 life) := (blk_cell M7.out 0).trans rfl;have m1_w7 : w7.cell? ⟨bm,1,none⟩ = some (.slice A2 (sortN L).length c2) := (blk_cell M7.out 1).trans rfl;have ltm_w7 := blk_lt M7.out;have zm0_w7 := blk_frozen M7.out 0;have zm1_w7 := blk_frozen M7.out 1;have T8 := Aside0.mk ((T6.out.set hv GMX.out LM.out).below (below_alloc (Below.refl _ _) (Obj.cells #[.int .i64 life,.slice A' (sortN L').length c'] 42)));have C8 := Aside0.mk (blk_alloc (blk_two C7.out BCM.out.1 (.int .i64 life) (.slice A' (sortN L').length c')) (Obj.cells #[.int .i64 life,.slice A' (sortN L').length c'] 42));clear hv) | (go_at_call 19;refine (PC.out _ _ _ T8.out).mono ?_;rintro e w9 ⟨rfl,hp,hg⟩;have P9 := Aside0.mk hp;have C9 := Aside0.mk (blk_grown C8.out hg (fun e => BCM.out.2 (Option.some.inj e)));clear hp hg))
              go_meet
              exact ⟨L',A',c',rfl,⟨P9.out,C9.out⟩⟩
            · have k0 : (c.f0 == 0) = false := by simpa using h0
              clear h0
              by_cases h1 : c.f0 = 1
              · have k1 : (c.f0 == 1) = true := by simp [h1]
                clear h1
                obtain ⟨n,hn⟩ : ∃ n,(L.length : Int) - ((tickL L).length : Int) = n := ⟨_,rfl⟩
                obtain ⟨L',hL'⟩ : ∃ L',tickL L = L' := ⟨_,rfl⟩
                have LV : Aside0 (Lives life L') := ⟨by rw [← hL'];exact lives_tick KP.out⟩
                have RC : Aside0 (Calls Try.prog 20 #[.agg #[.int .i64 life,.slice A2 (sortN L).length c2]] w6 fun e w' => ∃ A' c',e = .returned (.tuple #[.agg #[.int .i64 life,.slice A' (sortN L').length c'],.int .i64 n]) ∧ ValOut w6 w' A2 A' c' L L') := ⟨by rw [← hn,← hL'];exact T6.out.rtick ND.out (KP.out.kept hl2)⟩
                have PC : Aside0 (∀ W A' c',MidAt w W g b bm life A' c' L L' → Calls Try.prog 21 #[.pointer (some ⟨g,0,none⟩)] W fun e w' => e = .returned (.int .i64 n) ∧ PlayAt w w' g b bm life A' c' L' ∧ W.grownBy w' (some b)) := ⟨fun W A' c' hM => (tick_live hM.1 (KP.out.kept hl2)).mono fun e w' h => ⟨by rw [← hn];exact h.1,(hM.dir (by rw [← hL'];exact h.2.1) h.2.2 GMX.out.2 LB.out).one LV.out,h.2.2⟩⟩
                clear hn hL'
                go_wp2_with (first | (go_at_call 20;refine RC.out.mono ?_;rintro e w7 ⟨A',c',rfl,hv⟩;have C7 := Aside0.mk (blk_below C6.out hv.1);have c1_w7 : w7.cell? ⟨bc,1,none⟩ = some (.string c.f1) := (blk_cell C7.out 1).trans rfl;have c2_w7 : w7.cell? ⟨bc,2,none⟩ = some (.int .i64 c.f2) := (blk_cell C7.out 2).trans rfl;have c3_w7 : w7.cell? ⟨bc,3,none⟩ = some (.int .i64 c.f3) := (blk_cell C7.out 3).trans rfl;have ltc_w7 := blk_lt C7.out;have M7 := Aside0.mk (blk_below M6.out hv.1);have m0_w7 : w7.cell? ⟨bm,0,none⟩ = some (.int .i64 life) := (blk_cell M7.out 0).trans rfl;have m1_w7 : w7.cell? ⟨bm,1,none⟩ = some (.slice A2 (sortN L).length c2) := (blk_cell M7.out 1).trans rfl;have ltm_w7 := blk_lt M7.out;have zm0_w7 := blk_frozen M7.out 0;have zm1_w7 := blk_frozen M7.out 1;have T8 := Aside0.mk ((T6.out.set hv GMX.out LM.out).below (below_alloc (Below.refl _ _) (Obj.cells #[.int .i64 life,.slice A' (sortN L').length c'] 42)));have C8 := Aside0.mk (blk_alloc (blk_two C7.out BCM.out.1 (.int .i64 life) (.slice A' (sortN L').length c')) (Obj.cells #[.int .i64 life,.slice A' (sortN L').length c'] 42));clear hv) | (go_at_call 21;refine (PC.out _ _ _ T8.out).mono ?_;rintro e w9 ⟨rfl,hp,hg⟩;have P9 := Aside0.mk hp;have C9 := Aside0.mk (blk_grown C8.out hg (fun e => BCM.out.2 (Option.some.inj e)));clear hp hg))
                go_meet
                exact ⟨L',A',c',rfl,⟨P9.out,C9.out⟩⟩
              · have k1 : (c.f0 == 1) = false := by simpa using h1
                clear h1
                by_cases h2 : c.f0 = 2
                · have k2 : (c.f0 == 2) = true := by simp [h2]
                  clear h2
                  obtain ⟨n,hn⟩ : ∃ n,serveE L c.f2 c.f3 c.f4 c.f5 = n := ⟨_,rfl⟩
                  obtain ⟨q,hq⟩ : ∃ q,serveP L c.f2 c.f3 c.f4 c.f5 = q := ⟨_,rfl⟩
                  obtain ⟨tt,htt⟩ : ∃ tt,serveT c.f2 c.f3 c.f4 c.f5 = tt := ⟨_,rfl⟩
                  obtain ⟨L',hL'⟩ : ∃ L',serveL life L c.f2 c.f3 c.f4 c.f5 = L' := ⟨_,rfl⟩
                  have LV : Aside0 (Lives life L') := ⟨by rw [← hL'];exact lives_serve KP.out hl1 _ _ _ _⟩
                  have SC : Aside0 (Calls Try.prog 22 #[.pointer (some ⟨g,0,none⟩),.int .i64 c.f2,.int .i64 c.f3,.int .i64 c.f4,.agg #[.int .i64 c.f5.f0,.int .i64 c.f5.f1,.int .i64 c.f5.f2,.int .i64 c.f5.f3,.int .i64 c.f5.f4,.int .i64 c.f5.f5,.int .u64 c.f5.f6,.int .i64 c.f5.f7,.string c.f5.f8,.int .i64 c.f5.f9,.int .i64 c.f5.f10,.string c.f5.f11]] w6 fun e w' => e = .returned (.tuple #[.agg #[.int .i64 q.f0,.int .i64 q.f1,.int .i64 q.f2,.int .i64 q.f3,.int .i64 q.f4,.int .i64 q.f5,.int .u64 q.f6,.int .i64 q.f7,.string q.f8,.int .i64 q.f9,.int .i64 q.f10,.string q.f11],.bool tt,.int .i64 n]) ∧ DirAt w' g b life L' ∧ w6.grownBy w' (some b)) := ⟨by rw [← hn,← hq,← htt,← hL'];exact serve_live T6.out.1 c.f2 c.f3 c.f4 c.f5⟩
                  have RC : Aside0 (∀ W,MidAt w W g b bm life A2 c2 L' L → Calls Try.prog 23 #[.agg #[.int .i64 life,.slice A2 (sortN L).length c2],.int .i64 c.f2,.int .i64 c.f3,.int .i64 c.f4,.agg #[.int .i64 c.f5.f0,.int .i64 c.f5.f1,.int .i64 c.f5.f2,.int .i64 c.f5.f3,.int .i64 c.f5.f4,.int .i64 c.f5.f5,.int .u64 c.f5.f6,.int .i64 c.f5.f7,.string c.f5.f8,.int .i64 c.f5.f9,.int .i64 c.f5.f10,.string c.f5.f11]] W fun e w' => ∃ A' c',e = .returned (.tuple #[.agg #[.int .i64 life,.slice A' (sortN L').length c'],.agg #[.int .i64 q.f0,.int .i64 q.f1,.int .i64 q.f2,.int .i64 q.f3,.int .i64 q.f4,.int .i64 q.f5,.int .u64 q.f6,.int .i64 q.f7,.string q.f8,.int .i64 q.f9,.int .i64 q.f10,.string q.f11],.bool tt,.int .i64 n]) ∧ ValOut W w' A2 A' c' L L') := ⟨fun W hM => by rw [← hn,← hq,← htt,← hL'];exact hM.rserve ND.out KP.out.1 c.f2 c.f3 c.f4 c.f5⟩
                  clear hn hq htt hL'
                  go_wp2_with (first | (go_at_call 22;refine SC.out.mono ?_;rintro e w7 ⟨rfl,hd,hg⟩;have T7 := Aside0.mk ((T6.out.dir hd hg GMX.out.2 LB.out).below (below_alloc (Below.refl _ _) (Obj.cells #[.int .i64 q.f0,.int .i64 q.f1,.int .i64 q.f2,.int .i64 q.f3,.int .i64 q.f4,.int .i64 q.f5,.int .u64 q.f6,.int .i64 q.f7,.string q.f8,.int .i64 q.f9,.int .i64 q.f10,.string q.f11] 30)));have C7 := Aside0.mk (blk_alloc (blk_grown C6.out hg (fun e => BCM.out.2 (Option.some.inj e))) (Obj.cells #[.int .i64 q.f0,.int .i64 q.f1,.int .i64 q.f2,.int .i64 q.f3,.int .i64 q.f4,.int .i64 q.f5,.int .u64 q.f6,.int .i64 q.f7,.string q.f8,.int .i64 q.f9,.int .i64 q.f10,.string q.f11] 30));have C7b := Aside0.mk (blk_grown C6.out hg (fun e => BCM.out.2 (Option.some.inj e)));have c0_w7 : w7.cell? ⟨bc,0,none⟩ = some (.int .i64 c.f0) := (blk_cell C7b.out 0).trans rfl;have c1_w7 : w7.cell? ⟨bc,1,none⟩ = some (.string c.f1) := (blk_cell C7b.out 1).trans rfl;have c2_w7 : w7.cell? ⟨bc,2,none⟩ = some (.int .i64 c.f2) := (blk_cell C7b.out 2).trans rfl;have c3_w7 : w7.cell? ⟨bc,3,none⟩ = some (.int .i64 c.f3) := (blk_cell C7b.out 3).trans rfl;have c4_w7 : w7.cell? ⟨bc,4,none⟩ = some (.int .i64 c.f4) := (blk_cell C7b.out 4).trans rfl;have c5_w7 : w7.cell? ⟨bc,5,none⟩ = some (.int .i64 c.f5.f0) := (blk_cell C7b.out 5).trans rfl;have c6_w7 : w7.cell? ⟨bc,6,none⟩ = some (.int .i64 c.f5.f1) := (blk_cell C7b.out 6).trans rfl;have c7_w7 : w7.cell? ⟨bc,7,none⟩ = some (.int .i64 c.f5.f2) := (blk_cell C7b.out 7).trans rfl;have c8_w7 : w7.cell? ⟨bc,8,none⟩ = some (.int .i64 c.f5.f3) := (blk_cell C7b.out 8).trans rfl;have c9_w7 : w7.cell? ⟨bc,9,none⟩ = some (.int .i64 c.f5.f4) := (blk_cell C7b.out 9).trans rfl;have c10_w7 : w7.cell? ⟨bc,10,none⟩ = some (.int .i64 c.f5.f5) := (blk_cell C7b.out 10).trans rfl;have c11_w7 : w7.cell? ⟨bc,11,none⟩ = some (.int .u64 c.f5.f6) := (blk_cell C7b.out 11).trans rfl;have c12_w7 : w7.cell? ⟨bc,12,none⟩ = some (.int .i64 c.f5.f7) := (blk_cell C7b.out 12).trans rfl;have c13_w7 : w7.cell? ⟨bc,13,none⟩ = some (.string c.f5.f8) := (blk_cell C7b.out 13).trans rfl;have c14_w7 : w7.cell? ⟨bc,14,none⟩ = some (.int .i64 c.f5.f9) := (blk_cell C7b.out 14).trans rfl;have c15_w7 : w7.cell? ⟨bc,15,none⟩ = some (.int .i64 c.f5.f10) := (blk_cell C7b.out 15).trans rfl;have c16_w7 : w7.cell? ⟨bc,16,none⟩ = some (.string c.f5.f11) := (blk_cell C7b.out 16).trans rfl;have ltc_w7 := blk_lt C7b.out;have M7b := Aside0.mk (blk_grown M6.out hg (fun e => GMX.out.2 (Option.some.inj e)));have m0_w7 : w7.cell? ⟨bm,0,none⟩ = some (.int .i64 life) := (blk_cell M7b.out 0).trans rfl;have m1_w7 : w7.cell? ⟨bm,1,none⟩ = some (.slice A2 (sortN L).length c2) := (blk_cell M7b.out 1).trans rfl;have ltm_w7 := blk_lt M7b.out;have zm0_w7 := blk_frozen M7b.out 0;have zm1_w7 := blk_frozen M7b.out 1;clear hd hg) | (go_at_call 23;refine (RC.out _ T7.out).mono ?_;rintro e w9 ⟨A',c',rfl,hv⟩;have C9b := Aside0.mk (blk_below C7.out hv.1);have c0_w9 : w9.cell? ⟨bc,0,none⟩ = some (.int .i64 c.f0) := (blk_cell C9b.out 0).trans rfl;have c1_w9 : w9.cell? ⟨bc,1,none⟩ = some (.string c.f1) := (blk_cell C9b.out 1).trans rfl;have c2_w9 : w9.cell? ⟨bc,2,none⟩ = some (.int .i64 c.f2) := (blk_cell C9b.out 2).trans rfl;have c3_w9 : w9.cell? ⟨bc,3,none⟩ = some (.int .i64 c.f3) := (blk_cell C9b.out 3).trans rfl;have c4_w9 : w9.cell? ⟨bc,4,none⟩ = some (.int .i64 c.f4) := (blk_cell C9b.out 4).trans rfl;have c5_w9 : w9.cell? ⟨bc,5,none⟩ = some (.int .i64 c.f5.f0) := (blk_cell C9b.out 5).trans rfl;have c6_w9 : w9.cell? ⟨bc,6,none⟩ = some (.int .i64 c.f5.f1) := (blk_cell C9b.out 6).trans rfl;have c7_w9 : w9.cell? ⟨bc,7,none⟩ = some (.int .i64 c.f5.f2) := (blk_cell C9b.out 7).trans rfl;have c8_w9 : w9.cell? ⟨bc,8,none⟩ = some (.int .i64 c.f5.f3) := (blk_cell C9b.out 8).trans rfl;have c9_w9 : w9.cell? ⟨bc,9,none⟩ = some (.int .i64 c.f5.f4) := (blk_cell C9b.out 9).trans rfl;have c10_w9 : w9.cell? ⟨bc,10,none⟩ = some (.int .i64 c.f5.f5) := (blk_cell C9b.out 10).trans rfl;have c11_w9 : w9.cell? ⟨bc,11,none⟩ = some (.int .u64 c.f5.f6) := (blk_cell C9b.out 11).trans rfl;have c12_w9 : w9.cell? ⟨bc,12,none⟩ = some (.int .i64 c.f5.f7) := (blk_cell C9b.out 12).trans rfl;have c13_w9 : w9.cell? ⟨bc,13,none⟩ = some (.string c.f5.f8) := (blk_cell C9b.out 13).trans rfl;have c14_w9 : w9.cell? ⟨bc,14,none⟩ = some (.int .i64 c.f5.f9) := (blk_cell C9b.out 14).trans rfl;have c15_w9 : w9.cell? ⟨bc,15,none⟩ = some (.int .i64 c.f5.f10) := (blk_cell C9b.out 15).trans rfl;have c16_w9 : w9.cell? ⟨bc,16,none⟩ = some (.string c.f5.f11) := (blk_cell C9b.out 16).trans rfl;have ltc_w9 := blk_lt C9b.out;have M9b := Aside0.mk (blk_below T7.out.2.1 hv.1);have m0_w9 : w9.cell? ⟨bm,0,none⟩ = some (.int .i64 life) := (blk_cell M9b.out 0).trans rfl;have m1_w9 : w9.cell? ⟨bm,1,none⟩ = some (.slice A2 (sortN L).length c2) := (blk_cell M9b.out 1).trans rfl;have ltm_w9 := blk_lt M9b.out;have zm0_w9 := blk_frozen M9b.out 0;have zm1_w9 := blk_frozen M9b.out 1;have Q9b := Aside0.mk (blk_below (blk_new w7 (Obj.cells #[.int .i64 q.f0,.int .i64 q.f1,.int .i64 q.f2,.int .i64 q.f3,.int .i64 q.f4,.int .i64 q.f5,.int .u64 q.f6,.int .i64 q.f7,.string q.f8,.int .i64 q.f9,.int .i64 q.f10,.string q.f11] 30)) hv.1);have q0_w9 : w9.cell? ⟨w7.heap.size,0,none⟩ = some (.int .i64 q.f0) := (blk_cell Q9b.out 0).trans rfl;have q1_w9 : w9.cell? ⟨w7.heap.size,1,none⟩ = some (.int .i64 q.f1) := (blk_cell Q9b.out 1).trans rfl;have q2_w9 : w9.cell? ⟨w7.heap.size,2,none⟩ = some (.int .i64 q.f2) := (blk_cell Q9b.out 2).trans rfl;have q3_w9 : w9.cell? ⟨w7.heap.size,3,none⟩ = some (.int .i64 q.f3) := (blk_cell Q9b.out 3).trans rfl;have q4_w9 : w9.cell? ⟨w7.heap.size,4,none⟩ = some (.int .i64 q.f4) := (blk_cell Q9b.out 4).trans rfl;have q5_w9 : w9.cell? ⟨w7.heap.size,5,none⟩ = some (.int .i64 q.f5) := (blk_cell Q9b.out 5).trans rfl;have q6_w9 : w9.cell? ⟨w7.heap.size,6,none⟩ = some (.int .u64 q.f6) := (blk_cell Q9b.out 6).trans rfl;have q7_w9 : w9.cell? ⟨w7.heap.size,7,none⟩ = some (.int .i64 q.f7) := (blk_cell Q9b.out 7).trans rfl;have q8_w9 : w9.cell? ⟨w7.heap.size,8,none⟩ = some (.string q.f8) := (blk_cell Q9b.out 8).trans rfl;have q9_w9 : w9.cell? ⟨w7.heap.size,9,none⟩ = some (.int .i64 q.f9) := (blk_cell Q9b.out 9).trans rfl;have q10_w9 : w9.cell? ⟨w7.heap.size,10,none⟩ = some (.int .i64 q.f10) := (blk_cell Q9b.out 10).trans rfl;have q11_w9 : w9.cell? ⟨w7.heap.size,11,none⟩ = some (.string q.f11) := (blk_cell Q9b.out 11).trans rfl;have ltq_w9 := blk_lt Q9b.out;have T9 := Aside0.mk ((T7.out.set hv GMX.out LM.out).below (below_alloc (below_alloc (Below.refl _ _) (Obj.cells #[.int .i64 life,.slice A' (sortN L').length c'] 42)) (Obj.cells #[.int .i64 q.f0,.int .i64 q.f1,.int .i64 q.f2,.int .i64 q.f3,.int .i64 q.f4,.int .i64 q.f5,.int .u64 q.f6,.int .i64 q.f7,.string q.f8,.int .i64 q.f9,.int .i64 q.f10,.string q.f11] 30)));have C9 := Aside0.mk (blk_alloc (blk_alloc (blk_two C9b.out BCM.out.1 (.int .i64 life) (.slice A' (sortN L').length c')) (Obj.cells #[.int .i64 life,.slice A' (sortN L').length c'] 42)) (Obj.cells #[.int .i64 q.f0,.int .i64 q.f1,.int .i64 q.f2,.int .i64 q.f3,.int .i64 q.f4,.int .i64 q.f5,.int .u64 q.f6,.int .i64 q.f7,.string q.f8,.int .i64 q.f9,.int .i64 q.f10,.string q.f11] 30));clear hv) | (go_at_call 14;refine (beaconref06_SamePacket.calls _ _ _ _ _ _ _ _ _ _ _ _ _ _ _ _ _ _ _ _ _ _ _ _ true _ (same_packet q)).mono ?_;rintro e w10 ⟨rfl,hb⟩;have P10 := Aside0.mk ((T9.out.below hb).one LV.out);have C10 := Aside0.mk (blk_below C9.out hb);clear hb))
                  go_meet
                  exact ⟨L',A',c',rfl,⟨P10.out,C10.out⟩⟩
                · have k2 : (c.f0 == 2) = false := by simpa using h2
                  clear h2
                  by_cases h3 : c.f0 = 3
                  · have k3 : (c.f0 == 3) = true := by simp [h3]
                    clear h3
                    have DC : Aside0 (∀ W,MidAt w W g b bm life A2 c2 L L → Calls Try.prog 24 #[.pointer (some ⟨g,0,none⟩)] W fun e w' => e = .returned (.int .i64 ((sortN L).length : Int)) ∧ MidAt w w' g b bm life A2 c2 [] L ∧ W.grownBy w' (some b)) := ⟨fun W hM => (drop_live hM.1).mono fun e w' h => ⟨by rw [sortN_len];exact h.1,hM.dir h.2.1 h.2.2 GMX.out.2 LB.out,h.2.2⟩⟩
                    have T6d := Aside0.mk (T6.out.below (below_drew (Below.refl _ _)))
                    have C6d := Aside0.mk (blk_drew C6.out)
                    go_wp2_with fail
                    go_cut [11] (fun s11 wy => s11 = .bool true ∧ Aside0 (MidAt w wy g b bm life A2 c2 [] L ∧ wy.heap[bc]? = some (.cells #[.int .i64 c.f0,.string c.f1,.int .i64 c.f2,.int .i64 c.f3,.int .i64 c.f4,.int .i64 c.f5.f0,.int .i64 c.f5.f1,.int .i64 c.f5.f2,.int .i64 c.f5.f3,.int .i64 c.f5.f4,.int .i64 c.f5.f5,.int .u64 c.f5.f6,.int .i64 c.f5.f7,.string c.f5.f8,.int .i64 c.f5.f9,.int .i64 c.f5.f10,.string c.f5.f11] 46 (0,0))))
                    case first =>
                      go_region_with (go_at_call 24;refine (DC.out _ T6d.out).mono ?_;rintro e w7 ⟨rfl,hm,hg⟩;have T7 := Aside0.mk hm;have C7 := Aside0.mk (blk_grown C6d.out hg (fun e => BCM.out.2 (Option.some.inj e)));have M7 := Aside0.mk hm.2.1;have m0_w7 : w7.cell? ⟨bm,0,none⟩ = some (.int .i64 life) := (blk_cell M7.out 0).trans rfl;have m1_w7 : w7.cell? ⟨bm,1,none⟩ = some (.slice A2 (sortN L).length c2) := (blk_cell M7.out 1).trans rfl;have ltm_w7 := blk_lt M7.out;have zm0_w7 := blk_frozen M7.out 0;have zm1_w7 := blk_frozen M7.out 1;clear hm hg)
                      all_goals (go_wp2_with fail;go_meet;exact ⟨rfl,⟨T7.out,C7.out⟩⟩)
                    case rest =>
                      obtain ⟨rfl,T8⟩ := hcut
                      rename World => wy
                      have M8 := Aside0.mk T8.out.1.2.1
                      have m0_wy : wy.cell? ⟨bm,0,none⟩ = some (.int .i64 life) := (blk_cell M8.out 0).trans rfl
                      have m1_wy : wy.cell? ⟨bm,1,none⟩ = some (.slice A2 (sortN L).length c2) := (blk_cell M8.out 1).trans rfl
                      have ltm_wy := blk_lt M8.out
                      have zm0_wy := blk_frozen M8.out 0
                      have zm1_wy := blk_frozen M8.out 1
                      go_wp2_with fail
                      go_meet
                      exact ⟨[],none,0,rfl,⟨(T8.out.1.gone GMX.out LM.out).one (lives_nil _),blk_far T8.out.2 BCM.out.1 _⟩⟩
                  · have k3 : (c.f0 == 3) = false := by simpa using h3
                    clear h3
                    go_wp2_with fail
                    go_meet
                    exact ⟨L,A2,c2,rfl,⟨P6.out,C6.out⟩⟩
        case rest =>
          as_aux_lemma =>
            rename World => wx
            clear c0_w6 c1_w6 c2_w6 c3_w6 c4_w6 c5_w6 c6_w6 c7_w6 c8_w6 c9_w6 c10_w6 c11_w6 c12_w6 c13_w6 c14_w6 c15_w6 c16_w6 ltc_w6
            clear P6 C6
            obtain ⟨L',A3,c3,rfl,HU⟩ := hcut
            have ND := Aside0.mk HU.out.1.1.nodup
            have KP := Aside0.mk HU.out.1.2.2.2.2.2.2
            have TX := Aside0.mk HU.out.1.two
            have CX := Aside0.mk HU.out.2
            have MX := Aside0.mk HU.out.1.2.1
            have c1_wx : wx.cell? ⟨bc,1,none⟩ = some (.string c.f1) := (blk_cell CX.out 1).trans rfl
            have ltc_wx := blk_lt CX.out
            have m0_wx : wx.cell? ⟨bm,0,none⟩ = some (.int .i64 life) := (blk_cell MX.out 0).trans rfl
            have m1_wx : wx.cell? ⟨bm,1,none⟩ = some (.slice A3 (sortN L').length c3) := (blk_cell MX.out 1).trans rfl
            have ltm_wx := blk_lt MX.out
            obtain ⟨a,ha⟩ : ∃ a,adOr (adGet c.f1 L') = a := ⟨_,rfl⟩
            obtain ⟨t,ht⟩ : ∃ t,(adGet c.f1 L').isSome = t := ⟨_,rfl⟩
            have GC : Aside0 (∀ W,MidAt w W g b bm life A3 c3 L' L' → Calls Try.prog 25 #[.pointer (some ⟨g,0,none⟩),.string c.f1] W fun e w' => e = .returned (.tuple #[.agg #[.string a.f0,.int .i64 a.f1,.int .i64 a.f2,.int .i64 a.f3],.bool t]) ∧ Below W.heap.size W w') := ⟨fun W hM => by rw [← ha,← ht];exact get_dir hM.1 c.f1⟩
            have RG : Aside0 (∀ W,MidAt w W g b bm life A3 c3 L' L' → Calls Try.prog 26 #[.agg #[.int .i64 life,.slice A3 (sortN L').length c3],.string c.f1] W fun e w' => e = .returned (.tuple #[.agg #[.string a.f0,.int .i64 a.f1,.int .i64 a.f2,.int .i64 a.f3],.bool t]) ∧ Below W.heap.size W w') := ⟨fun W hM => by rw [← ha,← ht];exact hM.rget ND.out KP.out.1 c.f1⟩
            clear ha ht
            go_wp2_with (first | (go_at_call 25;refine (GC.out _ TX.out).mono ?_;rintro e w8 ⟨rfl,hb⟩;have T8 := Aside0.mk (TX.out.below (below_alloc hb (Obj.cells #[.string a.f0,.int .i64 a.f1,.int .i64 a.f2,.int .i64 a.f3] 57)));have C8 := Aside0.mk (blk_below CX.out hb);have c1_w8 : w8.cell? ⟨bc,1,none⟩ = some (.string c.f1) := (blk_cell C8.out 1).trans rfl;have ltc_w8 := blk_lt C8.out;have M8 := Aside0.mk (blk_below MX.out hb);have m0_w8 : w8.cell? ⟨bm,0,none⟩ = some (.int .i64 life) := (blk_cell M8.out 0).trans rfl;have m1_w8 : w8.cell? ⟨bm,1,none⟩ = some (.slice A3 (sortN L').length c3) := (blk_cell M8.out 1).trans rfl;have ltm_w8 := blk_lt M8.out;clear hb) | (go_at_call 26;refine (RG.out _ T8.out).mono ?_;rintro e w9 ⟨rfl,hb⟩;have M9 := Aside0.mk (blk_below T8.out.2.1 hb);have m0_w9 : w9.cell? ⟨bm,0,none⟩ = some (.int .i64 life) := (blk_cell M9.out 0).trans rfl;have m1_w9 : w9.cell? ⟨bm,1,none⟩ = some (.slice A3 (sortN L').length c3) := (blk_cell M9.out 1).trans rfl;have ltm_w9 := blk_lt M9.out;have A9 := Aside0.mk (blk_below (blk_new w8 (Obj.cells #[.string a.f0,.int .i64 a.f1,.int .i64 a.f2,.int .i64 a.f3] 57)) hb);have a0_w9 : w9.cell? ⟨w8.heap.size,0,none⟩ = some (.string a.f0) := (blk_cell A9.out 0).trans rfl;have a1_w9 : w9.cell? ⟨w8.heap.size,1,none⟩ = some (.int .i64 a.f1) := (blk_cell A9.out 1).trans rfl;have a2_w9 : w9.cell? ⟨w8.heap.size,2,none⟩ = some (.int .i64 a.f2) := (blk_cell A9.out 2).trans rfl;have a3_w9 : w9.cell? ⟨w8.heap.size,3,none⟩ = some (.int .i64 a.f3) := (blk_cell A9.out 3).trans rfl;have lta_w9 := blk_lt A9.out;have T9 := Aside0.mk (T8.out.below (below_alloc hb (Obj.cells #[.string a.f0,.int .i64 a.f1,.int .i64 a.f2,.int .i64 a.f3] 57)));have LN4 : Aside0 ((sortN L').length ≤ 4096) := ⟨by rw [sortN_len];exact KP.out.1⟩;clear hb))
            go_cut [187] (fun s187 wz => s187 = .bool false ∧ Aside0 (PlayAt w wz g b bm life A3 c3 L'))
            case first =>
              refine region29 _ _ _ _ _ _ _ _ _ _ _ _ _ _ _ _ _ _ _ _ _ _ _ _ _ _ _ _ _ _ _ _ _ _ _ _ _ _ _ _ _ _ _ _ _ _ _ _ _ _ _ _ _ _ _ _ _ _ _ _ _ _ _ _ _ _ _ _ _ _ _ _ _ _ _ _ _ _ _ _ _ _ _ _ _ _ _ _ _ _ _ _ _ _ _ _ _ _ _ _ _ _ _ _ _ _ _ _ _ _ _ _ _ _ _ _ _ _ _ _ _ _ _ _ _ _ _ _ _ _ _ _ _ _ _ _ _ _ _ _ _ _ _ _ _ _ _ _ _ _ _ _ _ _ _ _ _ _ _ _ _ _ _ _ _ _ _ _ _ _ _ _ _ _ _ _ _ _ _ _ _ _ T9.out KP.out (blk_alloc A9.out (Obj.cells #[.string a.f0,.int .i64 a.f1,.int .i64 a.f2,.int .i64 a.f3] 57)) (blk_new w9 (Obj.cells #[.string a.f0,.int .i64 a.f1,.int .i64 a.f2,.int .i64 a.f3] 57)) ?_
              intro u167 u168 u169 u170 u171 u172 u173 u174 u175 u176 u177 u178 u179 u180 u181 u182 u183 u184 u185 u186 wz hp
              have P12 := Aside0.mk hp
              clear hp
              go_wp2_with fail
              go_meet
              exact ⟨rfl,P12⟩
            case rest =>
              obtain ⟨rfl,P13⟩ := hcut
              go_wp2_with fail
              go_roundg (gk - 1)
              case measure => omega
              case rel => exact ⟨j + 1,L',A3,c3,by go_num,by omega,P13⟩
      · have hjn : j = l.length := by omega
        subst hjn
        go_wp2_with (go_at_call 15;refine (beaconlaw20_awake.calls true _ rfl).mono ?_;rintro e w9 ⟨rfl,hb⟩;have HB9 := Aside0.mk (below_then HP.out.2.2.2.2.2.1 HP.out.2.2.2.2.2.1.size hb);clear hb)
        go_ret
        exact ⟨rfl,HB9.out⟩
  · have hlife' : life < 1 ∨ 1048576 < life := by omega
    clear hlife
    go_enter Try.func4,Try.ntmps4
    go_wp2_with (first | (go_at_call 16;refine (new_no life _ hlife').mono ?_;rintro e w1 ⟨rfl,rfl⟩) | (go_at_call 17;refine (rnew_any life 0 1 _ (rnew_no hlife')).mono ?_;rintro e w2 ⟨A1,c1,rfl,hC,hA,hb⟩;have HB2 := Aside0.mk hb;clear hb hC hA))
    have HB3 := Aside0.mk (below_alloc HB2.out (Obj.cells #[.int .i64 0,.slice A1 0 c1] 42))
    go_loopg [9] 0 (fun kq vi wr => vi = .int .i64 0 ∧ kq = 0 ∧ Aside0 (Below w.heap.size w wr))
    case atStart => exact ⟨rfl,rfl,HB3⟩
    case round =>
      obtain ⟨rfl,hkq,HB⟩ := hrel
      clear hkq
      have AW : Aside0 (∀ W,Below w.heap.size w W → Calls Try.prog 15 #[] W fun e w' => e = .returned (.bool true) ∧ Aside0 (Below w.heap.size w w')) := ⟨fun W hW => (beaconlaw20_awake.calls true _ rfl).mono fun e w' h => ⟨h.1,⟨below_then hW hW.size h.2⟩⟩⟩
      by_cases hz : (0 : Int) < (l.length : Int)
      · go_wp2_with (go_at_call 15;refine (AW.out _ HB.out).mono ?_;rintro e w9 ⟨rfl,HB9⟩)
        go_ret
        exact ⟨rfl,HB9.out⟩
      · go_wp2_with (go_at_call 15;refine (AW.out _ HB.out).mono ?_;rintro e w9 ⟨rfl,HB9⟩)
        go_ret
        exact ⟨rfl,HB9.out⟩
end Go.Proofs.Ytlpmblcdafdfdaa.PA
