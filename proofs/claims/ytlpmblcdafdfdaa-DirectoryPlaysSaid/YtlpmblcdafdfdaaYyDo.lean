/- Serve's answer. No condition but those that each theorem names. -/
import Derived.Test.YtlpmblcdafdfdaaYyDn
import Derived.Deep.CutBlock
namespace Go.Proofs.Ytlpmblcdafdfdaa.PA
open Go.RowKit Go.Proofs.YtlpmblcdafdfdaaW.PrintWords Go.Proofs.YtlpmblcdafdfdaaW.PrintLast Go.Proofs.YtlpmblcdafdfdaaW.PrintMore
set_option linter.unusedVariables false
set_option linter.unusedSimpArgs false
set_option maxHeartbeats 4000000 in
set_option maxRecDepth 100000 in
theorem serve_none {w : World} {g b : Nat} {life : Int} {L : List S57} (h : DirAt w g b life L) (self home hops : Int) (p : S30) (hn : askedV self home hops = 0) (hm : mayP p = true) (hk : p.f0 = 3) (ht : p.f3 = self) (hg : adGet p.f8 L = none) :
    Calls Try.prog 22 #[.pointer (some ⟨g,0,none⟩),.int .i64 self,.int .i64 home,.int .i64 hops,.agg #[.int .i64 p.f0,.int .i64 p.f1,.int .i64 p.f2,.int .i64 p.f3,.int .i64 p.f4,.int .i64 p.f5,.int .u64 p.f6,.int .i64 p.f7,.string p.f8,.int .i64 p.f9,.int .i64 p.f10,.string p.f11]] w fun e w' => ServeOut w g b life L self home hops p e w' := by
  have hu30 := Try.underlying30
  have hu87 := Try.underlying87
  have HN := Aside0.mk hn
  have MP := Aside0.mk hm
  have sv : servable self p = true := by unfold servable;simp [hm,hk,ht]
  have ES : Aside0 (serveE L self home hops p = 0) := ⟨by unfold serveE;rw [hn,if_neg (by simp),if_neg (by rw [sv];simp),if_neg (by rw [hk];decide)]⟩
  have TS : Aside0 (serveT self home hops p = true) := ⟨by unfold serveT;rw [hn,sv,hk];rfl⟩
  have LS : Aside0 (serveL life L self home hops p = L) := ⟨by unfold serveL;rw [if_neg (fun h => by rw [hk] at h;exact absurd h.2.2 (by decide))]⟩
  have k2 : (p.f0 != 2) = true := by simp [hk]
  have k2e : (p.f0 == 2) = false := by simp [hk]
  have k3 : (p.f0 != 3) = false := by simp [hk]
  have kt : (p.f3 != self) = false := by simp [ht]
  have GT := Aside0.mk hg
  have PS : Aside0 (serveP L self home hops p = ⟨4,self,home,p.f1,p.f2,hops,p.f6,1,p.f8,0,0,⟨#[]⟩⟩) := ⟨by unfold serveP answerP;rw [TS.out,if_pos rfl,hg]⟩
  clear hn hm hk ht sv hg
  have GL := Aside0.mk (blk_lt h.1)
  have BL := Aside0.mk h.2.lt
  obtain ⟨w0,hw0⟩ : ∃ w0,w0 = (w.alloc (Obj.cells #[.int .i64 p.f0,.int .i64 p.f1,.int .i64 p.f2,.int .i64 p.f3,.int .i64 p.f4,.int .i64 p.f5,.int .u64 p.f6,.int .i64 p.f7,.string p.f8,.int .i64 p.f9,.int .i64 p.f10,.string p.f11] 30)).alloc (Obj.cells #[.int .i64 0,.int .i64 0,.int .i64 0,.int .i64 0,.int .i64 0,.int .i64 0,.int .u64 0,.int .i64 0,.string ⟨#[]⟩,.int .i64 0,.int .i64 0,.string ⟨#[]⟩] 30) := ⟨_,rfl⟩
  obtain ⟨bp,hbp⟩ : ∃ bp,bp = w.heap.size := ⟨_,rfl⟩
  obtain ⟨br,hbr⟩ : ∃ br,br = w.heap.size + 1 := ⟨_,rfl⟩
  have W0 := Aside0.mk (And.intro hw0 (And.intro hbp hbr))
  have B0 : Below w.heap.size w w0 := by rw [hw0];exact below_alloc (below_alloc (Below.refl _ _) _) _
  have BP0 : Aside0 (w0.heap[bp]? = some (.cells #[.int .i64 p.f0,.int .i64 p.f1,.int .i64 p.f2,.int .i64 p.f3,.int .i64 p.f4,.int .i64 p.f5,.int .u64 p.f6,.int .i64 p.f7,.string p.f8,.int .i64 p.f9,.int .i64 p.f10,.string p.f11] 30 (0,0))) := ⟨by rw [hw0,hbp];exact blk_alloc (blk_new w _) _⟩
  have BR0 : Aside0 (w0.heap[br]? = some (.cells #[.int .i64 0,.int .i64 0,.int .i64 0,.int .i64 0,.int .i64 0,.int .i64 0,.int .u64 0,.int .i64 0,.string ⟨#[]⟩,.int .i64 0,.int .i64 0,.string ⟨#[]⟩] 30 (0,0))) := ⟨by rw [hw0,hbr];have := blk_new (w.alloc (Obj.cells #[.int .i64 p.f0,.int .i64 p.f1,.int .i64 p.f2,.int .i64 p.f3,.int .i64 p.f4,.int .i64 p.f5,.int .u64 p.f6,.int .i64 p.f7,.string p.f8,.int .i64 p.f9,.int .i64 p.f10,.string p.f11] 30)) (Obj.cells #[.int .i64 0,.int .i64 0,.int .i64 0,.int .i64 0,.int .i64 0,.int .i64 0,.int .u64 0,.int .i64 0,.string ⟨#[]⟩,.int .i64 0,.int .i64 0,.string ⟨#[]⟩] 30);rwa [World.size_alloc] at this⟩
  have D0 := Aside0.mk (h.below B0)
  have G0 := Aside0.mk (grown_of_below B0 (some b))
  have LR : Aside0 (w.heap.size ≤ br) := ⟨by omega⟩
  have RG : Aside0 (br ≠ g) := ⟨by have := GL.out;omega⟩
  have RB : Aside0 (br ≠ b) := ⟨by have := BL.out;omega⟩
  clear hw0 hbp hbr B0 h
  go_enter Try.func22,Try.ntmps22
  go_upto_region 1 with fail
  rw [← W0.out.2.2,← W0.out.2.1,← W0.out.1]
  go_wp2_with (first | (go_at_call 38;refine (is_made D0.out).mono ?_;rintro e w' ⟨rfl,rfl⟩) | (go_at_call 41;refine (asked_any self home hops 0 HN.out _).mono ?_;rintro e w1 ⟨rfl,hb⟩;have BP1 := Aside0.mk (blk_below BP0.out hb);have BR1 := Aside0.mk (blk_below BR0.out hb);have D1 := Aside0.mk (D0.out.below hb);have G1 := Aside0.mk (G0.out.trans (grown_of_below hb (some b)));clear hb;have p0_w1 : w1.cell? ⟨bp,0,none⟩ = some (.int .i64 p.f0) := (blk_cell BP1.out 0).trans rfl;have p1_w1 : w1.cell? ⟨bp,1,none⟩ = some (.int .i64 p.f1) := (blk_cell BP1.out 1).trans rfl;have p2_w1 : w1.cell? ⟨bp,2,none⟩ = some (.int .i64 p.f2) := (blk_cell BP1.out 2).trans rfl;have p3_w1 : w1.cell? ⟨bp,3,none⟩ = some (.int .i64 p.f3) := (blk_cell BP1.out 3).trans rfl;have p4_w1 : w1.cell? ⟨bp,4,none⟩ = some (.int .i64 p.f4) := (blk_cell BP1.out 4).trans rfl;have p5_w1 : w1.cell? ⟨bp,5,none⟩ = some (.int .i64 p.f5) := (blk_cell BP1.out 5).trans rfl;have p6_w1 : w1.cell? ⟨bp,6,none⟩ = some (.int .u64 p.f6) := (blk_cell BP1.out 6).trans rfl;have p7_w1 : w1.cell? ⟨bp,7,none⟩ = some (.int .i64 p.f7) := (blk_cell BP1.out 7).trans rfl;have p8_w1 : w1.cell? ⟨bp,8,none⟩ = some (.string p.f8) := (blk_cell BP1.out 8).trans rfl;have p9_w1 : w1.cell? ⟨bp,9,none⟩ = some (.int .i64 p.f9) := (blk_cell BP1.out 9).trans rfl;have p10_w1 : w1.cell? ⟨bp,10,none⟩ = some (.int .i64 p.f10) := (blk_cell BP1.out 10).trans rfl;have p11_w1 : w1.cell? ⟨bp,11,none⟩ = some (.string p.f11) := (blk_cell BP1.out 11).trans rfl;have ltp_w1 := blk_lt BP1.out) | (go_at_call 42;refine (check4_any p true MP.out _).mono ?_;rintro e w2 ⟨rfl,hb⟩;have BP2 := Aside0.mk (blk_below BP1.out hb);have BR2 := Aside0.mk (blk_below BR1.out hb);have D2 := Aside0.mk (D1.out.below hb);have G2 := Aside0.mk (G1.out.trans (grown_of_below hb (some b)));clear hb;have p0_w2 : w2.cell? ⟨bp,0,none⟩ = some (.int .i64 p.f0) := (blk_cell BP2.out 0).trans rfl;have p1_w2 : w2.cell? ⟨bp,1,none⟩ = some (.int .i64 p.f1) := (blk_cell BP2.out 1).trans rfl;have p2_w2 : w2.cell? ⟨bp,2,none⟩ = some (.int .i64 p.f2) := (blk_cell BP2.out 2).trans rfl;have p3_w2 : w2.cell? ⟨bp,3,none⟩ = some (.int .i64 p.f3) := (blk_cell BP2.out 3).trans rfl;have p4_w2 : w2.cell? ⟨bp,4,none⟩ = some (.int .i64 p.f4) := (blk_cell BP2.out 4).trans rfl;have p5_w2 : w2.cell? ⟨bp,5,none⟩ = some (.int .i64 p.f5) := (blk_cell BP2.out 5).trans rfl;have p6_w2 : w2.cell? ⟨bp,6,none⟩ = some (.int .u64 p.f6) := (blk_cell BP2.out 6).trans rfl;have p7_w2 : w2.cell? ⟨bp,7,none⟩ = some (.int .i64 p.f7) := (blk_cell BP2.out 7).trans rfl;have p8_w2 : w2.cell? ⟨bp,8,none⟩ = some (.string p.f8) := (blk_cell BP2.out 8).trans rfl;have p9_w2 : w2.cell? ⟨bp,9,none⟩ = some (.int .i64 p.f9) := (blk_cell BP2.out 9).trans rfl;have p10_w2 : w2.cell? ⟨bp,10,none⟩ = some (.int .i64 p.f10) := (blk_cell BP2.out 10).trans rfl;have p11_w2 : w2.cell? ⟨bp,11,none⟩ = some (.string p.f11) := (blk_cell BP2.out 11).trans rfl;have ltp_w2 := blk_lt BP2.out;have r0_w2 : w2.cell? ⟨br,0,none⟩ = some (.int .i64 0) := (blk_cell BR2.out 0).trans rfl;have r1_w2 : w2.cell? ⟨br,1,none⟩ = some (.int .i64 0) := (blk_cell BR2.out 1).trans rfl;have r2_w2 : w2.cell? ⟨br,2,none⟩ = some (.int .i64 0) := (blk_cell BR2.out 2).trans rfl;have r3_w2 : w2.cell? ⟨br,3,none⟩ = some (.int .i64 0) := (blk_cell BR2.out 3).trans rfl;have r4_w2 : w2.cell? ⟨br,4,none⟩ = some (.int .i64 0) := (blk_cell BR2.out 4).trans rfl;have r5_w2 : w2.cell? ⟨br,5,none⟩ = some (.int .i64 0) := (blk_cell BR2.out 5).trans rfl;have r6_w2 : w2.cell? ⟨br,6,none⟩ = some (.int .u64 0) := (blk_cell BR2.out 6).trans rfl;have r7_w2 : w2.cell? ⟨br,7,none⟩ = some (.int .i64 0) := (blk_cell BR2.out 7).trans rfl;have r8_w2 : w2.cell? ⟨br,8,none⟩ = some (.string ⟨#[]⟩) := (blk_cell BR2.out 8).trans rfl;have r9_w2 : w2.cell? ⟨br,9,none⟩ = some (.int .i64 0) := (blk_cell BR2.out 9).trans rfl;have r10_w2 : w2.cell? ⟨br,10,none⟩ = some (.int .i64 0) := (blk_cell BR2.out 10).trans rfl;have r11_w2 : w2.cell? ⟨br,11,none⟩ = some (.string ⟨#[]⟩) := (blk_cell BR2.out 11).trans rfl;have ltr_w2 := blk_lt BR2.out;have zr0_w2 := blk_frozen BR2.out 0;have zr1_w2 := blk_frozen BR2.out 1;have zr2_w2 := blk_frozen BR2.out 2;have zr3_w2 := blk_frozen BR2.out 3;have zr4_w2 := blk_frozen BR2.out 4;have zr5_w2 := blk_frozen BR2.out 5;have zr6_w2 := blk_frozen BR2.out 6;have zr7_w2 := blk_frozen BR2.out 7;have zr8_w2 := blk_frozen BR2.out 8;have zr9_w2 := blk_frozen BR2.out 9;have zr10_w2 := blk_frozen BR2.out 10;have zr11_w2 := blk_frozen BR2.out 11) | (go_at_call 25;refine (get_dir (D2.out.below (below_alloc (Below.refl _ _) _)) p.f8).mono ?_;rintro e w4 ⟨rfl,hb⟩;rw [GT.out];simp only [adOr,adV,Option.getD_none,Option.isSome_none,z57];have BO4 := Aside0.mk (blk_below (blk_new w2 (.cells #[.int .i64 4,.int .i64 self,.int .i64 home,.int .i64 p.f1,.int .i64 p.f2,.int .i64 hops,.int .u64 p.f6,.int .i64 1,.string p.f8,.int .i64 0,.int .i64 0,.string ⟨#[]⟩] 30)) hb);have BR4 := Aside0.mk (blk_below (blk_alloc BR2.out (.cells #[.int .i64 4,.int .i64 self,.int .i64 home,.int .i64 p.f1,.int .i64 p.f2,.int .i64 hops,.int .u64 p.f6,.int .i64 1,.string p.f8,.int .i64 0,.int .i64 0,.string ⟨#[]⟩] 30)) hb);have D4 := Aside0.mk ((D2.out.below (below_alloc (Below.refl _ _) _)).below hb);have G4 := Aside0.mk ((G2.out.trans (grown_of_below (below_alloc (Below.refl _ _) (.cells #[.int .i64 4,.int .i64 self,.int .i64 home,.int .i64 p.f1,.int .i64 p.f2,.int .i64 hops,.int .u64 p.f6,.int .i64 1,.string p.f8,.int .i64 0,.int .i64 0,.string ⟨#[]⟩] 30)) (some b))).trans (grown_of_below hb (some b)));clear hb;have o0_w4 : w4.cell? ⟨w2.heap.size,0,none⟩ = some (.int .i64 4) := (blk_cell BO4.out 0).trans rfl;have o1_w4 : w4.cell? ⟨w2.heap.size,1,none⟩ = some (.int .i64 self) := (blk_cell BO4.out 1).trans rfl;have o2_w4 : w4.cell? ⟨w2.heap.size,2,none⟩ = some (.int .i64 home) := (blk_cell BO4.out 2).trans rfl;have o3_w4 : w4.cell? ⟨w2.heap.size,3,none⟩ = some (.int .i64 p.f1) := (blk_cell BO4.out 3).trans rfl;have o4_w4 : w4.cell? ⟨w2.heap.size,4,none⟩ = some (.int .i64 p.f2) := (blk_cell BO4.out 4).trans rfl;have o5_w4 : w4.cell? ⟨w2.heap.size,5,none⟩ = some (.int .i64 hops) := (blk_cell BO4.out 5).trans rfl;have o6_w4 : w4.cell? ⟨w2.heap.size,6,none⟩ = some (.int .u64 p.f6) := (blk_cell BO4.out 6).trans rfl;have o7_w4 : w4.cell? ⟨w2.heap.size,7,none⟩ = some (.int .i64 1) := (blk_cell BO4.out 7).trans rfl;have o8_w4 : w4.cell? ⟨w2.heap.size,8,none⟩ = some (.string p.f8) := (blk_cell BO4.out 8).trans rfl;have o9_w4 : w4.cell? ⟨w2.heap.size,9,none⟩ = some (.int .i64 0) := (blk_cell BO4.out 9).trans rfl;have o10_w4 : w4.cell? ⟨w2.heap.size,10,none⟩ = some (.int .i64 0) := (blk_cell BO4.out 10).trans rfl;have o11_w4 : w4.cell? ⟨w2.heap.size,11,none⟩ = some (.string ⟨#[]⟩) := (blk_cell BO4.out 11).trans rfl;have lto_w4 := blk_lt BO4.out;have r0_w4 : w4.cell? ⟨br,0,none⟩ = some (.int .i64 0) := (blk_cell BR4.out 0).trans rfl;have r1_w4 : w4.cell? ⟨br,1,none⟩ = some (.int .i64 0) := (blk_cell BR4.out 1).trans rfl;have r2_w4 : w4.cell? ⟨br,2,none⟩ = some (.int .i64 0) := (blk_cell BR4.out 2).trans rfl;have r3_w4 : w4.cell? ⟨br,3,none⟩ = some (.int .i64 0) := (blk_cell BR4.out 3).trans rfl;have r4_w4 : w4.cell? ⟨br,4,none⟩ = some (.int .i64 0) := (blk_cell BR4.out 4).trans rfl;have r5_w4 : w4.cell? ⟨br,5,none⟩ = some (.int .i64 0) := (blk_cell BR4.out 5).trans rfl;have r6_w4 : w4.cell? ⟨br,6,none⟩ = some (.int .u64 0) := (blk_cell BR4.out 6).trans rfl;have r7_w4 : w4.cell? ⟨br,7,none⟩ = some (.int .i64 0) := (blk_cell BR4.out 7).trans rfl;have r8_w4 : w4.cell? ⟨br,8,none⟩ = some (.string ⟨#[]⟩) := (blk_cell BR4.out 8).trans rfl;have r9_w4 : w4.cell? ⟨br,9,none⟩ = some (.int .i64 0) := (blk_cell BR4.out 9).trans rfl;have r10_w4 : w4.cell? ⟨br,10,none⟩ = some (.int .i64 0) := (blk_cell BR4.out 10).trans rfl;have r11_w4 : w4.cell? ⟨br,11,none⟩ = some (.string ⟨#[]⟩) := (blk_cell BR4.out 11).trans rfl;have ltr_w4 := blk_lt BR4.out;have zr0_w4 := blk_frozen BR4.out 0;have zr1_w4 := blk_frozen BR4.out 1;have zr2_w4 := blk_frozen BR4.out 2;have zr3_w4 := blk_frozen BR4.out 3;have zr4_w4 := blk_frozen BR4.out 4;have zr5_w4 := blk_frozen BR4.out 5;have zr6_w4 := blk_frozen BR4.out 6;have zr7_w4 := blk_frozen BR4.out 7;have zr8_w4 := blk_frozen BR4.out 8;have zr9_w4 := blk_frozen BR4.out 9;have zr10_w4 := blk_frozen BR4.out 10;have zr11_w4 := blk_frozen BR4.out 11))
  obtain ⟨W,hW⟩ : ∃ W,W = ((((((((((((w4.setCell ⟨br,0,none⟩ (.int .i64 4)).setCell ⟨br,1,none⟩ (.int .i64 self)).setCell ⟨br,2,none⟩ (.int .i64 home)).setCell ⟨br,3,none⟩ (.int .i64 p.f1)).setCell ⟨br,4,none⟩ (.int .i64 p.f2)).setCell ⟨br,5,none⟩ (.int .i64 hops)).setCell ⟨br,6,none⟩ (.int .u64 p.f6)).setCell ⟨br,7,none⟩ (.int .i64 1)).setCell ⟨br,8,none⟩ (.string p.f8)).setCell ⟨br,9,none⟩ (.int .i64 0)).setCell ⟨br,10,none⟩ (.int .i64 0)).setCell ⟨br,11,none⟩ (.string ⟨#[]⟩)) := ⟨_,rfl⟩
  have BW : W.heap[br]? = some (.cells #[.int .i64 4,.int .i64 self,.int .i64 home,.int .i64 p.f1,.int .i64 p.f2,.int .i64 hops,.int .u64 p.f6,.int .i64 1,.string p.f8,.int .i64 0,.int .i64 0,.string ⟨#[]⟩] 30 (0,0)) := by rw [hW];exact blk_set12 BR4.out _ _ _ _ _ _ _ _ _ _ _ _
  have GW : w.grownBy W (some b) := by rw [hW];exact grown_set12 G4.out LR.out _ _ _ _ _ _ _ _ _ _ _ _
  have DW := DirAt.set12 D4.out RG.out RB.out (.int .i64 4) (.int .i64 self) (.int .i64 home) (.int .i64 p.f1) (.int .i64 p.f2) (.int .i64 hops) (.int .u64 p.f6) (.int .i64 1) (.string p.f8) (.int .i64 0) (.int .i64 0) (.string ⟨#[]⟩)
  rw [← hW] at DW ⊢
  clear hW
  obtain ⟨V,hV⟩ : ∃ V,V = W.alloc (Obj.cells #[.string ⟨#[]⟩,.int .i64 0,.int .i64 0,.int .i64 0] 57) := ⟨_,rfl⟩
  have BV : V.heap[br]? = some (.cells #[.int .i64 4,.int .i64 self,.int .i64 home,.int .i64 p.f1,.int .i64 p.f2,.int .i64 hops,.int .u64 p.f6,.int .i64 1,.string p.f8,.int .i64 0,.int .i64 0,.string ⟨#[]⟩] 30 (0,0)) := by rw [hV];exact blk_alloc BW _
  have DV : DirAt V g b life L := by rw [hV];exact DW.below (below_alloc (Below.refl _ _) _)
  have GV : w.grownBy V (some b) := by rw [hV];exact GW.trans (grown_of_below (below_alloc (Below.refl _ _) _) (some b))
  rw [← hV]
  clear hV
  have g0 : V.cell? ⟨br,0,none⟩ = some (.int .i64 4) := (blk_cell BV 0).trans rfl
  have g1 : V.cell? ⟨br,1,none⟩ = some (.int .i64 self) := (blk_cell BV 1).trans rfl
  have g2 : V.cell? ⟨br,2,none⟩ = some (.int .i64 home) := (blk_cell BV 2).trans rfl
  have g3 : V.cell? ⟨br,3,none⟩ = some (.int .i64 p.f1) := (blk_cell BV 3).trans rfl
  have g4 : V.cell? ⟨br,4,none⟩ = some (.int .i64 p.f2) := (blk_cell BV 4).trans rfl
  have g5 : V.cell? ⟨br,5,none⟩ = some (.int .i64 hops) := (blk_cell BV 5).trans rfl
  have g6 : V.cell? ⟨br,6,none⟩ = some (.int .u64 p.f6) := (blk_cell BV 6).trans rfl
  have g7 : V.cell? ⟨br,7,none⟩ = some (.int .i64 1) := (blk_cell BV 7).trans rfl
  have g8 : V.cell? ⟨br,8,none⟩ = some (.string p.f8) := (blk_cell BV 8).trans rfl
  have g9 : V.cell? ⟨br,9,none⟩ = some (.int .i64 0) := (blk_cell BV 9).trans rfl
  have g10 : V.cell? ⟨br,10,none⟩ = some (.int .i64 0) := (blk_cell BV 10).trans rfl
  have g11 : V.cell? ⟨br,11,none⟩ = some (.string ⟨#[]⟩) := (blk_cell BV 11).trans rfl
  refine bodyPost_ret (v := .tuple #[pkV ⟨4,self,home,p.f1,p.f2,hops,p.f6,1,p.f8,0,0,⟨#[]⟩⟩,.bool true,.int .i64 0]) (by simp [results,Try.results22,go_sem,pkV,g0,g1,g2,g3,g4,g5,g6,g7,g8,g9,g10,g11]) rfl ⟨by rw [ES.out,TS.out,PS.out],by rw [LS.out];exact DV,GV⟩
set_option maxHeartbeats 4000000 in
set_option maxRecDepth 100000 in
theorem serve_some {w : World} {g b : Nat} {life : Int} {L : List S57} (h : DirAt w g b life L) (self home hops : Int) (p : S30) (hn : askedV self home hops = 0) (hm : mayP p = true) (hk : p.f0 = 3) (ht : p.f3 = self) (a : S57) (hg : adGet p.f8 L = some a) :
    Calls Try.prog 22 #[.pointer (some ⟨g,0,none⟩),.int .i64 self,.int .i64 home,.int .i64 hops,.agg #[.int .i64 p.f0,.int .i64 p.f1,.int .i64 p.f2,.int .i64 p.f3,.int .i64 p.f4,.int .i64 p.f5,.int .u64 p.f6,.int .i64 p.f7,.string p.f8,.int .i64 p.f9,.int .i64 p.f10,.string p.f11]] w fun e w' => ServeOut w g b life L self home hops p e w' := by
  have hu30 := Try.underlying30
  have hu87 := Try.underlying87
  have HN := Aside0.mk hn
  have MP := Aside0.mk hm
  have sv : servable self p = true := by unfold servable;simp [hm,hk,ht]
  have ES : Aside0 (serveE L self home hops p = 0) := ⟨by unfold serveE;rw [hn,if_neg (by simp),if_neg (by rw [sv];simp),if_neg (by rw [hk];decide)]⟩
  have TS : Aside0 (serveT self home hops p = true) := ⟨by unfold serveT;rw [hn,sv,hk];rfl⟩
  have LS : Aside0 (serveL life L self home hops p = L) := ⟨by unfold serveL;rw [if_neg (fun h => by rw [hk] at h;exact absurd h.2.2 (by decide))]⟩
  have k2 : (p.f0 != 2) = true := by simp [hk]
  have k2e : (p.f0 == 2) = false := by simp [hk]
  have k3 : (p.f0 != 3) = false := by simp [hk]
  have kt : (p.f3 != self) = false := by simp [ht]
  have GT := Aside0.mk hg
  have PS : Aside0 (serveP L self home hops p = ⟨4,self,home,p.f1,p.f2,hops,p.f6,0,p.f8,a.f1,a.f2,⟨#[]⟩⟩) := ⟨by unfold serveP answerP;rw [TS.out,if_pos rfl,hg]⟩
  clear hn hm hk ht sv hg
  have GL := Aside0.mk (blk_lt h.1)
  have BL := Aside0.mk h.2.lt
  obtain ⟨w0,hw0⟩ : ∃ w0,w0 = (w.alloc (Obj.cells #[.int .i64 p.f0,.int .i64 p.f1,.int .i64 p.f2,.int .i64 p.f3,.int .i64 p.f4,.int .i64 p.f5,.int .u64 p.f6,.int .i64 p.f7,.string p.f8,.int .i64 p.f9,.int .i64 p.f10,.string p.f11] 30)).alloc (Obj.cells #[.int .i64 0,.int .i64 0,.int .i64 0,.int .i64 0,.int .i64 0,.int .i64 0,.int .u64 0,.int .i64 0,.string ⟨#[]⟩,.int .i64 0,.int .i64 0,.string ⟨#[]⟩] 30) := ⟨_,rfl⟩
  obtain ⟨bp,hbp⟩ : ∃ bp,bp = w.heap.size := ⟨_,rfl⟩
  obtain ⟨br,hbr⟩ : ∃ br,br = w.heap.size + 1 := ⟨_,rfl⟩
  have W0 := Aside0.mk (And.intro hw0 (And.intro hbp hbr))
  have B0 : Below w.heap.size w w0 := by rw [hw0];exact below_alloc (below_alloc (Below.refl _ _) _) _
  have BP0 : Aside0 (w0.heap[bp]? = some (.cells #[.int .i64 p.f0,.int .i64 p.f1,.int .i64 p.f2,.int .i64 p.f3,.int .i64 p.f4,.int .i64 p.f5,.int .u64 p.f6,.int .i64 p.f7,.string p.f8,.int .i64 p.f9,.int .i64 p.f10,.string p.f11] 30 (0,0))) := ⟨by rw [hw0,hbp];exact blk_alloc (blk_new w _) _⟩
  have BR0 : Aside0 (w0.heap[br]? = some (.cells #[.int .i64 0,.int .i64 0,.int .i64 0,.int .i64 0,.int .i64 0,.int .i64 0,.int .u64 0,.int .i64 0,.string ⟨#[]⟩,.int .i64 0,.int .i64 0,.string ⟨#[]⟩] 30 (0,0))) := ⟨by rw [hw0,hbr];have := blk_new (w.alloc (Obj.cells #[.int .i64 p.f0,.int .i64 p.f1,.int .i64 p.f2,.int .i64 p.f3,.int .i64 p.f4,.int .i64 p.f5,.int .u64 p.f6,.int .i64 p.f7,.string p.f8,.int .i64 p.f9,.int .i64 p.f10,.string p.f11] 30)) (Obj.cells #[.int .i64 0,.int .i64 0,.int .i64 0,.int .i64 0,.int .i64 0,.int .i64 0,.int .u64 0,.int .i64 0,.string ⟨#[]⟩,.int .i64 0,.int .i64 0,.string ⟨#[]⟩] 30);rwa [World.size_alloc] at this⟩
  have D0 := Aside0.mk (h.below B0)
  have G0 := Aside0.mk (grown_of_below B0 (some b))
  have LR : Aside0 (w.heap.size ≤ br) := ⟨by omega⟩
  have RG : Aside0 (br ≠ g) := ⟨by have := GL.out;omega⟩
  have RB : Aside0 (br ≠ b) := ⟨by have := BL.out;omega⟩
  clear hw0 hbp hbr B0 h
  go_enter Try.func22,Try.ntmps22
  go_upto_region 1 with fail
  rw [← W0.out.2.2,← W0.out.2.1,← W0.out.1]
  go_wp2_with (first | (go_at_call 38;refine (is_made D0.out).mono ?_;rintro e w' ⟨rfl,rfl⟩) | (go_at_call 41;refine (asked_any self home hops 0 HN.out _).mono ?_;rintro e w1 ⟨rfl,hb⟩;have BP1 := Aside0.mk (blk_below BP0.out hb);have BR1 := Aside0.mk (blk_below BR0.out hb);have D1 := Aside0.mk (D0.out.below hb);have G1 := Aside0.mk (G0.out.trans (grown_of_below hb (some b)));clear hb;have p0_w1 : w1.cell? ⟨bp,0,none⟩ = some (.int .i64 p.f0) := (blk_cell BP1.out 0).trans rfl;have p1_w1 : w1.cell? ⟨bp,1,none⟩ = some (.int .i64 p.f1) := (blk_cell BP1.out 1).trans rfl;have p2_w1 : w1.cell? ⟨bp,2,none⟩ = some (.int .i64 p.f2) := (blk_cell BP1.out 2).trans rfl;have p3_w1 : w1.cell? ⟨bp,3,none⟩ = some (.int .i64 p.f3) := (blk_cell BP1.out 3).trans rfl;have p4_w1 : w1.cell? ⟨bp,4,none⟩ = some (.int .i64 p.f4) := (blk_cell BP1.out 4).trans rfl;have p5_w1 : w1.cell? ⟨bp,5,none⟩ = some (.int .i64 p.f5) := (blk_cell BP1.out 5).trans rfl;have p6_w1 : w1.cell? ⟨bp,6,none⟩ = some (.int .u64 p.f6) := (blk_cell BP1.out 6).trans rfl;have p7_w1 : w1.cell? ⟨bp,7,none⟩ = some (.int .i64 p.f7) := (blk_cell BP1.out 7).trans rfl;have p8_w1 : w1.cell? ⟨bp,8,none⟩ = some (.string p.f8) := (blk_cell BP1.out 8).trans rfl;have p9_w1 : w1.cell? ⟨bp,9,none⟩ = some (.int .i64 p.f9) := (blk_cell BP1.out 9).trans rfl;have p10_w1 : w1.cell? ⟨bp,10,none⟩ = some (.int .i64 p.f10) := (blk_cell BP1.out 10).trans rfl;have p11_w1 : w1.cell? ⟨bp,11,none⟩ = some (.string p.f11) := (blk_cell BP1.out 11).trans rfl;have ltp_w1 := blk_lt BP1.out) | (go_at_call 42;refine (check4_any p true MP.out _).mono ?_;rintro e w2 ⟨rfl,hb⟩;have BP2 := Aside0.mk (blk_below BP1.out hb);have BR2 := Aside0.mk (blk_below BR1.out hb);have D2 := Aside0.mk (D1.out.below hb);have G2 := Aside0.mk (G1.out.trans (grown_of_below hb (some b)));clear hb;have p0_w2 : w2.cell? ⟨bp,0,none⟩ = some (.int .i64 p.f0) := (blk_cell BP2.out 0).trans rfl;have p1_w2 : w2.cell? ⟨bp,1,none⟩ = some (.int .i64 p.f1) := (blk_cell BP2.out 1).trans rfl;have p2_w2 : w2.cell? ⟨bp,2,none⟩ = some (.int .i64 p.f2) := (blk_cell BP2.out 2).trans rfl;have p3_w2 : w2.cell? ⟨bp,3,none⟩ = some (.int .i64 p.f3) := (blk_cell BP2.out 3).trans rfl;have p4_w2 : w2.cell? ⟨bp,4,none⟩ = some (.int .i64 p.f4) := (blk_cell BP2.out 4).trans rfl;have p5_w2 : w2.cell? ⟨bp,5,none⟩ = some (.int .i64 p.f5) := (blk_cell BP2.out 5).trans rfl;have p6_w2 : w2.cell? ⟨bp,6,none⟩ = some (.int .u64 p.f6) := (blk_cell BP2.out 6).trans rfl;have p7_w2 : w2.cell? ⟨bp,7,none⟩ = some (.int .i64 p.f7) := (blk_cell BP2.out 7).trans rfl;have p8_w2 : w2.cell? ⟨bp,8,none⟩ = some (.string p.f8) := (blk_cell BP2.out 8).trans rfl;have p9_w2 : w2.cell? ⟨bp,9,none⟩ = some (.int .i64 p.f9) := (blk_cell BP2.out 9).trans rfl;have p10_w2 : w2.cell? ⟨bp,10,none⟩ = some (.int .i64 p.f10) := (blk_cell BP2.out 10).trans rfl;have p11_w2 : w2.cell? ⟨bp,11,none⟩ = some (.string p.f11) := (blk_cell BP2.out 11).trans rfl;have ltp_w2 := blk_lt BP2.out;have r0_w2 : w2.cell? ⟨br,0,none⟩ = some (.int .i64 0) := (blk_cell BR2.out 0).trans rfl;have r1_w2 : w2.cell? ⟨br,1,none⟩ = some (.int .i64 0) := (blk_cell BR2.out 1).trans rfl;have r2_w2 : w2.cell? ⟨br,2,none⟩ = some (.int .i64 0) := (blk_cell BR2.out 2).trans rfl;have r3_w2 : w2.cell? ⟨br,3,none⟩ = some (.int .i64 0) := (blk_cell BR2.out 3).trans rfl;have r4_w2 : w2.cell? ⟨br,4,none⟩ = some (.int .i64 0) := (blk_cell BR2.out 4).trans rfl;have r5_w2 : w2.cell? ⟨br,5,none⟩ = some (.int .i64 0) := (blk_cell BR2.out 5).trans rfl;have r6_w2 : w2.cell? ⟨br,6,none⟩ = some (.int .u64 0) := (blk_cell BR2.out 6).trans rfl;have r7_w2 : w2.cell? ⟨br,7,none⟩ = some (.int .i64 0) := (blk_cell BR2.out 7).trans rfl;have r8_w2 : w2.cell? ⟨br,8,none⟩ = some (.string ⟨#[]⟩) := (blk_cell BR2.out 8).trans rfl;have r9_w2 : w2.cell? ⟨br,9,none⟩ = some (.int .i64 0) := (blk_cell BR2.out 9).trans rfl;have r10_w2 : w2.cell? ⟨br,10,none⟩ = some (.int .i64 0) := (blk_cell BR2.out 10).trans rfl;have r11_w2 : w2.cell? ⟨br,11,none⟩ = some (.string ⟨#[]⟩) := (blk_cell BR2.out 11).trans rfl;have ltr_w2 := blk_lt BR2.out;have zr0_w2 := blk_frozen BR2.out 0;have zr1_w2 := blk_frozen BR2.out 1;have zr2_w2 := blk_frozen BR2.out 2;have zr3_w2 := blk_frozen BR2.out 3;have zr4_w2 := blk_frozen BR2.out 4;have zr5_w2 := blk_frozen BR2.out 5;have zr6_w2 := blk_frozen BR2.out 6;have zr7_w2 := blk_frozen BR2.out 7;have zr8_w2 := blk_frozen BR2.out 8;have zr9_w2 := blk_frozen BR2.out 9;have zr10_w2 := blk_frozen BR2.out 10;have zr11_w2 := blk_frozen BR2.out 11) | (go_at_call 25;refine (get_dir (D2.out.below (below_alloc (Below.refl _ _) _)) p.f8).mono ?_;rintro e w4 ⟨rfl,hb⟩;rw [GT.out];simp only [adOr,adV,Option.getD_some,Option.isSome_some,z57];have BO4 := Aside0.mk (blk_below (blk_new w2 (.cells #[.int .i64 4,.int .i64 self,.int .i64 home,.int .i64 p.f1,.int .i64 p.f2,.int .i64 hops,.int .u64 p.f6,.int .i64 1,.string p.f8,.int .i64 0,.int .i64 0,.string ⟨#[]⟩] 30)) hb);have BR4 := Aside0.mk (blk_below (blk_alloc BR2.out (.cells #[.int .i64 4,.int .i64 self,.int .i64 home,.int .i64 p.f1,.int .i64 p.f2,.int .i64 hops,.int .u64 p.f6,.int .i64 1,.string p.f8,.int .i64 0,.int .i64 0,.string ⟨#[]⟩] 30)) hb);have D4 := Aside0.mk ((D2.out.below (below_alloc (Below.refl _ _) _)).below hb);have G4 := Aside0.mk ((G2.out.trans (grown_of_below (below_alloc (Below.refl _ _) (.cells #[.int .i64 4,.int .i64 self,.int .i64 home,.int .i64 p.f1,.int .i64 p.f2,.int .i64 hops,.int .u64 p.f6,.int .i64 1,.string p.f8,.int .i64 0,.int .i64 0,.string ⟨#[]⟩] 30)) (some b))).trans (grown_of_below hb (some b)));clear hb;have o0_w4 : w4.cell? ⟨w2.heap.size,0,none⟩ = some (.int .i64 4) := (blk_cell BO4.out 0).trans rfl;have o1_w4 : w4.cell? ⟨w2.heap.size,1,none⟩ = some (.int .i64 self) := (blk_cell BO4.out 1).trans rfl;have o2_w4 : w4.cell? ⟨w2.heap.size,2,none⟩ = some (.int .i64 home) := (blk_cell BO4.out 2).trans rfl;have o3_w4 : w4.cell? ⟨w2.heap.size,3,none⟩ = some (.int .i64 p.f1) := (blk_cell BO4.out 3).trans rfl;have o4_w4 : w4.cell? ⟨w2.heap.size,4,none⟩ = some (.int .i64 p.f2) := (blk_cell BO4.out 4).trans rfl;have o5_w4 : w4.cell? ⟨w2.heap.size,5,none⟩ = some (.int .i64 hops) := (blk_cell BO4.out 5).trans rfl;have o6_w4 : w4.cell? ⟨w2.heap.size,6,none⟩ = some (.int .u64 p.f6) := (blk_cell BO4.out 6).trans rfl;have o7_w4 : w4.cell? ⟨w2.heap.size,7,none⟩ = some (.int .i64 1) := (blk_cell BO4.out 7).trans rfl;have o8_w4 : w4.cell? ⟨w2.heap.size,8,none⟩ = some (.string p.f8) := (blk_cell BO4.out 8).trans rfl;have o9_w4 : w4.cell? ⟨w2.heap.size,9,none⟩ = some (.int .i64 0) := (blk_cell BO4.out 9).trans rfl;have o10_w4 : w4.cell? ⟨w2.heap.size,10,none⟩ = some (.int .i64 0) := (blk_cell BO4.out 10).trans rfl;have o11_w4 : w4.cell? ⟨w2.heap.size,11,none⟩ = some (.string ⟨#[]⟩) := (blk_cell BO4.out 11).trans rfl;have lto_w4 := blk_lt BO4.out;have r0_w4 : w4.cell? ⟨br,0,none⟩ = some (.int .i64 0) := (blk_cell BR4.out 0).trans rfl;have r1_w4 : w4.cell? ⟨br,1,none⟩ = some (.int .i64 0) := (blk_cell BR4.out 1).trans rfl;have r2_w4 : w4.cell? ⟨br,2,none⟩ = some (.int .i64 0) := (blk_cell BR4.out 2).trans rfl;have r3_w4 : w4.cell? ⟨br,3,none⟩ = some (.int .i64 0) := (blk_cell BR4.out 3).trans rfl;have r4_w4 : w4.cell? ⟨br,4,none⟩ = some (.int .i64 0) := (blk_cell BR4.out 4).trans rfl;have r5_w4 : w4.cell? ⟨br,5,none⟩ = some (.int .i64 0) := (blk_cell BR4.out 5).trans rfl;have r6_w4 : w4.cell? ⟨br,6,none⟩ = some (.int .u64 0) := (blk_cell BR4.out 6).trans rfl;have r7_w4 : w4.cell? ⟨br,7,none⟩ = some (.int .i64 0) := (blk_cell BR4.out 7).trans rfl;have r8_w4 : w4.cell? ⟨br,8,none⟩ = some (.string ⟨#[]⟩) := (blk_cell BR4.out 8).trans rfl;have r9_w4 : w4.cell? ⟨br,9,none⟩ = some (.int .i64 0) := (blk_cell BR4.out 9).trans rfl;have r10_w4 : w4.cell? ⟨br,10,none⟩ = some (.int .i64 0) := (blk_cell BR4.out 10).trans rfl;have r11_w4 : w4.cell? ⟨br,11,none⟩ = some (.string ⟨#[]⟩) := (blk_cell BR4.out 11).trans rfl;have ltr_w4 := blk_lt BR4.out;have zr0_w4 := blk_frozen BR4.out 0;have zr1_w4 := blk_frozen BR4.out 1;have zr2_w4 := blk_frozen BR4.out 2;have zr3_w4 := blk_frozen BR4.out 3;have zr4_w4 := blk_frozen BR4.out 4;have zr5_w4 := blk_frozen BR4.out 5;have zr6_w4 := blk_frozen BR4.out 6;have zr7_w4 := blk_frozen BR4.out 7;have zr8_w4 := blk_frozen BR4.out 8;have zr9_w4 := blk_frozen BR4.out 9;have zr10_w4 := blk_frozen BR4.out 10;have zr11_w4 := blk_frozen BR4.out 11))
  obtain ⟨w5,hw5⟩ : ∃ w5,w5 = w4.alloc (Obj.cells #[.string a.f0,.int .i64 a.f1,.int .i64 a.f2,.int .i64 a.f3] 57) := ⟨_,rfl⟩
  obtain ⟨ba,hba⟩ : ∃ ba,ba = w4.heap.size := ⟨_,rfl⟩
  obtain ⟨bo,hbo⟩ : ∃ bo,bo = w2.heap.size := ⟨_,rfl⟩
  have BO5 : Aside0 (w5.heap[bo]? = some (.cells #[.int .i64 4,.int .i64 self,.int .i64 home,.int .i64 p.f1,.int .i64 p.f2,.int .i64 hops,.int .u64 p.f6,.int .i64 1,.string p.f8,.int .i64 0,.int .i64 0,.string ⟨#[]⟩] 30 (0,0))) := ⟨by rw [hw5,hbo];exact blk_alloc BO4.out _⟩
  have BR5 : Aside0 (w5.heap[br]? = some (.cells #[.int .i64 0,.int .i64 0,.int .i64 0,.int .i64 0,.int .i64 0,.int .i64 0,.int .u64 0,.int .i64 0,.string ⟨#[]⟩,.int .i64 0,.int .i64 0,.string ⟨#[]⟩] 30 (0,0))) := ⟨by rw [hw5];exact blk_alloc BR4.out _⟩
  have BA5 : Aside0 (w5.heap[ba]? = some (.cells #[.string a.f0,.int .i64 a.f1,.int .i64 a.f2,.int .i64 a.f3] 57 (0,0))) := ⟨by rw [hw5,hba];exact blk_new w4 _⟩
  have D5 : Aside0 (DirAt w5 g b life L) := ⟨by rw [hw5];exact D4.out.below (below_alloc (Below.refl _ _) _)⟩
  have G5 : Aside0 (w.grownBy w5 (some b)) := ⟨by rw [hw5];exact G4.out.trans (grown_of_below (below_alloc (Below.refl _ _) _) (some b))⟩
  have OG : Aside0 (bo ≠ g ∧ bo ≠ b ∧ w.heap.size ≤ bo ∧ bo ≠ br) := ⟨by
    have h1 := G2.out.size
    have h2 := blk_lt BR2.out
    have h3 := GL.out
    have h4 := BL.out
    omega⟩
  rw [← hw5,← hba,← hbo]
  clear hw5 hba hbo
  have o0_w5 : w5.cell? ⟨bo,0,none⟩ = some (.int .i64 4) := (blk_cell BO5.out 0).trans rfl
  have o1_w5 : w5.cell? ⟨bo,1,none⟩ = some (.int .i64 self) := (blk_cell BO5.out 1).trans rfl
  have o2_w5 : w5.cell? ⟨bo,2,none⟩ = some (.int .i64 home) := (blk_cell BO5.out 2).trans rfl
  have o3_w5 : w5.cell? ⟨bo,3,none⟩ = some (.int .i64 p.f1) := (blk_cell BO5.out 3).trans rfl
  have o4_w5 : w5.cell? ⟨bo,4,none⟩ = some (.int .i64 p.f2) := (blk_cell BO5.out 4).trans rfl
  have o5_w5 : w5.cell? ⟨bo,5,none⟩ = some (.int .i64 hops) := (blk_cell BO5.out 5).trans rfl
  have o6_w5 : w5.cell? ⟨bo,6,none⟩ = some (.int .u64 p.f6) := (blk_cell BO5.out 6).trans rfl
  have o7_w5 : w5.cell? ⟨bo,7,none⟩ = some (.int .i64 1) := (blk_cell BO5.out 7).trans rfl
  have o8_w5 : w5.cell? ⟨bo,8,none⟩ = some (.string p.f8) := (blk_cell BO5.out 8).trans rfl
  have o9_w5 : w5.cell? ⟨bo,9,none⟩ = some (.int .i64 0) := (blk_cell BO5.out 9).trans rfl
  have o10_w5 : w5.cell? ⟨bo,10,none⟩ = some (.int .i64 0) := (blk_cell BO5.out 10).trans rfl
  have o11_w5 : w5.cell? ⟨bo,11,none⟩ = some (.string ⟨#[]⟩) := (blk_cell BO5.out 11).trans rfl
  have lto_w5 := blk_lt BO5.out
  have zo0_w5 := blk_frozen BO5.out 0
  have zo1_w5 := blk_frozen BO5.out 1
  have zo2_w5 := blk_frozen BO5.out 2
  have zo3_w5 := blk_frozen BO5.out 3
  have zo4_w5 := blk_frozen BO5.out 4
  have zo5_w5 := blk_frozen BO5.out 5
  have zo6_w5 := blk_frozen BO5.out 6
  have zo7_w5 := blk_frozen BO5.out 7
  have zo8_w5 := blk_frozen BO5.out 8
  have zo9_w5 := blk_frozen BO5.out 9
  have zo10_w5 := blk_frozen BO5.out 10
  have zo11_w5 := blk_frozen BO5.out 11
  have a0_w5 : w5.cell? ⟨ba,0,none⟩ = some (.string a.f0) := (blk_cell BA5.out 0).trans rfl
  have a1_w5 : w5.cell? ⟨ba,1,none⟩ = some (.int .i64 a.f1) := (blk_cell BA5.out 1).trans rfl
  have a2_w5 : w5.cell? ⟨ba,2,none⟩ = some (.int .i64 a.f2) := (blk_cell BA5.out 2).trans rfl
  have a3_w5 : w5.cell? ⟨ba,3,none⟩ = some (.int .i64 a.f3) := (blk_cell BA5.out 3).trans rfl
  have lta_w5 := blk_lt BA5.out
  go_cut [] from 82 to 88 (fun wx => Aside0 (wx.heap[bo]? = some (.cells #[.int .i64 4,.int .i64 self,.int .i64 home,.int .i64 p.f1,.int .i64 p.f2,.int .i64 hops,.int .u64 p.f6,.int .i64 0,.string p.f8,.int .i64 a.f1,.int .i64 a.f2,.string ⟨#[]⟩] 30 (0,0)) ∧ wx.heap[br]? = some (.cells #[.int .i64 0,.int .i64 0,.int .i64 0,.int .i64 0,.int .i64 0,.int .i64 0,.int .u64 0,.int .i64 0,.string ⟨#[]⟩,.int .i64 0,.int .i64 0,.string ⟨#[]⟩] 30 (0,0)) ∧ DirAt wx g b life L ∧ w.grownBy wx (some b)))
  case first =>
    go_region
    all_goals (go_wp2_with fail;go_meet)
    exact ⟨⟨(blk_drew (blk_set (blk_set (blk_set BO5.out 7 _) 9 _) 10 _)).trans rfl,blk_drew (blk_far (blk_far (blk_far BR5.out (Ne.symm OG.out.2.2.2) _) (Ne.symm OG.out.2.2.2) _) (Ne.symm OG.out.2.2.2) _),(((D5.out.far OG.out.1 OG.out.2.1 _).far OG.out.1 OG.out.2.1 _).far OG.out.1 OG.out.2.1 _).below (below_drew (Below.refl _ _)),(grown_set (grown_set (grown_set G5.out OG.out.2.2.1 _) OG.out.2.2.1 _) OG.out.2.2.1 _).trans (grown_of_below (below_drew (Below.refl _ _)) (some b))⟩⟩
  case rest =>
  have HX := hcut
  have BO6 : Aside0 (wc.heap[bo]? = some (.cells #[.int .i64 4,.int .i64 self,.int .i64 home,.int .i64 p.f1,.int .i64 p.f2,.int .i64 hops,.int .u64 p.f6,.int .i64 0,.string p.f8,.int .i64 a.f1,.int .i64 a.f2,.string ⟨#[]⟩] 30 (0,0))) := ⟨hcut.out.1⟩
  have BR6 : Aside0 (wc.heap[br]? = some (.cells #[.int .i64 0,.int .i64 0,.int .i64 0,.int .i64 0,.int .i64 0,.int .i64 0,.int .u64 0,.int .i64 0,.string ⟨#[]⟩,.int .i64 0,.int .i64 0,.string ⟨#[]⟩] 30 (0,0))) := ⟨hcut.out.2.1⟩
  have D6 : Aside0 (DirAt wc g b life L) := ⟨hcut.out.2.2.1⟩
  have G6 : Aside0 (w.grownBy wc (some b)) := ⟨hcut.out.2.2.2⟩
  clear hcut HX
  clear o0_w5 o1_w5 o2_w5 o3_w5 o4_w5 o5_w5 o6_w5 o7_w5 o8_w5 o9_w5 o10_w5 o11_w5 lto_w5 zo0_w5 zo1_w5 zo2_w5 zo3_w5 zo4_w5 zo5_w5 zo6_w5 zo7_w5 zo8_w5 zo9_w5 zo10_w5 zo11_w5 a0_w5 a1_w5 a2_w5 a3_w5 lta_w5
  have oo0_wc : wc.cell? ⟨bo,0,none⟩ = some (.int .i64 4) := (blk_cell BO6.out 0).trans rfl
  have oo1_wc : wc.cell? ⟨bo,1,none⟩ = some (.int .i64 self) := (blk_cell BO6.out 1).trans rfl
  have oo2_wc : wc.cell? ⟨bo,2,none⟩ = some (.int .i64 home) := (blk_cell BO6.out 2).trans rfl
  have oo3_wc : wc.cell? ⟨bo,3,none⟩ = some (.int .i64 p.f1) := (blk_cell BO6.out 3).trans rfl
  have oo4_wc : wc.cell? ⟨bo,4,none⟩ = some (.int .i64 p.f2) := (blk_cell BO6.out 4).trans rfl
  have oo5_wc : wc.cell? ⟨bo,5,none⟩ = some (.int .i64 hops) := (blk_cell BO6.out 5).trans rfl
  have oo6_wc : wc.cell? ⟨bo,6,none⟩ = some (.int .u64 p.f6) := (blk_cell BO6.out 6).trans rfl
  have oo7_wc : wc.cell? ⟨bo,7,none⟩ = some (.int .i64 0) := (blk_cell BO6.out 7).trans rfl
  have oo8_wc : wc.cell? ⟨bo,8,none⟩ = some (.string p.f8) := (blk_cell BO6.out 8).trans rfl
  have oo9_wc : wc.cell? ⟨bo,9,none⟩ = some (.int .i64 a.f1) := (blk_cell BO6.out 9).trans rfl
  have oo10_wc : wc.cell? ⟨bo,10,none⟩ = some (.int .i64 a.f2) := (blk_cell BO6.out 10).trans rfl
  have oo11_wc : wc.cell? ⟨bo,11,none⟩ = some (.string ⟨#[]⟩) := (blk_cell BO6.out 11).trans rfl
  have ltoo_wc := blk_lt BO6.out
  have rr0_wc : wc.cell? ⟨br,0,none⟩ = some (.int .i64 0) := (blk_cell BR6.out 0).trans rfl
  have rr1_wc : wc.cell? ⟨br,1,none⟩ = some (.int .i64 0) := (blk_cell BR6.out 1).trans rfl
  have rr2_wc : wc.cell? ⟨br,2,none⟩ = some (.int .i64 0) := (blk_cell BR6.out 2).trans rfl
  have rr3_wc : wc.cell? ⟨br,3,none⟩ = some (.int .i64 0) := (blk_cell BR6.out 3).trans rfl
  have rr4_wc : wc.cell? ⟨br,4,none⟩ = some (.int .i64 0) := (blk_cell BR6.out 4).trans rfl
  have rr5_wc : wc.cell? ⟨br,5,none⟩ = some (.int .i64 0) := (blk_cell BR6.out 5).trans rfl
  have rr6_wc : wc.cell? ⟨br,6,none⟩ = some (.int .u64 0) := (blk_cell BR6.out 6).trans rfl
  have rr7_wc : wc.cell? ⟨br,7,none⟩ = some (.int .i64 0) := (blk_cell BR6.out 7).trans rfl
  have rr8_wc : wc.cell? ⟨br,8,none⟩ = some (.string ⟨#[]⟩) := (blk_cell BR6.out 8).trans rfl
  have rr9_wc : wc.cell? ⟨br,9,none⟩ = some (.int .i64 0) := (blk_cell BR6.out 9).trans rfl
  have rr10_wc : wc.cell? ⟨br,10,none⟩ = some (.int .i64 0) := (blk_cell BR6.out 10).trans rfl
  have rr11_wc : wc.cell? ⟨br,11,none⟩ = some (.string ⟨#[]⟩) := (blk_cell BR6.out 11).trans rfl
  have ltrr_wc := blk_lt BR6.out
  have zrr0_wc := blk_frozen BR6.out 0
  have zrr1_wc := blk_frozen BR6.out 1
  have zrr2_wc := blk_frozen BR6.out 2
  have zrr3_wc := blk_frozen BR6.out 3
  have zrr4_wc := blk_frozen BR6.out 4
  have zrr5_wc := blk_frozen BR6.out 5
  have zrr6_wc := blk_frozen BR6.out 6
  have zrr7_wc := blk_frozen BR6.out 7
  have zrr8_wc := blk_frozen BR6.out 8
  have zrr9_wc := blk_frozen BR6.out 9
  have zrr10_wc := blk_frozen BR6.out 10
  have zrr11_wc := blk_frozen BR6.out 11
  go_wp2_with fail
  obtain ⟨W,hW⟩ : ∃ W,W = ((((((((((((wc.setCell ⟨br,0,none⟩ (.int .i64 4)).setCell ⟨br,1,none⟩ (.int .i64 self)).setCell ⟨br,2,none⟩ (.int .i64 home)).setCell ⟨br,3,none⟩ (.int .i64 p.f1)).setCell ⟨br,4,none⟩ (.int .i64 p.f2)).setCell ⟨br,5,none⟩ (.int .i64 hops)).setCell ⟨br,6,none⟩ (.int .u64 p.f6)).setCell ⟨br,7,none⟩ (.int .i64 0)).setCell ⟨br,8,none⟩ (.string p.f8)).setCell ⟨br,9,none⟩ (.int .i64 a.f1)).setCell ⟨br,10,none⟩ (.int .i64 a.f2)).setCell ⟨br,11,none⟩ (.string ⟨#[]⟩)) := ⟨_,rfl⟩
  have BW : W.heap[br]? = some (.cells #[.int .i64 4,.int .i64 self,.int .i64 home,.int .i64 p.f1,.int .i64 p.f2,.int .i64 hops,.int .u64 p.f6,.int .i64 0,.string p.f8,.int .i64 a.f1,.int .i64 a.f2,.string ⟨#[]⟩] 30 (0,0)) := by rw [hW];exact blk_set12 BR6.out _ _ _ _ _ _ _ _ _ _ _ _
  have GW : w.grownBy W (some b) := by rw [hW];exact grown_set12 G6.out LR.out _ _ _ _ _ _ _ _ _ _ _ _
  have DW := DirAt.set12 D6.out RG.out RB.out (.int .i64 4) (.int .i64 self) (.int .i64 home) (.int .i64 p.f1) (.int .i64 p.f2) (.int .i64 hops) (.int .u64 p.f6) (.int .i64 0) (.string p.f8) (.int .i64 a.f1) (.int .i64 a.f2) (.string ⟨#[]⟩)
  rw [← hW] at DW ⊢
  clear hW
  have g0 : W.cell? ⟨br,0,none⟩ = some (.int .i64 4) := (blk_cell BW 0).trans rfl
  have g1 : W.cell? ⟨br,1,none⟩ = some (.int .i64 self) := (blk_cell BW 1).trans rfl
  have g2 : W.cell? ⟨br,2,none⟩ = some (.int .i64 home) := (blk_cell BW 2).trans rfl
  have g3 : W.cell? ⟨br,3,none⟩ = some (.int .i64 p.f1) := (blk_cell BW 3).trans rfl
  have g4 : W.cell? ⟨br,4,none⟩ = some (.int .i64 p.f2) := (blk_cell BW 4).trans rfl
  have g5 : W.cell? ⟨br,5,none⟩ = some (.int .i64 hops) := (blk_cell BW 5).trans rfl
  have g6 : W.cell? ⟨br,6,none⟩ = some (.int .u64 p.f6) := (blk_cell BW 6).trans rfl
  have g7 : W.cell? ⟨br,7,none⟩ = some (.int .i64 0) := (blk_cell BW 7).trans rfl
  have g8 : W.cell? ⟨br,8,none⟩ = some (.string p.f8) := (blk_cell BW 8).trans rfl
  have g9 : W.cell? ⟨br,9,none⟩ = some (.int .i64 a.f1) := (blk_cell BW 9).trans rfl
  have g10 : W.cell? ⟨br,10,none⟩ = some (.int .i64 a.f2) := (blk_cell BW 10).trans rfl
  have g11 : W.cell? ⟨br,11,none⟩ = some (.string ⟨#[]⟩) := (blk_cell BW 11).trans rfl
  refine bodyPost_ret (v := .tuple #[pkV ⟨4,self,home,p.f1,p.f2,hops,p.f6,0,p.f8,a.f1,a.f2,⟨#[]⟩⟩,.bool true,.int .i64 0]) (by simp [results,Try.results22,go_sem,pkV,g0,g1,g2,g3,g4,g5,g6,g7,g8,g9,g10,g11]) rfl ⟨by rw [ES.out,TS.out,PS.out],by rw [LS.out];exact DW,GW⟩
end Go.Proofs.Ytlpmblcdafdfdaa.PA
