/- message.Check of a packet; Serve of a directory that was made. No condition but those that each theorem names. -/
import Derived.Test.YtlpmblcdafdfdaaYyGm
import Derived.Test.YtlpmblcdafdfdaaYyDf
namespace Go.Proofs.Ytlpmblcdafdfdaa.PA
open Go.RowKit Go.Proofs.YtlpmblcdafdfdaaW.PrintWords Go.Proofs.YtlpmblcdafdfdaaW.PrintLast Go.Proofs.YtlpmblcdafdfdaaW.PrintMore
set_option linter.unusedVariables false
set_option linter.unusedSimpArgs false
theorem packet_any (p : S30) (b : Bool) (h : mayP p = b) (W : World) : Calls Try.prog 58 #[.agg #[.int .i64 p.f0,.int .i64 p.f1,.int .i64 p.f2,.int .i64 p.f3,.int .i64 p.f4,.int .i64 p.f5,.int .u64 p.f6,.int .i64 p.f7,.string p.f8,.int .i64 p.f9,.int .i64 p.f10,.string p.f11]] W fun e w' => e = .returned (.bool b) ∧ Below W.heap.size W w' :=
  message_packet.calls 43 p.f0 p.f1 p.f2 p.f3 p.f4 p.f5 p.f6 p.f7 p.f8 p.f9 p.f10 p.f11 b W (by rw [packet_f p 43 (Nat.le_refl _),h])
set_option maxHeartbeats 2000000 in
set_option maxRecDepth 100000 in
theorem check4_any (p : S30) (b : Bool) (h : mayP p = b) (W : World) : Calls Try.prog 42 #[.agg #[.int .i64 4,.int .u64 0,.int .u64 0,.int .u64 0,.slice none 0 0,.int .i64 p.f0,.int .i64 p.f1,.int .i64 p.f2,.int .i64 p.f3,.int .i64 p.f4,.int .i64 p.f5,.int .u64 p.f6,.int .i64 p.f7,.string p.f8,.int .i64 p.f9,.int .i64 p.f10,.string p.f11]] W fun e w' => e = .returned (.int .i64 (if b = true then 0 else 60)) ∧ Below W.heap.size W w' := by
  have PA := Aside0.mk (fun W => packet_any p b h W)
  have hu87 := Try.underlying87
  have hu30 := Try.underlying30
  clear h
  cases b
  · go_enter Try.func42,Try.ntmps42
    go_wp2_with (go_at_call 58;refine (PA.out _).mono ?_;rintro e w1 ⟨rfl,hb⟩;have HB1 := Aside0.mk (below_then (below_alloc (Below.refl _ W) (.cells #[.int .i64 4,.int .u64 0,.int .u64 0,.int .u64 0,.slice none 0 0,.int .i64 p.f0,.int .i64 p.f1,.int .i64 p.f2,.int .i64 p.f3,.int .i64 p.f4,.int .i64 p.f5,.int .u64 p.f6,.int .i64 p.f7,.string p.f8,.int .i64 p.f9,.int .i64 p.f10,.string p.f11] 87)) (below_alloc (Below.refl _ W) (.cells #[.int .i64 4,.int .u64 0,.int .u64 0,.int .u64 0,.slice none 0 0,.int .i64 p.f0,.int .i64 p.f1,.int .i64 p.f2,.int .i64 p.f3,.int .i64 p.f4,.int .i64 p.f5,.int .u64 p.f6,.int .i64 p.f7,.string p.f8,.int .i64 p.f9,.int .i64 p.f10,.string p.f11] 87)).size hb);clear hb)
    go_ret
    exact ⟨rfl,HB1.out⟩
  · go_enter Try.func42,Try.ntmps42
    go_wp2_with (go_at_call 58;refine (PA.out _).mono ?_;rintro e w1 ⟨rfl,hb⟩;have HB1 := Aside0.mk (below_then (below_alloc (Below.refl _ W) (.cells #[.int .i64 4,.int .u64 0,.int .u64 0,.int .u64 0,.slice none 0 0,.int .i64 p.f0,.int .i64 p.f1,.int .i64 p.f2,.int .i64 p.f3,.int .i64 p.f4,.int .i64 p.f5,.int .u64 p.f6,.int .i64 p.f7,.string p.f8,.int .i64 p.f9,.int .i64 p.f10,.string p.f11] 87)) (below_alloc (Below.refl _ W) (.cells #[.int .i64 4,.int .u64 0,.int .u64 0,.int .u64 0,.slice none 0 0,.int .i64 p.f0,.int .i64 p.f1,.int .i64 p.f2,.int .i64 p.f3,.int .i64 p.f4,.int .i64 p.f5,.int .u64 p.f6,.int .i64 p.f7,.string p.f8,.int .i64 p.f9,.int .i64 p.f10,.string p.f11] 87)).size hb);clear hb)
    go_ret
    exact ⟨rfl,HB1.out⟩
theorem grown_set {w v : World} {row : Option Nat} (h : w.grownBy v row) {p : Addr} (hp : w.heap.size ≤ p.block) (u : Value) : w.grownBy (v.setCell p u) row :=
  ⟨h.os,h.tape,h.output,by simpa [World.setCell] using h.size,fun i hi hne => (Below.heap_setCell v p u i (by omega)).trans (h.block i hi hne)⟩
theorem grown_set12 {w0 w : World} {row : Option Nat} {g : Nat} (h : w0.grownBy w row) (hg : w0.heap.size ≤ g) (v0 v1 v2 v3 v4 v5 v6 v7 v8 v9 v10 v11 : Value) :
    w0.grownBy ((((((((((((w.setCell ⟨g,0,none⟩ v0).setCell ⟨g,1,none⟩ v1).setCell ⟨g,2,none⟩ v2).setCell ⟨g,3,none⟩ v3).setCell ⟨g,4,none⟩ v4).setCell ⟨g,5,none⟩ v5).setCell ⟨g,6,none⟩ v6).setCell ⟨g,7,none⟩ v7).setCell ⟨g,8,none⟩ v8).setCell ⟨g,9,none⟩ v9).setCell ⟨g,10,none⟩ v10).setCell ⟨g,11,none⟩ v11) row :=
  grown_set (grown_set (grown_set (grown_set (grown_set (grown_set (grown_set (grown_set (grown_set (grown_set (grown_set (grown_set h hg v0) hg v1) hg v2) hg v3) hg v4) hg v5) hg v6) hg v7) hg v8) hg v9) hg v10) hg v11
theorem DirAt.far {w : World} {g b : Nat} {life : Int} {L : List S57} (h : DirAt w g b life L) {p : Addr} (h1 : p.block ≠ g) (h2 : p.block ≠ b) (u : Value) : DirAt (w.setCell p u) g b life L := ⟨blk_far h.1 (Ne.symm h1) u,h.2.setCell h2 u⟩
theorem DirAt.set12 {w : World} {d b : Nat} {life : Int} {L : List S57} {g : Nat} (h : DirAt w d b life L) (h1 : g ≠ d) (h2 : g ≠ b) (v0 v1 v2 v3 v4 v5 v6 v7 v8 v9 v10 v11 : Value) :
    DirAt ((((((((((((w.setCell ⟨g,0,none⟩ v0).setCell ⟨g,1,none⟩ v1).setCell ⟨g,2,none⟩ v2).setCell ⟨g,3,none⟩ v3).setCell ⟨g,4,none⟩ v4).setCell ⟨g,5,none⟩ v5).setCell ⟨g,6,none⟩ v6).setCell ⟨g,7,none⟩ v7).setCell ⟨g,8,none⟩ v8).setCell ⟨g,9,none⟩ v9).setCell ⟨g,10,none⟩ v10).setCell ⟨g,11,none⟩ v11) d b life L :=
  (((((((((((h.far h1 h2 v0).far h1 h2 v1).far h1 h2 v2).far h1 h2 v3).far h1 h2 v4).far h1 h2 v5).far h1 h2 v6).far h1 h2 v7).far h1 h2 v8).far h1 h2 v9).far h1 h2 v10).far h1 h2 v11
def servable (self : Int) (p : S30) : Bool := mayP p && (p.f0 == 2 || p.f0 == 3) && p.f3 == self
def serveE (L : List S57) (self home hops : Int) (p : S30) : Int := if askedV self home hops ≠ 0 then askedV self home hops else if servable self p = false then 60 else if p.f0 = 2 then putE L p.f8 p.f9 p.f10 else 0
def serveT (self home hops : Int) (p : S30) : Bool := askedV self home hops == 0 && servable self p && p.f0 != 2
def answerP (self home hops : Int) (p : S30) (o : Option S57) : S30 := match o with
  | none => ⟨4,self,home,p.f1,p.f2,hops,p.f6,1,p.f8,0,0,⟨#[]⟩⟩
  | some a => ⟨4,self,home,p.f1,p.f2,hops,p.f6,0,p.f8,a.f1,a.f2,⟨#[]⟩⟩
def serveP (L : List S57) (self home hops : Int) (p : S30) : S30 := if serveT self home hops p = true then answerP self home hops p (adGet p.f8 L) else z30
def serveL (life : Int) (L : List S57) (self home hops : Int) (p : S30) : List S57 := if askedV self home hops = 0 ∧ servable self p = true ∧ p.f0 = 2 then putL life L p.f8 p.f9 p.f10 else L
def ServeOut (w : World) (g b : Nat) (life : Int) (L : List S57) (self home hops : Int) (p : S30) (e : Ending) (w' : World) : Prop :=
  e = .returned (.tuple #[pkV (serveP L self home hops p),.bool (serveT self home hops p),.int .i64 (serveE L self home hops p)]) ∧ DirAt w' g b life (serveL life L self home hops p) ∧ w.grownBy w' (some b)
theorem serve_no {w W : World} {g b : Nat} {life : Int} {L : List S57} {self home hops n : Int} {p : S30} (hE : serveE L self home hops p = n) (hT : serveT self home hops p = false) (hL : serveL life L self home hops p = L) (hd : DirAt W g b life L) (hg : w.grownBy W (some b)) :
    ServeOut w g b life L self home hops p (.returned (.tuple #[pkV z30,.bool false,.int .i64 n])) W := by
  refine ⟨?_,by rw [hL];exact hd,hg⟩
  unfold serveP
  rw [hE,hT,if_neg (by simp)]
set_option maxHeartbeats 4000000 in
set_option maxRecDepth 100000 in
theorem serve_asked {w : World} {g b : Nat} {life : Int} {L : List S57} (h : DirAt w g b life L) (self home hops : Int) (p : S30) (n : Int) (hn : askedV self home hops = n) (h0 : n ≠ 0) :
    Calls Try.prog 22 #[.pointer (some ⟨g,0,none⟩),.int .i64 self,.int .i64 home,.int .i64 hops,.agg #[.int .i64 p.f0,.int .i64 p.f1,.int .i64 p.f2,.int .i64 p.f3,.int .i64 p.f4,.int .i64 p.f5,.int .u64 p.f6,.int .i64 p.f7,.string p.f8,.int .i64 p.f9,.int .i64 p.f10,.string p.f11]] w fun e w' => ServeOut w g b life L self home hops p e w' := by
  have hu30 := Try.underlying30
  have hu87 := Try.underlying87
  have HN := Aside0.mk hn
  have ES : Aside0 (serveE L self home hops p = n) := ⟨by unfold serveE;rw [hn,if_pos h0]⟩
  have TS : Aside0 (serveT self home hops p = false) := ⟨by unfold serveT;rw [hn];simp [h0]⟩
  have LS : Aside0 (serveL life L self home hops p = L) := ⟨by unfold serveL;rw [if_neg (fun h => h0 (hn.symm.trans h.1))]⟩
  have hb1 : (n != 0) = true := by simpa using h0
  clear hn h0
  have GL := Aside0.mk (blk_lt h.1)
  have BL := Aside0.mk h.2.lt
  obtain ⟨w0,hw0⟩ : ∃ w0,w0 = (w.alloc (Obj.cells #[.int .i64 p.f0,.int .i64 p.f1,.int .i64 p.f2,.int .i64 p.f3,.int .i64 p.f4,.int .i64 p.f5,.int .u64 p.f6,.int .i64 p.f7,.string p.f8,.int .i64 p.f9,.int .i64 p.f10,.string p.f11] 30)).alloc (Obj.cells #[.int .i64 0,.int .i64 0,.int .i64 0,.int .i64 0,.int .i64 0,.int .i64 0,.int .u64 0,.int .i64 0,.string ⟨#[]⟩,.int .i64 0,.int .i64 0,.string ⟨#[]⟩] 30) := ⟨_,rfl⟩
  obtain ⟨bp,hbp⟩ : ∃ bp,bp = w.heap.size := ⟨_,rfl⟩
  obtain ⟨br,hbr⟩ : ∃ br,br = w.heap.size + 1 := ⟨_,rfl⟩
  have W0 := Aside0.mk (And.intro hw0 (And.intro hbp hbr))
  have B0 : Below w.heap.size w w0 := by rw [hw0];exact below_alloc (below_alloc (Below.refl _ _) _) _
  have BP0 : Aside0 (w0.heap[bp]? = some (.cells #[.int .i64 p.f0,.int .i64 p.f1,.int .i64 p.f2,.int .i64 p.f3,.int .i64 p.f4,.int .i64 p.f5,.int .u64 p.f6,.int .i64 p.f7,.string p.f8,.int .i64 p.f9,.int .i64 p.f10,.string p.f11] 30 (0,0))) := ⟨by rw [hw0,hbp];exact blk_alloc (blk_new w _) _⟩
  have BR0 : Aside0 (w0.heap[br]? = some (.cells #[.int .i64 0,.int .i64 0,.int .i64 0,.int .i64 0,.int .i64 0,.int .i64 0,.int .u64 0,.int .i64 0,.string ⟨#[]⟩,.int .i64 0,.int .i64 0,.string ⟨#[]⟩] 30 (0,0))) := ⟨by rw [hw0,hbr];have := blk_new (w.alloc (Obj.cells #[.int .i64 p.f0,.int .i64 p.f1,.int .i64 p.f2,.int .i64 p.f3,.int .i64 p.f4,.int .i64 p.f5,.int .u64 p.f6,.int .i64 p.f7,.string p.f8,.int .i64 p.f9,.int .i64 p.f10,.string p.f11] 30)) (Obj.cells #[.int .i64 0,.int .i64 0,.int .i64 0,.int .i64 0,.int .i64 0,.int .i64 0,.int .u64 0,.int .i64 0,.string ⟨#[]⟩,.int .i64 0,.int .i64 0,.string ⟨#[]⟩] 30);rwa [World.size_alloc] at this⟩
  have D0 := Aside0.mk (h.below B0)
  have G0 := Aside0.mk (grown_of_below B0 (some b))
  have LR : Aside0 (w.heap.size ≤ br) := ⟨by omega⟩
  have RG : Aside0 (br ≠ g) := ⟨by have := GL.out;omega⟩
  have RB : Aside0 (br ≠ b) := ⟨by have := BL.out;omega⟩
  clear hw0 hbp hbr B0 h
  go_enter Try.func22,Try.ntmps22
  go_upto_region 1 with fail
  rw [← W0.out.2.2,← W0.out.2.1,← W0.out.1]
  go_wp2_with (first | (go_at_call 38;refine (is_made D0.out).mono ?_;rintro e w' ⟨rfl,rfl⟩) | (go_at_call 41;refine (asked_any self home hops n HN.out _).mono ?_;rintro e w1 ⟨rfl,hb⟩;have BP1 := Aside0.mk (blk_below BP0.out hb);have BR1 := Aside0.mk (blk_below BR0.out hb);have D1 := Aside0.mk (D0.out.below hb);have G1 := Aside0.mk (G0.out.trans (grown_of_below hb (some b)));clear hb;have r0_w1 : w1.cell? ⟨br,0,none⟩ = some (.int .i64 0) := (blk_cell BR1.out 0).trans rfl;have r1_w1 : w1.cell? ⟨br,1,none⟩ = some (.int .i64 0) := (blk_cell BR1.out 1).trans rfl;have r2_w1 : w1.cell? ⟨br,2,none⟩ = some (.int .i64 0) := (blk_cell BR1.out 2).trans rfl;have r3_w1 : w1.cell? ⟨br,3,none⟩ = some (.int .i64 0) := (blk_cell BR1.out 3).trans rfl;have r4_w1 : w1.cell? ⟨br,4,none⟩ = some (.int .i64 0) := (blk_cell BR1.out 4).trans rfl;have r5_w1 : w1.cell? ⟨br,5,none⟩ = some (.int .i64 0) := (blk_cell BR1.out 5).trans rfl;have r6_w1 : w1.cell? ⟨br,6,none⟩ = some (.int .u64 0) := (blk_cell BR1.out 6).trans rfl;have r7_w1 : w1.cell? ⟨br,7,none⟩ = some (.int .i64 0) := (blk_cell BR1.out 7).trans rfl;have r8_w1 : w1.cell? ⟨br,8,none⟩ = some (.string ⟨#[]⟩) := (blk_cell BR1.out 8).trans rfl;have r9_w1 : w1.cell? ⟨br,9,none⟩ = some (.int .i64 0) := (blk_cell BR1.out 9).trans rfl;have r10_w1 : w1.cell? ⟨br,10,none⟩ = some (.int .i64 0) := (blk_cell BR1.out 10).trans rfl;have r11_w1 : w1.cell? ⟨br,11,none⟩ = some (.string ⟨#[]⟩) := (blk_cell BR1.out 11).trans rfl;have ltr_w1 := blk_lt BR1.out;have zr0_w1 := blk_frozen BR1.out 0;have zr1_w1 := blk_frozen BR1.out 1;have zr2_w1 := blk_frozen BR1.out 2;have zr3_w1 := blk_frozen BR1.out 3;have zr4_w1 := blk_frozen BR1.out 4;have zr5_w1 := blk_frozen BR1.out 5;have zr6_w1 := blk_frozen BR1.out 6;have zr7_w1 := blk_frozen BR1.out 7;have zr8_w1 := blk_frozen BR1.out 8;have zr9_w1 := blk_frozen BR1.out 9;have zr10_w1 := blk_frozen BR1.out 10;have zr11_w1 := blk_frozen BR1.out 11))
  obtain ⟨W,hW⟩ : ∃ W,W = ((((((((((((w1.setCell ⟨br,0,none⟩ (.int .i64 0)).setCell ⟨br,1,none⟩ (.int .i64 0)).setCell ⟨br,2,none⟩ (.int .i64 0)).setCell ⟨br,3,none⟩ (.int .i64 0)).setCell ⟨br,4,none⟩ (.int .i64 0)).setCell ⟨br,5,none⟩ (.int .i64 0)).setCell ⟨br,6,none⟩ (.int .u64 0)).setCell ⟨br,7,none⟩ (.int .i64 0)).setCell ⟨br,8,none⟩ (.string ⟨#[]⟩)).setCell ⟨br,9,none⟩ (.int .i64 0)).setCell ⟨br,10,none⟩ (.int .i64 0)).setCell ⟨br,11,none⟩ (.string ⟨#[]⟩)) := ⟨_,rfl⟩
  have BW : W.heap[br]? = some (.cells #[.int .i64 0,.int .i64 0,.int .i64 0,.int .i64 0,.int .i64 0,.int .i64 0,.int .u64 0,.int .i64 0,.string ⟨#[]⟩,.int .i64 0,.int .i64 0,.string ⟨#[]⟩] 30 (0,0)) := by rw [hW];exact blk_set12 BR1.out _ _ _ _ _ _ _ _ _ _ _ _
  have GW : w.grownBy W (some b) := by rw [hW];exact grown_set12 G1.out LR.out _ _ _ _ _ _ _ _ _ _ _ _
  have DW := DirAt.set12 D1.out RG.out RB.out (.int .i64 0) (.int .i64 0) (.int .i64 0) (.int .i64 0) (.int .i64 0) (.int .i64 0) (.int .u64 0) (.int .i64 0) (.string ⟨#[]⟩) (.int .i64 0) (.int .i64 0) (.string ⟨#[]⟩)
  rw [← hW] at DW ⊢
  clear hW
  have g0 : W.cell? ⟨br,0,none⟩ = some (.int .i64 0) := (blk_cell BW 0).trans rfl
  have g1 : W.cell? ⟨br,1,none⟩ = some (.int .i64 0) := (blk_cell BW 1).trans rfl
  have g2 : W.cell? ⟨br,2,none⟩ = some (.int .i64 0) := (blk_cell BW 2).trans rfl
  have g3 : W.cell? ⟨br,3,none⟩ = some (.int .i64 0) := (blk_cell BW 3).trans rfl
  have g4 : W.cell? ⟨br,4,none⟩ = some (.int .i64 0) := (blk_cell BW 4).trans rfl
  have g5 : W.cell? ⟨br,5,none⟩ = some (.int .i64 0) := (blk_cell BW 5).trans rfl
  have g6 : W.cell? ⟨br,6,none⟩ = some (.int .u64 0) := (blk_cell BW 6).trans rfl
  have g7 : W.cell? ⟨br,7,none⟩ = some (.int .i64 0) := (blk_cell BW 7).trans rfl
  have g8 : W.cell? ⟨br,8,none⟩ = some (.string ⟨#[]⟩) := (blk_cell BW 8).trans rfl
  have g9 : W.cell? ⟨br,9,none⟩ = some (.int .i64 0) := (blk_cell BW 9).trans rfl
  have g10 : W.cell? ⟨br,10,none⟩ = some (.int .i64 0) := (blk_cell BW 10).trans rfl
  have g11 : W.cell? ⟨br,11,none⟩ = some (.string ⟨#[]⟩) := (blk_cell BW 11).trans rfl
  refine bodyPost_ret (v := .tuple #[pkV z30,.bool false,.int .i64 n]) (by simp [results,Try.results22,go_sem,pkV,z30,g0,g1,g2,g3,g4,g5,g6,g7,g8,g9,g10,g11]) rfl (serve_no ES.out TS.out LS.out DW GW)
set_option maxHeartbeats 4000000 in
set_option maxRecDepth 100000 in
theorem serve_may {w : World} {g b : Nat} {life : Int} {L : List S57} (h : DirAt w g b life L) (self home hops : Int) (p : S30) (hn : askedV self home hops = 0) (hm : mayP p = false) :
    Calls Try.prog 22 #[.pointer (some ⟨g,0,none⟩),.int .i64 self,.int .i64 home,.int .i64 hops,.agg #[.int .i64 p.f0,.int .i64 p.f1,.int .i64 p.f2,.int .i64 p.f3,.int .i64 p.f4,.int .i64 p.f5,.int .u64 p.f6,.int .i64 p.f7,.string p.f8,.int .i64 p.f9,.int .i64 p.f10,.string p.f11]] w fun e w' => ServeOut w g b life L self home hops p e w' := by
  have hu30 := Try.underlying30
  have hu87 := Try.underlying87
  have HN := Aside0.mk hn
  have MP := Aside0.mk hm
  have sv : servable self p = false := by unfold servable;simp [hm]
  have ES : Aside0 (serveE L self home hops p = 60) := ⟨by unfold serveE;rw [hn,if_neg (by simp),if_pos sv]⟩
  have TS : Aside0 (serveT self home hops p = false) := ⟨by unfold serveT;rw [sv];simp⟩
  have LS : Aside0 (serveL life L self home hops p = L) := ⟨by unfold serveL;rw [if_neg (fun h => by rw [sv] at h;cases h.2.1)]⟩
  clear hn sv hm
  have GL := Aside0.mk (blk_lt h.1)
  have BL := Aside0.mk h.2.lt
  obtain ⟨w0,hw0⟩ : ∃ w0,w0 = (w.alloc (Obj.cells #[.int .i64 p.f0,.int .i64 p.f1,.int .i64 p.f2,.int .i64 p.f3,.int .i64 p.f4,.int .i64 p.f5,.int .u64 p.f6,.int .i64 p.f7,.string p.f8,.int .i64 p.f9,.int .i64 p.f10,.string p.f11] 30)).alloc (Obj.cells #[.int .i64 0,.int .i64 0,.int .i64 0,.int .i64 0,.int .i64 0,.int .i64 0,.int .u64 0,.int .i64 0,.string ⟨#[]⟩,.int .i64 0,.int .i64 0,.string ⟨#[]⟩] 30) := ⟨_,rfl⟩
  obtain ⟨bp,hbp⟩ : ∃ bp,bp = w.heap.size := ⟨_,rfl⟩
  obtain ⟨br,hbr⟩ : ∃ br,br = w.heap.size + 1 := ⟨_,rfl⟩
  have W0 := Aside0.mk (And.intro hw0 (And.intro hbp hbr))
  have B0 : Below w.heap.size w w0 := by rw [hw0];exact below_alloc (below_alloc (Below.refl _ _) _) _
  have BP0 : Aside0 (w0.heap[bp]? = some (.cells #[.int .i64 p.f0,.int .i64 p.f1,.int .i64 p.f2,.int .i64 p.f3,.int .i64 p.f4,.int .i64 p.f5,.int .u64 p.f6,.int .i64 p.f7,.string p.f8,.int .i64 p.f9,.int .i64 p.f10,.string p.f11] 30 (0,0))) := ⟨by rw [hw0,hbp];exact blk_alloc (blk_new w _) _⟩
  have BR0 : Aside0 (w0.heap[br]? = some (.cells #[.int .i64 0,.int .i64 0,.int .i64 0,.int .i64 0,.int .i64 0,.int .i64 0,.int .u64 0,.int .i64 0,.string ⟨#[]⟩,.int .i64 0,.int .i64 0,.string ⟨#[]⟩] 30 (0,0))) := ⟨by rw [hw0,hbr];have := blk_new (w.alloc (Obj.cells #[.int .i64 p.f0,.int .i64 p.f1,.int .i64 p.f2,.int .i64 p.f3,.int .i64 p.f4,.int .i64 p.f5,.int .u64 p.f6,.int .i64 p.f7,.string p.f8,.int .i64 p.f9,.int .i64 p.f10,.string p.f11] 30)) (Obj.cells #[.int .i64 0,.int .i64 0,.int .i64 0,.int .i64 0,.int .i64 0,.int .i64 0,.int .u64 0,.int .i64 0,.string ⟨#[]⟩,.int .i64 0,.int .i64 0,.string ⟨#[]⟩] 30);rwa [World.size_alloc] at this⟩
  have D0 := Aside0.mk (h.below B0)
  have G0 := Aside0.mk (grown_of_below B0 (some b))
  have LR : Aside0 (w.heap.size ≤ br) := ⟨by omega⟩
  have RG : Aside0 (br ≠ g) := ⟨by have := GL.out;omega⟩
  have RB : Aside0 (br ≠ b) := ⟨by have := BL.out;omega⟩
  clear hw0 hbp hbr B0 h
  go_enter Try.func22,Try.ntmps22
  go_upto_region 1 with fail
  rw [← W0.out.2.2,← W0.out.2.1,← W0.out.1]
  go_wp2_with (first | (go_at_call 38;refine (is_made D0.out).mono ?_;rintro e w' ⟨rfl,rfl⟩) | (go_at_call 41;refine (asked_any self home hops 0 HN.out _).mono ?_;rintro e w1 ⟨rfl,hb⟩;have BP1 := Aside0.mk (blk_below BP0.out hb);have BR1 := Aside0.mk (blk_below BR0.out hb);have D1 := Aside0.mk (D0.out.below hb);have G1 := Aside0.mk (G0.out.trans (grown_of_below hb (some b)));clear hb;have p0_w1 : w1.cell? ⟨bp,0,none⟩ = some (.int .i64 p.f0) := (blk_cell BP1.out 0).trans rfl;have p1_w1 : w1.cell? ⟨bp,1,none⟩ = some (.int .i64 p.f1) := (blk_cell BP1.out 1).trans rfl;have p2_w1 : w1.cell? ⟨bp,2,none⟩ = some (.int .i64 p.f2) := (blk_cell BP1.out 2).trans rfl;have p3_w1 : w1.cell? ⟨bp,3,none⟩ = some (.int .i64 p.f3) := (blk_cell BP1.out 3).trans rfl;have p4_w1 : w1.cell? ⟨bp,4,none⟩ = some (.int .i64 p.f4) := (blk_cell BP1.out 4).trans rfl;have p5_w1 : w1.cell? ⟨bp,5,none⟩ = some (.int .i64 p.f5) := (blk_cell BP1.out 5).trans rfl;have p6_w1 : w1.cell? ⟨bp,6,none⟩ = some (.int .u64 p.f6) := (blk_cell BP1.out 6).trans rfl;have p7_w1 : w1.cell? ⟨bp,7,none⟩ = some (.int .i64 p.f7) := (blk_cell BP1.out 7).trans rfl;have p8_w1 : w1.cell? ⟨bp,8,none⟩ = some (.string p.f8) := (blk_cell BP1.out 8).trans rfl;have p9_w1 : w1.cell? ⟨bp,9,none⟩ = some (.int .i64 p.f9) := (blk_cell BP1.out 9).trans rfl;have p10_w1 : w1.cell? ⟨bp,10,none⟩ = some (.int .i64 p.f10) := (blk_cell BP1.out 10).trans rfl;have p11_w1 : w1.cell? ⟨bp,11,none⟩ = some (.string p.f11) := (blk_cell BP1.out 11).trans rfl;have ltp_w1 := blk_lt BP1.out) | (go_at_call 42;refine (check4_any p false MP.out _).mono ?_;rintro e w2 ⟨rfl,hb⟩;have BP2 := Aside0.mk (blk_below BP1.out hb);have BR2 := Aside0.mk (blk_below BR1.out hb);have D2 := Aside0.mk (D1.out.below hb);have G2 := Aside0.mk (G1.out.trans (grown_of_below hb (some b)));clear hb;have p0_w2 : w2.cell? ⟨bp,0,none⟩ = some (.int .i64 p.f0) := (blk_cell BP2.out 0).trans rfl;have p1_w2 : w2.cell? ⟨bp,1,none⟩ = some (.int .i64 p.f1) := (blk_cell BP2.out 1).trans rfl;have p2_w2 : w2.cell? ⟨bp,2,none⟩ = some (.int .i64 p.f2) := (blk_cell BP2.out 2).trans rfl;have p3_w2 : w2.cell? ⟨bp,3,none⟩ = some (.int .i64 p.f3) := (blk_cell BP2.out 3).trans rfl;have p4_w2 : w2.cell? ⟨bp,4,none⟩ = some (.int .i64 p.f4) := (blk_cell BP2.out 4).trans rfl;have p5_w2 : w2.cell? ⟨bp,5,none⟩ = some (.int .i64 p.f5) := (blk_cell BP2.out 5).trans rfl;have p6_w2 : w2.cell? ⟨bp,6,none⟩ = some (.int .u64 p.f6) := (blk_cell BP2.out 6).trans rfl;have p7_w2 : w2.cell? ⟨bp,7,none⟩ = some (.int .i64 p.f7) := (blk_cell BP2.out 7).trans rfl;have p8_w2 : w2.cell? ⟨bp,8,none⟩ = some (.string p.f8) := (blk_cell BP2.out 8).trans rfl;have p9_w2 : w2.cell? ⟨bp,9,none⟩ = some (.int .i64 p.f9) := (blk_cell BP2.out 9).trans rfl;have p10_w2 : w2.cell? ⟨bp,10,none⟩ = some (.int .i64 p.f10) := (blk_cell BP2.out 10).trans rfl;have p11_w2 : w2.cell? ⟨bp,11,none⟩ = some (.string p.f11) := (blk_cell BP2.out 11).trans rfl;have ltp_w2 := blk_lt BP2.out;have r0_w2 : w2.cell? ⟨br,0,none⟩ = some (.int .i64 0) := (blk_cell BR2.out 0).trans rfl;have r1_w2 : w2.cell? ⟨br,1,none⟩ = some (.int .i64 0) := (blk_cell BR2.out 1).trans rfl;have r2_w2 : w2.cell? ⟨br,2,none⟩ = some (.int .i64 0) := (blk_cell BR2.out 2).trans rfl;have r3_w2 : w2.cell? ⟨br,3,none⟩ = some (.int .i64 0) := (blk_cell BR2.out 3).trans rfl;have r4_w2 : w2.cell? ⟨br,4,none⟩ = some (.int .i64 0) := (blk_cell BR2.out 4).trans rfl;have r5_w2 : w2.cell? ⟨br,5,none⟩ = some (.int .i64 0) := (blk_cell BR2.out 5).trans rfl;have r6_w2 : w2.cell? ⟨br,6,none⟩ = some (.int .u64 0) := (blk_cell BR2.out 6).trans rfl;have r7_w2 : w2.cell? ⟨br,7,none⟩ = some (.int .i64 0) := (blk_cell BR2.out 7).trans rfl;have r8_w2 : w2.cell? ⟨br,8,none⟩ = some (.string ⟨#[]⟩) := (blk_cell BR2.out 8).trans rfl;have r9_w2 : w2.cell? ⟨br,9,none⟩ = some (.int .i64 0) := (blk_cell BR2.out 9).trans rfl;have r10_w2 : w2.cell? ⟨br,10,none⟩ = some (.int .i64 0) := (blk_cell BR2.out 10).trans rfl;have r11_w2 : w2.cell? ⟨br,11,none⟩ = some (.string ⟨#[]⟩) := (blk_cell BR2.out 11).trans rfl;have ltr_w2 := blk_lt BR2.out;have zr0_w2 := blk_frozen BR2.out 0;have zr1_w2 := blk_frozen BR2.out 1;have zr2_w2 := blk_frozen BR2.out 2;have zr3_w2 := blk_frozen BR2.out 3;have zr4_w2 := blk_frozen BR2.out 4;have zr5_w2 := blk_frozen BR2.out 5;have zr6_w2 := blk_frozen BR2.out 6;have zr7_w2 := blk_frozen BR2.out 7;have zr8_w2 := blk_frozen BR2.out 8;have zr9_w2 := blk_frozen BR2.out 9;have zr10_w2 := blk_frozen BR2.out 10;have zr11_w2 := blk_frozen BR2.out 11))
  obtain ⟨W,hW⟩ : ∃ W,W = ((((((((((((w2.setCell ⟨br,0,none⟩ (.int .i64 0)).setCell ⟨br,1,none⟩ (.int .i64 0)).setCell ⟨br,2,none⟩ (.int .i64 0)).setCell ⟨br,3,none⟩ (.int .i64 0)).setCell ⟨br,4,none⟩ (.int .i64 0)).setCell ⟨br,5,none⟩ (.int .i64 0)).setCell ⟨br,6,none⟩ (.int .u64 0)).setCell ⟨br,7,none⟩ (.int .i64 0)).setCell ⟨br,8,none⟩ (.string ⟨#[]⟩)).setCell ⟨br,9,none⟩ (.int .i64 0)).setCell ⟨br,10,none⟩ (.int .i64 0)).setCell ⟨br,11,none⟩ (.string ⟨#[]⟩)) := ⟨_,rfl⟩
  have BW : W.heap[br]? = some (.cells #[.int .i64 0,.int .i64 0,.int .i64 0,.int .i64 0,.int .i64 0,.int .i64 0,.int .u64 0,.int .i64 0,.string ⟨#[]⟩,.int .i64 0,.int .i64 0,.string ⟨#[]⟩] 30 (0,0)) := by rw [hW];exact blk_set12 BR2.out _ _ _ _ _ _ _ _ _ _ _ _
  have GW : w.grownBy W (some b) := by rw [hW];exact grown_set12 G2.out LR.out _ _ _ _ _ _ _ _ _ _ _ _
  have DW := DirAt.set12 D2.out RG.out RB.out (.int .i64 0) (.int .i64 0) (.int .i64 0) (.int .i64 0) (.int .i64 0) (.int .i64 0) (.int .u64 0) (.int .i64 0) (.string ⟨#[]⟩) (.int .i64 0) (.int .i64 0) (.string ⟨#[]⟩)
  rw [← hW] at DW ⊢
  clear hW
  have g0 : W.cell? ⟨br,0,none⟩ = some (.int .i64 0) := (blk_cell BW 0).trans rfl
  have g1 : W.cell? ⟨br,1,none⟩ = some (.int .i64 0) := (blk_cell BW 1).trans rfl
  have g2 : W.cell? ⟨br,2,none⟩ = some (.int .i64 0) := (blk_cell BW 2).trans rfl
  have g3 : W.cell? ⟨br,3,none⟩ = some (.int .i64 0) := (blk_cell BW 3).trans rfl
  have g4 : W.cell? ⟨br,4,none⟩ = some (.int .i64 0) := (blk_cell BW 4).trans rfl
  have g5 : W.cell? ⟨br,5,none⟩ = some (.int .i64 0) := (blk_cell BW 5).trans rfl
  have g6 : W.cell? ⟨br,6,none⟩ = some (.int .u64 0) := (blk_cell BW 6).trans rfl
  have g7 : W.cell? ⟨br,7,none⟩ = some (.int .i64 0) := (blk_cell BW 7).trans rfl
  have g8 : W.cell? ⟨br,8,none⟩ = some (.string ⟨#[]⟩) := (blk_cell BW 8).trans rfl
  have g9 : W.cell? ⟨br,9,none⟩ = some (.int .i64 0) := (blk_cell BW 9).trans rfl
  have g10 : W.cell? ⟨br,10,none⟩ = some (.int .i64 0) := (blk_cell BW 10).trans rfl
  have g11 : W.cell? ⟨br,11,none⟩ = some (.string ⟨#[]⟩) := (blk_cell BW 11).trans rfl
  refine bodyPost_ret (v := .tuple #[pkV z30,.bool false,.int .i64 60]) (by simp [results,Try.results22,go_sem,pkV,z30,g0,g1,g2,g3,g4,g5,g6,g7,g8,g9,g10,g11]) rfl (serve_no ES.out TS.out LS.out DW GW)
set_option maxHeartbeats 4000000 in
set_option maxRecDepth 100000 in
theorem serve_kind {w : World} {g b : Nat} {life : Int} {L : List S57} (h : DirAt w g b life L) (self home hops : Int) (p : S30) (hn : askedV self home hops = 0) (hm : mayP p = true) (h2 : p.f0 ≠ 2) (h3 : p.f0 ≠ 3) :
    Calls Try.prog 22 #[.pointer (some ⟨g,0,none⟩),.int .i64 self,.int .i64 home,.int .i64 hops,.agg #[.int .i64 p.f0,.int .i64 p.f1,.int .i64 p.f2,.int .i64 p.f3,.int .i64 p.f4,.int .i64 p.f5,.int .u64 p.f6,.int .i64 p.f7,.string p.f8,.int .i64 p.f9,.int .i64 p.f10,.string p.f11]] w fun e w' => ServeOut w g b life L self home hops p e w' := by
  have hu30 := Try.underlying30
  have hu87 := Try.underlying87
  have HN := Aside0.mk hn
  have MP := Aside0.mk hm
  have sv : servable self p = false := by unfold servable;simp [h2,h3]
  have ES : Aside0 (serveE L self home hops p = 60) := ⟨by unfold serveE;rw [hn,if_neg (by simp),if_pos sv]⟩
  have TS : Aside0 (serveT self home hops p = false) := ⟨by unfold serveT;rw [sv];simp⟩
  have LS : Aside0 (serveL life L self home hops p = L) := ⟨by unfold serveL;rw [if_neg (fun h => by rw [sv] at h;cases h.2.1)]⟩
  clear hn sv hm
  have k2 : (p.f0 != 2) = true := by simpa using h2
  have k3 : (p.f0 != 3) = true := by simpa using h3
  clear h2 h3
  have GL := Aside0.mk (blk_lt h.1)
  have BL := Aside0.mk h.2.lt
  obtain ⟨w0,hw0⟩ : ∃ w0,w0 = (w.alloc (Obj.cells #[.int .i64 p.f0,.int .i64 p.f1,.int .i64 p.f2,.int .i64 p.f3,.int .i64 p.f4,.int .i64 p.f5,.int .u64 p.f6,.int .i64 p.f7,.string p.f8,.int .i64 p.f9,.int .i64 p.f10,.string p.f11] 30)).alloc (Obj.cells #[.int .i64 0,.int .i64 0,.int .i64 0,.int .i64 0,.int .i64 0,.int .i64 0,.int .u64 0,.int .i64 0,.string ⟨#[]⟩,.int .i64 0,.int .i64 0,.string ⟨#[]⟩] 30) := ⟨_,rfl⟩
  obtain ⟨bp,hbp⟩ : ∃ bp,bp = w.heap.size := ⟨_,rfl⟩
  obtain ⟨br,hbr⟩ : ∃ br,br = w.heap.size + 1 := ⟨_,rfl⟩
  have W0 := Aside0.mk (And.intro hw0 (And.intro hbp hbr))
  have B0 : Below w.heap.size w w0 := by rw [hw0];exact below_alloc (below_alloc (Below.refl _ _) _) _
  have BP0 : Aside0 (w0.heap[bp]? = some (.cells #[.int .i64 p.f0,.int .i64 p.f1,.int .i64 p.f2,.int .i64 p.f3,.int .i64 p.f4,.int .i64 p.f5,.int .u64 p.f6,.int .i64 p.f7,.string p.f8,.int .i64 p.f9,.int .i64 p.f10,.string p.f11] 30 (0,0))) := ⟨by rw [hw0,hbp];exact blk_alloc (blk_new w _) _⟩
  have BR0 : Aside0 (w0.heap[br]? = some (.cells #[.int .i64 0,.int .i64 0,.int .i64 0,.int .i64 0,.int .i64 0,.int .i64 0,.int .u64 0,.int .i64 0,.string ⟨#[]⟩,.int .i64 0,.int .i64 0,.string ⟨#[]⟩] 30 (0,0))) := ⟨by rw [hw0,hbr];have := blk_new (w.alloc (Obj.cells #[.int .i64 p.f0,.int .i64 p.f1,.int .i64 p.f2,.int .i64 p.f3,.int .i64 p.f4,.int .i64 p.f5,.int .u64 p.f6,.int .i64 p.f7,.string p.f8,.int .i64 p.f9,.int .i64 p.f10,.string p.f11] 30)) (Obj.cells #[.int .i64 0,.int .i64 0,.int .i64 0,.int .i64 0,.int .i64 0,.int .i64 0,.int .u64 0,.int .i64 0,.string ⟨#[]⟩,.int .i64 0,.int .i64 0,.string ⟨#[]⟩] 30);rwa [World.size_alloc] at this⟩
  have D0 := Aside0.mk (h.below B0)
  have G0 := Aside0.mk (grown_of_below B0 (some b))
  have LR : Aside0 (w.heap.size ≤ br) := ⟨by omega⟩
  have RG : Aside0 (br ≠ g) := ⟨by have := GL.out;omega⟩
  have RB : Aside0 (br ≠ b) := ⟨by have := BL.out;omega⟩
  clear hw0 hbp hbr B0 h
  go_enter Try.func22,Try.ntmps22
  go_upto_region 1 with fail
  rw [← W0.out.2.2,← W0.out.2.1,← W0.out.1]
  go_wp2_with (first | (go_at_call 38;refine (is_made D0.out).mono ?_;rintro e w' ⟨rfl,rfl⟩) | (go_at_call 41;refine (asked_any self home hops 0 HN.out _).mono ?_;rintro e w1 ⟨rfl,hb⟩;have BP1 := Aside0.mk (blk_below BP0.out hb);have BR1 := Aside0.mk (blk_below BR0.out hb);have D1 := Aside0.mk (D0.out.below hb);have G1 := Aside0.mk (G0.out.trans (grown_of_below hb (some b)));clear hb;have p0_w1 : w1.cell? ⟨bp,0,none⟩ = some (.int .i64 p.f0) := (blk_cell BP1.out 0).trans rfl;have p1_w1 : w1.cell? ⟨bp,1,none⟩ = some (.int .i64 p.f1) := (blk_cell BP1.out 1).trans rfl;have p2_w1 : w1.cell? ⟨bp,2,none⟩ = some (.int .i64 p.f2) := (blk_cell BP1.out 2).trans rfl;have p3_w1 : w1.cell? ⟨bp,3,none⟩ = some (.int .i64 p.f3) := (blk_cell BP1.out 3).trans rfl;have p4_w1 : w1.cell? ⟨bp,4,none⟩ = some (.int .i64 p.f4) := (blk_cell BP1.out 4).trans rfl;have p5_w1 : w1.cell? ⟨bp,5,none⟩ = some (.int .i64 p.f5) := (blk_cell BP1.out 5).trans rfl;have p6_w1 : w1.cell? ⟨bp,6,none⟩ = some (.int .u64 p.f6) := (blk_cell BP1.out 6).trans rfl;have p7_w1 : w1.cell? ⟨bp,7,none⟩ = some (.int .i64 p.f7) := (blk_cell BP1.out 7).trans rfl;have p8_w1 : w1.cell? ⟨bp,8,none⟩ = some (.string p.f8) := (blk_cell BP1.out 8).trans rfl;have p9_w1 : w1.cell? ⟨bp,9,none⟩ = some (.int .i64 p.f9) := (blk_cell BP1.out 9).trans rfl;have p10_w1 : w1.cell? ⟨bp,10,none⟩ = some (.int .i64 p.f10) := (blk_cell BP1.out 10).trans rfl;have p11_w1 : w1.cell? ⟨bp,11,none⟩ = some (.string p.f11) := (blk_cell BP1.out 11).trans rfl;have ltp_w1 := blk_lt BP1.out) | (go_at_call 42;refine (check4_any p true MP.out _).mono ?_;rintro e w2 ⟨rfl,hb⟩;have BP2 := Aside0.mk (blk_below BP1.out hb);have BR2 := Aside0.mk (blk_below BR1.out hb);have D2 := Aside0.mk (D1.out.below hb);have G2 := Aside0.mk (G1.out.trans (grown_of_below hb (some b)));clear hb;have p0_w2 : w2.cell? ⟨bp,0,none⟩ = some (.int .i64 p.f0) := (blk_cell BP2.out 0).trans rfl;have p1_w2 : w2.cell? ⟨bp,1,none⟩ = some (.int .i64 p.f1) := (blk_cell BP2.out 1).trans rfl;have p2_w2 : w2.cell? ⟨bp,2,none⟩ = some (.int .i64 p.f2) := (blk_cell BP2.out 2).trans rfl;have p3_w2 : w2.cell? ⟨bp,3,none⟩ = some (.int .i64 p.f3) := (blk_cell BP2.out 3).trans rfl;have p4_w2 : w2.cell? ⟨bp,4,none⟩ = some (.int .i64 p.f4) := (blk_cell BP2.out 4).trans rfl;have p5_w2 : w2.cell? ⟨bp,5,none⟩ = some (.int .i64 p.f5) := (blk_cell BP2.out 5).trans rfl;have p6_w2 : w2.cell? ⟨bp,6,none⟩ = some (.int .u64 p.f6) := (blk_cell BP2.out 6).trans rfl;have p7_w2 : w2.cell? ⟨bp,7,none⟩ = some (.int .i64 p.f7) := (blk_cell BP2.out 7).trans rfl;have p8_w2 : w2.cell? ⟨bp,8,none⟩ = some (.string p.f8) := (blk_cell BP2.out 8).trans rfl;have p9_w2 : w2.cell? ⟨bp,9,none⟩ = some (.int .i64 p.f9) := (blk_cell BP2.out 9).trans rfl;have p10_w2 : w2.cell? ⟨bp,10,none⟩ = some (.int .i64 p.f10) := (blk_cell BP2.out 10).trans rfl;have p11_w2 : w2.cell? ⟨bp,11,none⟩ = some (.string p.f11) := (blk_cell BP2.out 11).trans rfl;have ltp_w2 := blk_lt BP2.out;have r0_w2 : w2.cell? ⟨br,0,none⟩ = some (.int .i64 0) := (blk_cell BR2.out 0).trans rfl;have r1_w2 : w2.cell? ⟨br,1,none⟩ = some (.int .i64 0) := (blk_cell BR2.out 1).trans rfl;have r2_w2 : w2.cell? ⟨br,2,none⟩ = some (.int .i64 0) := (blk_cell BR2.out 2).trans rfl;have r3_w2 : w2.cell? ⟨br,3,none⟩ = some (.int .i64 0) := (blk_cell BR2.out 3).trans rfl;have r4_w2 : w2.cell? ⟨br,4,none⟩ = some (.int .i64 0) := (blk_cell BR2.out 4).trans rfl;have r5_w2 : w2.cell? ⟨br,5,none⟩ = some (.int .i64 0) := (blk_cell BR2.out 5).trans rfl;have r6_w2 : w2.cell? ⟨br,6,none⟩ = some (.int .u64 0) := (blk_cell BR2.out 6).trans rfl;have r7_w2 : w2.cell? ⟨br,7,none⟩ = some (.int .i64 0) := (blk_cell BR2.out 7).trans rfl;have r8_w2 : w2.cell? ⟨br,8,none⟩ = some (.string ⟨#[]⟩) := (blk_cell BR2.out 8).trans rfl;have r9_w2 : w2.cell? ⟨br,9,none⟩ = some (.int .i64 0) := (blk_cell BR2.out 9).trans rfl;have r10_w2 : w2.cell? ⟨br,10,none⟩ = some (.int .i64 0) := (blk_cell BR2.out 10).trans rfl;have r11_w2 : w2.cell? ⟨br,11,none⟩ = some (.string ⟨#[]⟩) := (blk_cell BR2.out 11).trans rfl;have ltr_w2 := blk_lt BR2.out;have zr0_w2 := blk_frozen BR2.out 0;have zr1_w2 := blk_frozen BR2.out 1;have zr2_w2 := blk_frozen BR2.out 2;have zr3_w2 := blk_frozen BR2.out 3;have zr4_w2 := blk_frozen BR2.out 4;have zr5_w2 := blk_frozen BR2.out 5;have zr6_w2 := blk_frozen BR2.out 6;have zr7_w2 := blk_frozen BR2.out 7;have zr8_w2 := blk_frozen BR2.out 8;have zr9_w2 := blk_frozen BR2.out 9;have zr10_w2 := blk_frozen BR2.out 10;have zr11_w2 := blk_frozen BR2.out 11))
  obtain ⟨W,hW⟩ : ∃ W,W = ((((((((((((w2.setCell ⟨br,0,none⟩ (.int .i64 0)).setCell ⟨br,1,none⟩ (.int .i64 0)).setCell ⟨br,2,none⟩ (.int .i64 0)).setCell ⟨br,3,none⟩ (.int .i64 0)).setCell ⟨br,4,none⟩ (.int .i64 0)).setCell ⟨br,5,none⟩ (.int .i64 0)).setCell ⟨br,6,none⟩ (.int .u64 0)).setCell ⟨br,7,none⟩ (.int .i64 0)).setCell ⟨br,8,none⟩ (.string ⟨#[]⟩)).setCell ⟨br,9,none⟩ (.int .i64 0)).setCell ⟨br,10,none⟩ (.int .i64 0)).setCell ⟨br,11,none⟩ (.string ⟨#[]⟩)) := ⟨_,rfl⟩
  have BW : W.heap[br]? = some (.cells #[.int .i64 0,.int .i64 0,.int .i64 0,.int .i64 0,.int .i64 0,.int .i64 0,.int .u64 0,.int .i64 0,.string ⟨#[]⟩,.int .i64 0,.int .i64 0,.string ⟨#[]⟩] 30 (0,0)) := by rw [hW];exact blk_set12 BR2.out _ _ _ _ _ _ _ _ _ _ _ _
  have GW : w.grownBy W (some b) := by rw [hW];exact grown_set12 G2.out LR.out _ _ _ _ _ _ _ _ _ _ _ _
  have DW := DirAt.set12 D2.out RG.out RB.out (.int .i64 0) (.int .i64 0) (.int .i64 0) (.int .i64 0) (.int .i64 0) (.int .i64 0) (.int .u64 0) (.int .i64 0) (.string ⟨#[]⟩) (.int .i64 0) (.int .i64 0) (.string ⟨#[]⟩)
  rw [← hW] at DW ⊢
  clear hW
  have g0 : W.cell? ⟨br,0,none⟩ = some (.int .i64 0) := (blk_cell BW 0).trans rfl
  have g1 : W.cell? ⟨br,1,none⟩ = some (.int .i64 0) := (blk_cell BW 1).trans rfl
  have g2 : W.cell? ⟨br,2,none⟩ = some (.int .i64 0) := (blk_cell BW 2).trans rfl
  have g3 : W.cell? ⟨br,3,none⟩ = some (.int .i64 0) := (blk_cell BW 3).trans rfl
  have g4 : W.cell? ⟨br,4,none⟩ = some (.int .i64 0) := (blk_cell BW 4).trans rfl
  have g5 : W.cell? ⟨br,5,none⟩ = some (.int .i64 0) := (blk_cell BW 5).trans rfl
  have g6 : W.cell? ⟨br,6,none⟩ = some (.int .u64 0) := (blk_cell BW 6).trans rfl
  have g7 : W.cell? ⟨br,7,none⟩ = some (.int .i64 0) := (blk_cell BW 7).trans rfl
  have g8 : W.cell? ⟨br,8,none⟩ = some (.string ⟨#[]⟩) := (blk_cell BW 8).trans rfl
  have g9 : W.cell? ⟨br,9,none⟩ = some (.int .i64 0) := (blk_cell BW 9).trans rfl
  have g10 : W.cell? ⟨br,10,none⟩ = some (.int .i64 0) := (blk_cell BW 10).trans rfl
  have g11 : W.cell? ⟨br,11,none⟩ = some (.string ⟨#[]⟩) := (blk_cell BW 11).trans rfl
  refine bodyPost_ret (v := .tuple #[pkV z30,.bool false,.int .i64 60]) (by simp [results,Try.results22,go_sem,pkV,z30,g0,g1,g2,g3,g4,g5,g6,g7,g8,g9,g10,g11]) rfl (serve_no ES.out TS.out LS.out DW GW)
set_option maxHeartbeats 4000000 in
set_option maxRecDepth 100000 in
theorem serve_to2 {w : World} {g b : Nat} {life : Int} {L : List S57} (h : DirAt w g b life L) (self home hops : Int) (p : S30) (hn : askedV self home hops = 0) (hm : mayP p = true) (hk : p.f0 = 2) (ht : p.f3 ≠ self) :
    Calls Try.prog 22 #[.pointer (some ⟨g,0,none⟩),.int .i64 self,.int .i64 home,.int .i64 hops,.agg #[.int .i64 p.f0,.int .i64 p.f1,.int .i64 p.f2,.int .i64 p.f3,.int .i64 p.f4,.int .i64 p.f5,.int .u64 p.f6,.int .i64 p.f7,.string p.f8,.int .i64 p.f9,.int .i64 p.f10,.string p.f11]] w fun e w' => ServeOut w g b life L self home hops p e w' := by
  have hu30 := Try.underlying30
  have hu87 := Try.underlying87
  have HN := Aside0.mk hn
  have MP := Aside0.mk hm
  have sv : servable self p = false := by unfold servable;simp [ht]
  have ES : Aside0 (serveE L self home hops p = 60) := ⟨by unfold serveE;rw [hn,if_neg (by simp),if_pos sv]⟩
  have TS : Aside0 (serveT self home hops p = false) := ⟨by unfold serveT;rw [sv];simp⟩
  have LS : Aside0 (serveL life L self home hops p = L) := ⟨by unfold serveL;rw [if_neg (fun h => by rw [sv] at h;cases h.2.1)]⟩
  clear hn sv hm
  have k2 : (p.f0 != 2) = false := by simp [hk]
  have kt : (p.f3 != self) = true := by simpa using ht
  clear hk ht
  have GL := Aside0.mk (blk_lt h.1)
  have BL := Aside0.mk h.2.lt
  obtain ⟨w0,hw0⟩ : ∃ w0,w0 = (w.alloc (Obj.cells #[.int .i64 p.f0,.int .i64 p.f1,.int .i64 p.f2,.int .i64 p.f3,.int .i64 p.f4,.int .i64 p.f5,.int .u64 p.f6,.int .i64 p.f7,.string p.f8,.int .i64 p.f9,.int .i64 p.f10,.string p.f11] 30)).alloc (Obj.cells #[.int .i64 0,.int .i64 0,.int .i64 0,.int .i64 0,.int .i64 0,.int .i64 0,.int .u64 0,.int .i64 0,.string ⟨#[]⟩,.int .i64 0,.int .i64 0,.string ⟨#[]⟩] 30) := ⟨_,rfl⟩
  obtain ⟨bp,hbp⟩ : ∃ bp,bp = w.heap.size := ⟨_,rfl⟩
  obtain ⟨br,hbr⟩ : ∃ br,br = w.heap.size + 1 := ⟨_,rfl⟩
  have W0 := Aside0.mk (And.intro hw0 (And.intro hbp hbr))
  have B0 : Below w.heap.size w w0 := by rw [hw0];exact below_alloc (below_alloc (Below.refl _ _) _) _
  have BP0 : Aside0 (w0.heap[bp]? = some (.cells #[.int .i64 p.f0,.int .i64 p.f1,.int .i64 p.f2,.int .i64 p.f3,.int .i64 p.f4,.int .i64 p.f5,.int .u64 p.f6,.int .i64 p.f7,.string p.f8,.int .i64 p.f9,.int .i64 p.f10,.string p.f11] 30 (0,0))) := ⟨by rw [hw0,hbp];exact blk_alloc (blk_new w _) _⟩
  have BR0 : Aside0 (w0.heap[br]? = some (.cells #[.int .i64 0,.int .i64 0,.int .i64 0,.int .i64 0,.int .i64 0,.int .i64 0,.int .u64 0,.int .i64 0,.string ⟨#[]⟩,.int .i64 0,.int .i64 0,.string ⟨#[]⟩] 30 (0,0))) := ⟨by rw [hw0,hbr];have := blk_new (w.alloc (Obj.cells #[.int .i64 p.f0,.int .i64 p.f1,.int .i64 p.f2,.int .i64 p.f3,.int .i64 p.f4,.int .i64 p.f5,.int .u64 p.f6,.int .i64 p.f7,.string p.f8,.int .i64 p.f9,.int .i64 p.f10,.string p.f11] 30)) (Obj.cells #[.int .i64 0,.int .i64 0,.int .i64 0,.int .i64 0,.int .i64 0,.int .i64 0,.int .u64 0,.int .i64 0,.string ⟨#[]⟩,.int .i64 0,.int .i64 0,.string ⟨#[]⟩] 30);rwa [World.size_alloc] at this⟩
  have D0 := Aside0.mk (h.below B0)
  have G0 := Aside0.mk (grown_of_below B0 (some b))
  have LR : Aside0 (w.heap.size ≤ br) := ⟨by omega⟩
  have RG : Aside0 (br ≠ g) := ⟨by have := GL.out;omega⟩
  have RB : Aside0 (br ≠ b) := ⟨by have := BL.out;omega⟩
  clear hw0 hbp hbr B0 h
  go_enter Try.func22,Try.ntmps22
  go_upto_region 1 with fail
  rw [← W0.out.2.2,← W0.out.2.1,← W0.out.1]
  go_wp2_with (first | (go_at_call 38;refine (is_made D0.out).mono ?_;rintro e w' ⟨rfl,rfl⟩) | (go_at_call 41;refine (asked_any self home hops 0 HN.out _).mono ?_;rintro e w1 ⟨rfl,hb⟩;have BP1 := Aside0.mk (blk_below BP0.out hb);have BR1 := Aside0.mk (blk_below BR0.out hb);have D1 := Aside0.mk (D0.out.below hb);have G1 := Aside0.mk (G0.out.trans (grown_of_below hb (some b)));clear hb;have p0_w1 : w1.cell? ⟨bp,0,none⟩ = some (.int .i64 p.f0) := (blk_cell BP1.out 0).trans rfl;have p1_w1 : w1.cell? ⟨bp,1,none⟩ = some (.int .i64 p.f1) := (blk_cell BP1.out 1).trans rfl;have p2_w1 : w1.cell? ⟨bp,2,none⟩ = some (.int .i64 p.f2) := (blk_cell BP1.out 2).trans rfl;have p3_w1 : w1.cell? ⟨bp,3,none⟩ = some (.int .i64 p.f3) := (blk_cell BP1.out 3).trans rfl;have p4_w1 : w1.cell? ⟨bp,4,none⟩ = some (.int .i64 p.f4) := (blk_cell BP1.out 4).trans rfl;have p5_w1 : w1.cell? ⟨bp,5,none⟩ = some (.int .i64 p.f5) := (blk_cell BP1.out 5).trans rfl;have p6_w1 : w1.cell? ⟨bp,6,none⟩ = some (.int .u64 p.f6) := (blk_cell BP1.out 6).trans rfl;have p7_w1 : w1.cell? ⟨bp,7,none⟩ = some (.int .i64 p.f7) := (blk_cell BP1.out 7).trans rfl;have p8_w1 : w1.cell? ⟨bp,8,none⟩ = some (.string p.f8) := (blk_cell BP1.out 8).trans rfl;have p9_w1 : w1.cell? ⟨bp,9,none⟩ = some (.int .i64 p.f9) := (blk_cell BP1.out 9).trans rfl;have p10_w1 : w1.cell? ⟨bp,10,none⟩ = some (.int .i64 p.f10) := (blk_cell BP1.out 10).trans rfl;have p11_w1 : w1.cell? ⟨bp,11,none⟩ = some (.string p.f11) := (blk_cell BP1.out 11).trans rfl;have ltp_w1 := blk_lt BP1.out) | (go_at_call 42;refine (check4_any p true MP.out _).mono ?_;rintro e w2 ⟨rfl,hb⟩;have BP2 := Aside0.mk (blk_below BP1.out hb);have BR2 := Aside0.mk (blk_below BR1.out hb);have D2 := Aside0.mk (D1.out.below hb);have G2 := Aside0.mk (G1.out.trans (grown_of_below hb (some b)));clear hb;have p0_w2 : w2.cell? ⟨bp,0,none⟩ = some (.int .i64 p.f0) := (blk_cell BP2.out 0).trans rfl;have p1_w2 : w2.cell? ⟨bp,1,none⟩ = some (.int .i64 p.f1) := (blk_cell BP2.out 1).trans rfl;have p2_w2 : w2.cell? ⟨bp,2,none⟩ = some (.int .i64 p.f2) := (blk_cell BP2.out 2).trans rfl;have p3_w2 : w2.cell? ⟨bp,3,none⟩ = some (.int .i64 p.f3) := (blk_cell BP2.out 3).trans rfl;have p4_w2 : w2.cell? ⟨bp,4,none⟩ = some (.int .i64 p.f4) := (blk_cell BP2.out 4).trans rfl;have p5_w2 : w2.cell? ⟨bp,5,none⟩ = some (.int .i64 p.f5) := (blk_cell BP2.out 5).trans rfl;have p6_w2 : w2.cell? ⟨bp,6,none⟩ = some (.int .u64 p.f6) := (blk_cell BP2.out 6).trans rfl;have p7_w2 : w2.cell? ⟨bp,7,none⟩ = some (.int .i64 p.f7) := (blk_cell BP2.out 7).trans rfl;have p8_w2 : w2.cell? ⟨bp,8,none⟩ = some (.string p.f8) := (blk_cell BP2.out 8).trans rfl;have p9_w2 : w2.cell? ⟨bp,9,none⟩ = some (.int .i64 p.f9) := (blk_cell BP2.out 9).trans rfl;have p10_w2 : w2.cell? ⟨bp,10,none⟩ = some (.int .i64 p.f10) := (blk_cell BP2.out 10).trans rfl;have p11_w2 : w2.cell? ⟨bp,11,none⟩ = some (.string p.f11) := (blk_cell BP2.out 11).trans rfl;have ltp_w2 := blk_lt BP2.out;have r0_w2 : w2.cell? ⟨br,0,none⟩ = some (.int .i64 0) := (blk_cell BR2.out 0).trans rfl;have r1_w2 : w2.cell? ⟨br,1,none⟩ = some (.int .i64 0) := (blk_cell BR2.out 1).trans rfl;have r2_w2 : w2.cell? ⟨br,2,none⟩ = some (.int .i64 0) := (blk_cell BR2.out 2).trans rfl;have r3_w2 : w2.cell? ⟨br,3,none⟩ = some (.int .i64 0) := (blk_cell BR2.out 3).trans rfl;have r4_w2 : w2.cell? ⟨br,4,none⟩ = some (.int .i64 0) := (blk_cell BR2.out 4).trans rfl;have r5_w2 : w2.cell? ⟨br,5,none⟩ = some (.int .i64 0) := (blk_cell BR2.out 5).trans rfl;have r6_w2 : w2.cell? ⟨br,6,none⟩ = some (.int .u64 0) := (blk_cell BR2.out 6).trans rfl;have r7_w2 : w2.cell? ⟨br,7,none⟩ = some (.int .i64 0) := (blk_cell BR2.out 7).trans rfl;have r8_w2 : w2.cell? ⟨br,8,none⟩ = some (.string ⟨#[]⟩) := (blk_cell BR2.out 8).trans rfl;have r9_w2 : w2.cell? ⟨br,9,none⟩ = some (.int .i64 0) := (blk_cell BR2.out 9).trans rfl;have r10_w2 : w2.cell? ⟨br,10,none⟩ = some (.int .i64 0) := (blk_cell BR2.out 10).trans rfl;have r11_w2 : w2.cell? ⟨br,11,none⟩ = some (.string ⟨#[]⟩) := (blk_cell BR2.out 11).trans rfl;have ltr_w2 := blk_lt BR2.out;have zr0_w2 := blk_frozen BR2.out 0;have zr1_w2 := blk_frozen BR2.out 1;have zr2_w2 := blk_frozen BR2.out 2;have zr3_w2 := blk_frozen BR2.out 3;have zr4_w2 := blk_frozen BR2.out 4;have zr5_w2 := blk_frozen BR2.out 5;have zr6_w2 := blk_frozen BR2.out 6;have zr7_w2 := blk_frozen BR2.out 7;have zr8_w2 := blk_frozen BR2.out 8;have zr9_w2 := blk_frozen BR2.out 9;have zr10_w2 := blk_frozen BR2.out 10;have zr11_w2 := blk_frozen BR2.out 11))
  obtain ⟨W,hW⟩ : ∃ W,W = ((((((((((((w2.setCell ⟨br,0,none⟩ (.int .i64 0)).setCell ⟨br,1,none⟩ (.int .i64 0)).setCell ⟨br,2,none⟩ (.int .i64 0)).setCell ⟨br,3,none⟩ (.int .i64 0)).setCell ⟨br,4,none⟩ (.int .i64 0)).setCell ⟨br,5,none⟩ (.int .i64 0)).setCell ⟨br,6,none⟩ (.int .u64 0)).setCell ⟨br,7,none⟩ (.int .i64 0)).setCell ⟨br,8,none⟩ (.string ⟨#[]⟩)).setCell ⟨br,9,none⟩ (.int .i64 0)).setCell ⟨br,10,none⟩ (.int .i64 0)).setCell ⟨br,11,none⟩ (.string ⟨#[]⟩)) := ⟨_,rfl⟩
  have BW : W.heap[br]? = some (.cells #[.int .i64 0,.int .i64 0,.int .i64 0,.int .i64 0,.int .i64 0,.int .i64 0,.int .u64 0,.int .i64 0,.string ⟨#[]⟩,.int .i64 0,.int .i64 0,.string ⟨#[]⟩] 30 (0,0)) := by rw [hW];exact blk_set12 BR2.out _ _ _ _ _ _ _ _ _ _ _ _
  have GW : w.grownBy W (some b) := by rw [hW];exact grown_set12 G2.out LR.out _ _ _ _ _ _ _ _ _ _ _ _
  have DW := DirAt.set12 D2.out RG.out RB.out (.int .i64 0) (.int .i64 0) (.int .i64 0) (.int .i64 0) (.int .i64 0) (.int .i64 0) (.int .u64 0) (.int .i64 0) (.string ⟨#[]⟩) (.int .i64 0) (.int .i64 0) (.string ⟨#[]⟩)
  rw [← hW] at DW ⊢
  clear hW
  have g0 : W.cell? ⟨br,0,none⟩ = some (.int .i64 0) := (blk_cell BW 0).trans rfl
  have g1 : W.cell? ⟨br,1,none⟩ = some (.int .i64 0) := (blk_cell BW 1).trans rfl
  have g2 : W.cell? ⟨br,2,none⟩ = some (.int .i64 0) := (blk_cell BW 2).trans rfl
  have g3 : W.cell? ⟨br,3,none⟩ = some (.int .i64 0) := (blk_cell BW 3).trans rfl
  have g4 : W.cell? ⟨br,4,none⟩ = some (.int .i64 0) := (blk_cell BW 4).trans rfl
  have g5 : W.cell? ⟨br,5,none⟩ = some (.int .i64 0) := (blk_cell BW 5).trans rfl
  have g6 : W.cell? ⟨br,6,none⟩ = some (.int .u64 0) := (blk_cell BW 6).trans rfl
  have g7 : W.cell? ⟨br,7,none⟩ = some (.int .i64 0) := (blk_cell BW 7).trans rfl
  have g8 : W.cell? ⟨br,8,none⟩ = some (.string ⟨#[]⟩) := (blk_cell BW 8).trans rfl
  have g9 : W.cell? ⟨br,9,none⟩ = some (.int .i64 0) := (blk_cell BW 9).trans rfl
  have g10 : W.cell? ⟨br,10,none⟩ = some (.int .i64 0) := (blk_cell BW 10).trans rfl
  have g11 : W.cell? ⟨br,11,none⟩ = some (.string ⟨#[]⟩) := (blk_cell BW 11).trans rfl
  refine bodyPost_ret (v := .tuple #[pkV z30,.bool false,.int .i64 60]) (by simp [results,Try.results22,go_sem,pkV,z30,g0,g1,g2,g3,g4,g5,g6,g7,g8,g9,g10,g11]) rfl (serve_no ES.out TS.out LS.out DW GW)
set_option maxHeartbeats 4000000 in
set_option maxRecDepth 100000 in
theorem serve_to3 {w : World} {g b : Nat} {life : Int} {L : List S57} (h : DirAt w g b life L) (self home hops : Int) (p : S30) (hn : askedV self home hops = 0) (hm : mayP p = true) (hk : p.f0 = 3) (ht : p.f3 ≠ self) :
    Calls Try.prog 22 #[.pointer (some ⟨g,0,none⟩),.int .i64 self,.int .i64 home,.int .i64 hops,.agg #[.int .i64 p.f0,.int .i64 p.f1,.int .i64 p.f2,.int .i64 p.f3,.int .i64 p.f4,.int .i64 p.f5,.int .u64 p.f6,.int .i64 p.f7,.string p.f8,.int .i64 p.f9,.int .i64 p.f10,.string p.f11]] w fun e w' => ServeOut w g b life L self home hops p e w' := by
  have hu30 := Try.underlying30
  have hu87 := Try.underlying87
  have HN := Aside0.mk hn
  have MP := Aside0.mk hm
  have sv : servable self p = false := by unfold servable;simp [ht]
  have ES : Aside0 (serveE L self home hops p = 60) := ⟨by unfold serveE;rw [hn,if_neg (by simp),if_pos sv]⟩
  have TS : Aside0 (serveT self home hops p = false) := ⟨by unfold serveT;rw [sv];simp⟩
  have LS : Aside0 (serveL life L self home hops p = L) := ⟨by unfold serveL;rw [if_neg (fun h => by rw [sv] at h;cases h.2.1)]⟩
  clear hn sv hm
  have k2 : (p.f0 != 2) = true := by simp [hk]
  have k3 : (p.f0 != 3) = false := by simp [hk]
  have kt : (p.f3 != self) = true := by simpa using ht
  clear hk ht
  have GL := Aside0.mk (blk_lt h.1)
  have BL := Aside0.mk h.2.lt
  obtain ⟨w0,hw0⟩ : ∃ w0,w0 = (w.alloc (Obj.cells #[.int .i64 p.f0,.int .i64 p.f1,.int .i64 p.f2,.int .i64 p.f3,.int .i64 p.f4,.int .i64 p.f5,.int .u64 p.f6,.int .i64 p.f7,.string p.f8,.int .i64 p.f9,.int .i64 p.f10,.string p.f11] 30)).alloc (Obj.cells #[.int .i64 0,.int .i64 0,.int .i64 0,.int .i64 0,.int .i64 0,.int .i64 0,.int .u64 0,.int .i64 0,.string ⟨#[]⟩,.int .i64 0,.int .i64 0,.string ⟨#[]⟩] 30) := ⟨_,rfl⟩
  obtain ⟨bp,hbp⟩ : ∃ bp,bp = w.heap.size := ⟨_,rfl⟩
  obtain ⟨br,hbr⟩ : ∃ br,br = w.heap.size + 1 := ⟨_,rfl⟩
  have W0 := Aside0.mk (And.intro hw0 (And.intro hbp hbr))
  have B0 : Below w.heap.size w w0 := by rw [hw0];exact below_alloc (below_alloc (Below.refl _ _) _) _
  have BP0 : Aside0 (w0.heap[bp]? = some (.cells #[.int .i64 p.f0,.int .i64 p.f1,.int .i64 p.f2,.int .i64 p.f3,.int .i64 p.f4,.int .i64 p.f5,.int .u64 p.f6,.int .i64 p.f7,.string p.f8,.int .i64 p.f9,.int .i64 p.f10,.string p.f11] 30 (0,0))) := ⟨by rw [hw0,hbp];exact blk_alloc (blk_new w _) _⟩
  have BR0 : Aside0 (w0.heap[br]? = some (.cells #[.int .i64 0,.int .i64 0,.int .i64 0,.int .i64 0,.int .i64 0,.int .i64 0,.int .u64 0,.int .i64 0,.string ⟨#[]⟩,.int .i64 0,.int .i64 0,.string ⟨#[]⟩] 30 (0,0))) := ⟨by rw [hw0,hbr];have := blk_new (w.alloc (Obj.cells #[.int .i64 p.f0,.int .i64 p.f1,.int .i64 p.f2,.int .i64 p.f3,.int .i64 p.f4,.int .i64 p.f5,.int .u64 p.f6,.int .i64 p.f7,.string p.f8,.int .i64 p.f9,.int .i64 p.f10,.string p.f11] 30)) (Obj.cells #[.int .i64 0,.int .i64 0,.int .i64 0,.int .i64 0,.int .i64 0,.int .i64 0,.int .u64 0,.int .i64 0,.string ⟨#[]⟩,.int .i64 0,.int .i64 0,.string ⟨#[]⟩] 30);rwa [World.size_alloc] at this⟩
  have D0 := Aside0.mk (h.below B0)
  have G0 := Aside0.mk (grown_of_below B0 (some b))
  have LR : Aside0 (w.heap.size ≤ br) := ⟨by omega⟩
  have RG : Aside0 (br ≠ g) := ⟨by have := GL.out;omega⟩
  have RB : Aside0 (br ≠ b) := ⟨by have := BL.out;omega⟩
  clear hw0 hbp hbr B0 h
  go_enter Try.func22,Try.ntmps22
  go_upto_region 1 with fail
  rw [← W0.out.2.2,← W0.out.2.1,← W0.out.1]
  go_wp2_with (first | (go_at_call 38;refine (is_made D0.out).mono ?_;rintro e w' ⟨rfl,rfl⟩) | (go_at_call 41;refine (asked_any self home hops 0 HN.out _).mono ?_;rintro e w1 ⟨rfl,hb⟩;have BP1 := Aside0.mk (blk_below BP0.out hb);have BR1 := Aside0.mk (blk_below BR0.out hb);have D1 := Aside0.mk (D0.out.below hb);have G1 := Aside0.mk (G0.out.trans (grown_of_below hb (some b)));clear hb;have p0_w1 : w1.cell? ⟨bp,0,none⟩ = some (.int .i64 p.f0) := (blk_cell BP1.out 0).trans rfl;have p1_w1 : w1.cell? ⟨bp,1,none⟩ = some (.int .i64 p.f1) := (blk_cell BP1.out 1).trans rfl;have p2_w1 : w1.cell? ⟨bp,2,none⟩ = some (.int .i64 p.f2) := (blk_cell BP1.out 2).trans rfl;have p3_w1 : w1.cell? ⟨bp,3,none⟩ = some (.int .i64 p.f3) := (blk_cell BP1.out 3).trans rfl;have p4_w1 : w1.cell? ⟨bp,4,none⟩ = some (.int .i64 p.f4) := (blk_cell BP1.out 4).trans rfl;have p5_w1 : w1.cell? ⟨bp,5,none⟩ = some (.int .i64 p.f5) := (blk_cell BP1.out 5).trans rfl;have p6_w1 : w1.cell? ⟨bp,6,none⟩ = some (.int .u64 p.f6) := (blk_cell BP1.out 6).trans rfl;have p7_w1 : w1.cell? ⟨bp,7,none⟩ = some (.int .i64 p.f7) := (blk_cell BP1.out 7).trans rfl;have p8_w1 : w1.cell? ⟨bp,8,none⟩ = some (.string p.f8) := (blk_cell BP1.out 8).trans rfl;have p9_w1 : w1.cell? ⟨bp,9,none⟩ = some (.int .i64 p.f9) := (blk_cell BP1.out 9).trans rfl;have p10_w1 : w1.cell? ⟨bp,10,none⟩ = some (.int .i64 p.f10) := (blk_cell BP1.out 10).trans rfl;have p11_w1 : w1.cell? ⟨bp,11,none⟩ = some (.string p.f11) := (blk_cell BP1.out 11).trans rfl;have ltp_w1 := blk_lt BP1.out) | (go_at_call 42;refine (check4_any p true MP.out _).mono ?_;rintro e w2 ⟨rfl,hb⟩;have BP2 := Aside0.mk (blk_below BP1.out hb);have BR2 := Aside0.mk (blk_below BR1.out hb);have D2 := Aside0.mk (D1.out.below hb);have G2 := Aside0.mk (G1.out.trans (grown_of_below hb (some b)));clear hb;have p0_w2 : w2.cell? ⟨bp,0,none⟩ = some (.int .i64 p.f0) := (blk_cell BP2.out 0).trans rfl;have p1_w2 : w2.cell? ⟨bp,1,none⟩ = some (.int .i64 p.f1) := (blk_cell BP2.out 1).trans rfl;have p2_w2 : w2.cell? ⟨bp,2,none⟩ = some (.int .i64 p.f2) := (blk_cell BP2.out 2).trans rfl;have p3_w2 : w2.cell? ⟨bp,3,none⟩ = some (.int .i64 p.f3) := (blk_cell BP2.out 3).trans rfl;have p4_w2 : w2.cell? ⟨bp,4,none⟩ = some (.int .i64 p.f4) := (blk_cell BP2.out 4).trans rfl;have p5_w2 : w2.cell? ⟨bp,5,none⟩ = some (.int .i64 p.f5) := (blk_cell BP2.out 5).trans rfl;have p6_w2 : w2.cell? ⟨bp,6,none⟩ = some (.int .u64 p.f6) := (blk_cell BP2.out 6).trans rfl;have p7_w2 : w2.cell? ⟨bp,7,none⟩ = some (.int .i64 p.f7) := (blk_cell BP2.out 7).trans rfl;have p8_w2 : w2.cell? ⟨bp,8,none⟩ = some (.string p.f8) := (blk_cell BP2.out 8).trans rfl;have p9_w2 : w2.cell? ⟨bp,9,none⟩ = some (.int .i64 p.f9) := (blk_cell BP2.out 9).trans rfl;have p10_w2 : w2.cell? ⟨bp,10,none⟩ = some (.int .i64 p.f10) := (blk_cell BP2.out 10).trans rfl;have p11_w2 : w2.cell? ⟨bp,11,none⟩ = some (.string p.f11) := (blk_cell BP2.out 11).trans rfl;have ltp_w2 := blk_lt BP2.out;have r0_w2 : w2.cell? ⟨br,0,none⟩ = some (.int .i64 0) := (blk_cell BR2.out 0).trans rfl;have r1_w2 : w2.cell? ⟨br,1,none⟩ = some (.int .i64 0) := (blk_cell BR2.out 1).trans rfl;have r2_w2 : w2.cell? ⟨br,2,none⟩ = some (.int .i64 0) := (blk_cell BR2.out 2).trans rfl;have r3_w2 : w2.cell? ⟨br,3,none⟩ = some (.int .i64 0) := (blk_cell BR2.out 3).trans rfl;have r4_w2 : w2.cell? ⟨br,4,none⟩ = some (.int .i64 0) := (blk_cell BR2.out 4).trans rfl;have r5_w2 : w2.cell? ⟨br,5,none⟩ = some (.int .i64 0) := (blk_cell BR2.out 5).trans rfl;have r6_w2 : w2.cell? ⟨br,6,none⟩ = some (.int .u64 0) := (blk_cell BR2.out 6).trans rfl;have r7_w2 : w2.cell? ⟨br,7,none⟩ = some (.int .i64 0) := (blk_cell BR2.out 7).trans rfl;have r8_w2 : w2.cell? ⟨br,8,none⟩ = some (.string ⟨#[]⟩) := (blk_cell BR2.out 8).trans rfl;have r9_w2 : w2.cell? ⟨br,9,none⟩ = some (.int .i64 0) := (blk_cell BR2.out 9).trans rfl;have r10_w2 : w2.cell? ⟨br,10,none⟩ = some (.int .i64 0) := (blk_cell BR2.out 10).trans rfl;have r11_w2 : w2.cell? ⟨br,11,none⟩ = some (.string ⟨#[]⟩) := (blk_cell BR2.out 11).trans rfl;have ltr_w2 := blk_lt BR2.out;have zr0_w2 := blk_frozen BR2.out 0;have zr1_w2 := blk_frozen BR2.out 1;have zr2_w2 := blk_frozen BR2.out 2;have zr3_w2 := blk_frozen BR2.out 3;have zr4_w2 := blk_frozen BR2.out 4;have zr5_w2 := blk_frozen BR2.out 5;have zr6_w2 := blk_frozen BR2.out 6;have zr7_w2 := blk_frozen BR2.out 7;have zr8_w2 := blk_frozen BR2.out 8;have zr9_w2 := blk_frozen BR2.out 9;have zr10_w2 := blk_frozen BR2.out 10;have zr11_w2 := blk_frozen BR2.out 11))
  obtain ⟨W,hW⟩ : ∃ W,W = ((((((((((((w2.setCell ⟨br,0,none⟩ (.int .i64 0)).setCell ⟨br,1,none⟩ (.int .i64 0)).setCell ⟨br,2,none⟩ (.int .i64 0)).setCell ⟨br,3,none⟩ (.int .i64 0)).setCell ⟨br,4,none⟩ (.int .i64 0)).setCell ⟨br,5,none⟩ (.int .i64 0)).setCell ⟨br,6,none⟩ (.int .u64 0)).setCell ⟨br,7,none⟩ (.int .i64 0)).setCell ⟨br,8,none⟩ (.string ⟨#[]⟩)).setCell ⟨br,9,none⟩ (.int .i64 0)).setCell ⟨br,10,none⟩ (.int .i64 0)).setCell ⟨br,11,none⟩ (.string ⟨#[]⟩)) := ⟨_,rfl⟩
  have BW : W.heap[br]? = some (.cells #[.int .i64 0,.int .i64 0,.int .i64 0,.int .i64 0,.int .i64 0,.int .i64 0,.int .u64 0,.int .i64 0,.string ⟨#[]⟩,.int .i64 0,.int .i64 0,.string ⟨#[]⟩] 30 (0,0)) := by rw [hW];exact blk_set12 BR2.out _ _ _ _ _ _ _ _ _ _ _ _
  have GW : w.grownBy W (some b) := by rw [hW];exact grown_set12 G2.out LR.out _ _ _ _ _ _ _ _ _ _ _ _
  have DW := DirAt.set12 D2.out RG.out RB.out (.int .i64 0) (.int .i64 0) (.int .i64 0) (.int .i64 0) (.int .i64 0) (.int .i64 0) (.int .u64 0) (.int .i64 0) (.string ⟨#[]⟩) (.int .i64 0) (.int .i64 0) (.string ⟨#[]⟩)
  rw [← hW] at DW ⊢
  clear hW
  have g0 : W.cell? ⟨br,0,none⟩ = some (.int .i64 0) := (blk_cell BW 0).trans rfl
  have g1 : W.cell? ⟨br,1,none⟩ = some (.int .i64 0) := (blk_cell BW 1).trans rfl
  have g2 : W.cell? ⟨br,2,none⟩ = some (.int .i64 0) := (blk_cell BW 2).trans rfl
  have g3 : W.cell? ⟨br,3,none⟩ = some (.int .i64 0) := (blk_cell BW 3).trans rfl
  have g4 : W.cell? ⟨br,4,none⟩ = some (.int .i64 0) := (blk_cell BW 4).trans rfl
  have g5 : W.cell? ⟨br,5,none⟩ = some (.int .i64 0) := (blk_cell BW 5).trans rfl
  have g6 : W.cell? ⟨br,6,none⟩ = some (.int .u64 0) := (blk_cell BW 6).trans rfl
  have g7 : W.cell? ⟨br,7,none⟩ = some (.int .i64 0) := (blk_cell BW 7).trans rfl
  have g8 : W.cell? ⟨br,8,none⟩ = some (.string ⟨#[]⟩) := (blk_cell BW 8).trans rfl
  have g9 : W.cell? ⟨br,9,none⟩ = some (.int .i64 0) := (blk_cell BW 9).trans rfl
  have g10 : W.cell? ⟨br,10,none⟩ = some (.int .i64 0) := (blk_cell BW 10).trans rfl
  have g11 : W.cell? ⟨br,11,none⟩ = some (.string ⟨#[]⟩) := (blk_cell BW 11).trans rfl
  refine bodyPost_ret (v := .tuple #[pkV z30,.bool false,.int .i64 60]) (by simp [results,Try.results22,go_sem,pkV,z30,g0,g1,g2,g3,g4,g5,g6,g7,g8,g9,g10,g11]) rfl (serve_no ES.out TS.out LS.out DW GW)
set_option maxHeartbeats 4000000 in
set_option maxRecDepth 100000 in
theorem serve_put {w : World} {g b : Nat} {life : Int} {L : List S57} (h : DirAt w g b life L) (self home hops : Int) (p : S30) (hn : askedV self home hops = 0) (hm : mayP p = true) (hk : p.f0 = 2) (ht : p.f3 = self) :
    Calls Try.prog 22 #[.pointer (some ⟨g,0,none⟩),.int .i64 self,.int .i64 home,.int .i64 hops,.agg #[.int .i64 p.f0,.int .i64 p.f1,.int .i64 p.f2,.int .i64 p.f3,.int .i64 p.f4,.int .i64 p.f5,.int .u64 p.f6,.int .i64 p.f7,.string p.f8,.int .i64 p.f9,.int .i64 p.f10,.string p.f11]] w fun e w' => ServeOut w g b life L self home hops p e w' := by
  have hu30 := Try.underlying30
  have hu87 := Try.underlying87
  have HN := Aside0.mk hn
  have MP := Aside0.mk hm
  have sv : servable self p = true := by unfold servable;simp [hm,hk,ht]
  have ES : Aside0 (serveE L self home hops p = putE L p.f8 p.f9 p.f10) := ⟨by unfold serveE;rw [hn,if_neg (by simp),if_neg (by rw [sv];simp),if_pos hk]⟩
  have TS : Aside0 (serveT self home hops p = false) := ⟨by unfold serveT;rw [hk];simp⟩
  have LS : Aside0 (serveL life L self home hops p = putL life L p.f8 p.f9 p.f10) := ⟨by unfold serveL;rw [if_pos ⟨hn,sv,hk⟩]⟩
  have k2 : (p.f0 != 2) = false := by simp [hk]
  have k2e : (p.f0 == 2) = true := by simp [hk]
  have kt : (p.f3 != self) = false := by simp [ht]
  clear hn hm hk ht sv
  have GL := Aside0.mk (blk_lt h.1)
  have BL := Aside0.mk h.2.lt
  obtain ⟨w0,hw0⟩ : ∃ w0,w0 = (w.alloc (Obj.cells #[.int .i64 p.f0,.int .i64 p.f1,.int .i64 p.f2,.int .i64 p.f3,.int .i64 p.f4,.int .i64 p.f5,.int .u64 p.f6,.int .i64 p.f7,.string p.f8,.int .i64 p.f9,.int .i64 p.f10,.string p.f11] 30)).alloc (Obj.cells #[.int .i64 0,.int .i64 0,.int .i64 0,.int .i64 0,.int .i64 0,.int .i64 0,.int .u64 0,.int .i64 0,.string ⟨#[]⟩,.int .i64 0,.int .i64 0,.string ⟨#[]⟩] 30) := ⟨_,rfl⟩
  obtain ⟨bp,hbp⟩ : ∃ bp,bp = w.heap.size := ⟨_,rfl⟩
  obtain ⟨br,hbr⟩ : ∃ br,br = w.heap.size + 1 := ⟨_,rfl⟩
  have W0 := Aside0.mk (And.intro hw0 (And.intro hbp hbr))
  have B0 : Below w.heap.size w w0 := by rw [hw0];exact below_alloc (below_alloc (Below.refl _ _) _) _
  have BP0 : Aside0 (w0.heap[bp]? = some (.cells #[.int .i64 p.f0,.int .i64 p.f1,.int .i64 p.f2,.int .i64 p.f3,.int .i64 p.f4,.int .i64 p.f5,.int .u64 p.f6,.int .i64 p.f7,.string p.f8,.int .i64 p.f9,.int .i64 p.f10,.string p.f11] 30 (0,0))) := ⟨by rw [hw0,hbp];exact blk_alloc (blk_new w _) _⟩
  have BR0 : Aside0 (w0.heap[br]? = some (.cells #[.int .i64 0,.int .i64 0,.int .i64 0,.int .i64 0,.int .i64 0,.int .i64 0,.int .u64 0,.int .i64 0,.string ⟨#[]⟩,.int .i64 0,.int .i64 0,.string ⟨#[]⟩] 30 (0,0))) := ⟨by rw [hw0,hbr];have := blk_new (w.alloc (Obj.cells #[.int .i64 p.f0,.int .i64 p.f1,.int .i64 p.f2,.int .i64 p.f3,.int .i64 p.f4,.int .i64 p.f5,.int .u64 p.f6,.int .i64 p.f7,.string p.f8,.int .i64 p.f9,.int .i64 p.f10,.string p.f11] 30)) (Obj.cells #[.int .i64 0,.int .i64 0,.int .i64 0,.int .i64 0,.int .i64 0,.int .i64 0,.int .u64 0,.int .i64 0,.string ⟨#[]⟩,.int .i64 0,.int .i64 0,.string ⟨#[]⟩] 30);rwa [World.size_alloc] at this⟩
  have D0 := Aside0.mk (h.below B0)
  have G0 := Aside0.mk (grown_of_below B0 (some b))
  have LR : Aside0 (w.heap.size ≤ br) := ⟨by omega⟩
  have RG : Aside0 (br ≠ g) := ⟨by have := GL.out;omega⟩
  have RB : Aside0 (br ≠ b) := ⟨by have := BL.out;omega⟩
  clear hw0 hbp hbr B0 h
  go_enter Try.func22,Try.ntmps22
  go_upto_region 1 with fail
  rw [← W0.out.2.2,← W0.out.2.1,← W0.out.1]
  go_wp2_with (first | (go_at_call 38;refine (is_made D0.out).mono ?_;rintro e w' ⟨rfl,rfl⟩) | (go_at_call 41;refine (asked_any self home hops 0 HN.out _).mono ?_;rintro e w1 ⟨rfl,hb⟩;have BP1 := Aside0.mk (blk_below BP0.out hb);have BR1 := Aside0.mk (blk_below BR0.out hb);have D1 := Aside0.mk (D0.out.below hb);have G1 := Aside0.mk (G0.out.trans (grown_of_below hb (some b)));clear hb;have p0_w1 : w1.cell? ⟨bp,0,none⟩ = some (.int .i64 p.f0) := (blk_cell BP1.out 0).trans rfl;have p1_w1 : w1.cell? ⟨bp,1,none⟩ = some (.int .i64 p.f1) := (blk_cell BP1.out 1).trans rfl;have p2_w1 : w1.cell? ⟨bp,2,none⟩ = some (.int .i64 p.f2) := (blk_cell BP1.out 2).trans rfl;have p3_w1 : w1.cell? ⟨bp,3,none⟩ = some (.int .i64 p.f3) := (blk_cell BP1.out 3).trans rfl;have p4_w1 : w1.cell? ⟨bp,4,none⟩ = some (.int .i64 p.f4) := (blk_cell BP1.out 4).trans rfl;have p5_w1 : w1.cell? ⟨bp,5,none⟩ = some (.int .i64 p.f5) := (blk_cell BP1.out 5).trans rfl;have p6_w1 : w1.cell? ⟨bp,6,none⟩ = some (.int .u64 p.f6) := (blk_cell BP1.out 6).trans rfl;have p7_w1 : w1.cell? ⟨bp,7,none⟩ = some (.int .i64 p.f7) := (blk_cell BP1.out 7).trans rfl;have p8_w1 : w1.cell? ⟨bp,8,none⟩ = some (.string p.f8) := (blk_cell BP1.out 8).trans rfl;have p9_w1 : w1.cell? ⟨bp,9,none⟩ = some (.int .i64 p.f9) := (blk_cell BP1.out 9).trans rfl;have p10_w1 : w1.cell? ⟨bp,10,none⟩ = some (.int .i64 p.f10) := (blk_cell BP1.out 10).trans rfl;have p11_w1 : w1.cell? ⟨bp,11,none⟩ = some (.string p.f11) := (blk_cell BP1.out 11).trans rfl;have ltp_w1 := blk_lt BP1.out) | (go_at_call 42;refine (check4_any p true MP.out _).mono ?_;rintro e w2 ⟨rfl,hb⟩;have BP2 := Aside0.mk (blk_below BP1.out hb);have BR2 := Aside0.mk (blk_below BR1.out hb);have D2 := Aside0.mk (D1.out.below hb);have G2 := Aside0.mk (G1.out.trans (grown_of_below hb (some b)));clear hb;have p0_w2 : w2.cell? ⟨bp,0,none⟩ = some (.int .i64 p.f0) := (blk_cell BP2.out 0).trans rfl;have p1_w2 : w2.cell? ⟨bp,1,none⟩ = some (.int .i64 p.f1) := (blk_cell BP2.out 1).trans rfl;have p2_w2 : w2.cell? ⟨bp,2,none⟩ = some (.int .i64 p.f2) := (blk_cell BP2.out 2).trans rfl;have p3_w2 : w2.cell? ⟨bp,3,none⟩ = some (.int .i64 p.f3) := (blk_cell BP2.out 3).trans rfl;have p4_w2 : w2.cell? ⟨bp,4,none⟩ = some (.int .i64 p.f4) := (blk_cell BP2.out 4).trans rfl;have p5_w2 : w2.cell? ⟨bp,5,none⟩ = some (.int .i64 p.f5) := (blk_cell BP2.out 5).trans rfl;have p6_w2 : w2.cell? ⟨bp,6,none⟩ = some (.int .u64 p.f6) := (blk_cell BP2.out 6).trans rfl;have p7_w2 : w2.cell? ⟨bp,7,none⟩ = some (.int .i64 p.f7) := (blk_cell BP2.out 7).trans rfl;have p8_w2 : w2.cell? ⟨bp,8,none⟩ = some (.string p.f8) := (blk_cell BP2.out 8).trans rfl;have p9_w2 : w2.cell? ⟨bp,9,none⟩ = some (.int .i64 p.f9) := (blk_cell BP2.out 9).trans rfl;have p10_w2 : w2.cell? ⟨bp,10,none⟩ = some (.int .i64 p.f10) := (blk_cell BP2.out 10).trans rfl;have p11_w2 : w2.cell? ⟨bp,11,none⟩ = some (.string p.f11) := (blk_cell BP2.out 11).trans rfl;have ltp_w2 := blk_lt BP2.out;have r0_w2 : w2.cell? ⟨br,0,none⟩ = some (.int .i64 0) := (blk_cell BR2.out 0).trans rfl;have r1_w2 : w2.cell? ⟨br,1,none⟩ = some (.int .i64 0) := (blk_cell BR2.out 1).trans rfl;have r2_w2 : w2.cell? ⟨br,2,none⟩ = some (.int .i64 0) := (blk_cell BR2.out 2).trans rfl;have r3_w2 : w2.cell? ⟨br,3,none⟩ = some (.int .i64 0) := (blk_cell BR2.out 3).trans rfl;have r4_w2 : w2.cell? ⟨br,4,none⟩ = some (.int .i64 0) := (blk_cell BR2.out 4).trans rfl;have r5_w2 : w2.cell? ⟨br,5,none⟩ = some (.int .i64 0) := (blk_cell BR2.out 5).trans rfl;have r6_w2 : w2.cell? ⟨br,6,none⟩ = some (.int .u64 0) := (blk_cell BR2.out 6).trans rfl;have r7_w2 : w2.cell? ⟨br,7,none⟩ = some (.int .i64 0) := (blk_cell BR2.out 7).trans rfl;have r8_w2 : w2.cell? ⟨br,8,none⟩ = some (.string ⟨#[]⟩) := (blk_cell BR2.out 8).trans rfl;have r9_w2 : w2.cell? ⟨br,9,none⟩ = some (.int .i64 0) := (blk_cell BR2.out 9).trans rfl;have r10_w2 : w2.cell? ⟨br,10,none⟩ = some (.int .i64 0) := (blk_cell BR2.out 10).trans rfl;have r11_w2 : w2.cell? ⟨br,11,none⟩ = some (.string ⟨#[]⟩) := (blk_cell BR2.out 11).trans rfl;have ltr_w2 := blk_lt BR2.out;have zr0_w2 := blk_frozen BR2.out 0;have zr1_w2 := blk_frozen BR2.out 1;have zr2_w2 := blk_frozen BR2.out 2;have zr3_w2 := blk_frozen BR2.out 3;have zr4_w2 := blk_frozen BR2.out 4;have zr5_w2 := blk_frozen BR2.out 5;have zr6_w2 := blk_frozen BR2.out 6;have zr7_w2 := blk_frozen BR2.out 7;have zr8_w2 := blk_frozen BR2.out 8;have zr9_w2 := blk_frozen BR2.out 9;have zr10_w2 := blk_frozen BR2.out 10;have zr11_w2 := blk_frozen BR2.out 11) | (go_at_call 19;refine (put_live D2.out p.f8 p.f9 p.f10).mono ?_;rintro e w3 ⟨rfl,hd,hg⟩;have BR3 := Aside0.mk (blk_grown BR2.out hg (fun e => RB.out (Option.some.inj e)));have D3 := Aside0.mk hd;have G3 := Aside0.mk (G2.out.trans hg);clear hd hg;have r0_w3 : w3.cell? ⟨br,0,none⟩ = some (.int .i64 0) := (blk_cell BR3.out 0).trans rfl;have r1_w3 : w3.cell? ⟨br,1,none⟩ = some (.int .i64 0) := (blk_cell BR3.out 1).trans rfl;have r2_w3 : w3.cell? ⟨br,2,none⟩ = some (.int .i64 0) := (blk_cell BR3.out 2).trans rfl;have r3_w3 : w3.cell? ⟨br,3,none⟩ = some (.int .i64 0) := (blk_cell BR3.out 3).trans rfl;have r4_w3 : w3.cell? ⟨br,4,none⟩ = some (.int .i64 0) := (blk_cell BR3.out 4).trans rfl;have r5_w3 : w3.cell? ⟨br,5,none⟩ = some (.int .i64 0) := (blk_cell BR3.out 5).trans rfl;have r6_w3 : w3.cell? ⟨br,6,none⟩ = some (.int .u64 0) := (blk_cell BR3.out 6).trans rfl;have r7_w3 : w3.cell? ⟨br,7,none⟩ = some (.int .i64 0) := (blk_cell BR3.out 7).trans rfl;have r8_w3 : w3.cell? ⟨br,8,none⟩ = some (.string ⟨#[]⟩) := (blk_cell BR3.out 8).trans rfl;have r9_w3 : w3.cell? ⟨br,9,none⟩ = some (.int .i64 0) := (blk_cell BR3.out 9).trans rfl;have r10_w3 : w3.cell? ⟨br,10,none⟩ = some (.int .i64 0) := (blk_cell BR3.out 10).trans rfl;have r11_w3 : w3.cell? ⟨br,11,none⟩ = some (.string ⟨#[]⟩) := (blk_cell BR3.out 11).trans rfl;have ltr_w3 := blk_lt BR3.out;have zr0_w3 := blk_frozen BR3.out 0;have zr1_w3 := blk_frozen BR3.out 1;have zr2_w3 := blk_frozen BR3.out 2;have zr3_w3 := blk_frozen BR3.out 3;have zr4_w3 := blk_frozen BR3.out 4;have zr5_w3 := blk_frozen BR3.out 5;have zr6_w3 := blk_frozen BR3.out 6;have zr7_w3 := blk_frozen BR3.out 7;have zr8_w3 := blk_frozen BR3.out 8;have zr9_w3 := blk_frozen BR3.out 9;have zr10_w3 := blk_frozen BR3.out 10;have zr11_w3 := blk_frozen BR3.out 11))
  obtain ⟨n,hn⟩ : ∃ n,n = putE L p.f8 p.f9 p.f10 := ⟨_,rfl⟩
  have PN := Aside0.mk hn
  rw [← hn]
  clear hn
  obtain ⟨W,hW⟩ : ∃ W,W = ((((((((((((w3.setCell ⟨br,0,none⟩ (.int .i64 0)).setCell ⟨br,1,none⟩ (.int .i64 0)).setCell ⟨br,2,none⟩ (.int .i64 0)).setCell ⟨br,3,none⟩ (.int .i64 0)).setCell ⟨br,4,none⟩ (.int .i64 0)).setCell ⟨br,5,none⟩ (.int .i64 0)).setCell ⟨br,6,none⟩ (.int .u64 0)).setCell ⟨br,7,none⟩ (.int .i64 0)).setCell ⟨br,8,none⟩ (.string ⟨#[]⟩)).setCell ⟨br,9,none⟩ (.int .i64 0)).setCell ⟨br,10,none⟩ (.int .i64 0)).setCell ⟨br,11,none⟩ (.string ⟨#[]⟩)) := ⟨_,rfl⟩
  have BW : W.heap[br]? = some (.cells #[.int .i64 0,.int .i64 0,.int .i64 0,.int .i64 0,.int .i64 0,.int .i64 0,.int .u64 0,.int .i64 0,.string ⟨#[]⟩,.int .i64 0,.int .i64 0,.string ⟨#[]⟩] 30 (0,0)) := by rw [hW];exact blk_set12 BR3.out _ _ _ _ _ _ _ _ _ _ _ _
  have GW : w.grownBy W (some b) := by rw [hW];exact grown_set12 G3.out LR.out _ _ _ _ _ _ _ _ _ _ _ _
  have DW := DirAt.set12 D3.out RG.out RB.out (.int .i64 0) (.int .i64 0) (.int .i64 0) (.int .i64 0) (.int .i64 0) (.int .i64 0) (.int .u64 0) (.int .i64 0) (.string ⟨#[]⟩) (.int .i64 0) (.int .i64 0) (.string ⟨#[]⟩)
  rw [← hW] at DW ⊢
  clear hW
  have g0 : W.cell? ⟨br,0,none⟩ = some (.int .i64 0) := (blk_cell BW 0).trans rfl
  have g1 : W.cell? ⟨br,1,none⟩ = some (.int .i64 0) := (blk_cell BW 1).trans rfl
  have g2 : W.cell? ⟨br,2,none⟩ = some (.int .i64 0) := (blk_cell BW 2).trans rfl
  have g3 : W.cell? ⟨br,3,none⟩ = some (.int .i64 0) := (blk_cell BW 3).trans rfl
  have g4 : W.cell? ⟨br,4,none⟩ = some (.int .i64 0) := (blk_cell BW 4).trans rfl
  have g5 : W.cell? ⟨br,5,none⟩ = some (.int .i64 0) := (blk_cell BW 5).trans rfl
  have g6 : W.cell? ⟨br,6,none⟩ = some (.int .u64 0) := (blk_cell BW 6).trans rfl
  have g7 : W.cell? ⟨br,7,none⟩ = some (.int .i64 0) := (blk_cell BW 7).trans rfl
  have g8 : W.cell? ⟨br,8,none⟩ = some (.string ⟨#[]⟩) := (blk_cell BW 8).trans rfl
  have g9 : W.cell? ⟨br,9,none⟩ = some (.int .i64 0) := (blk_cell BW 9).trans rfl
  have g10 : W.cell? ⟨br,10,none⟩ = some (.int .i64 0) := (blk_cell BW 10).trans rfl
  have g11 : W.cell? ⟨br,11,none⟩ = some (.string ⟨#[]⟩) := (blk_cell BW 11).trans rfl
  refine bodyPost_ret (v := .tuple #[pkV z30,.bool false,.int .i64 n]) (by simp [results,Try.results22,go_sem,pkV,z30,g0,g1,g2,g3,g4,g5,g6,g7,g8,g9,g10,g11]) rfl ⟨by unfold serveP;rw [ES.out,TS.out,if_neg (by simp),PN.out],by rw [LS.out];exact DW,GW⟩
end Go.Proofs.Ytlpmblcdafdfdaa.PA
