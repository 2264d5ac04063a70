/- The document's Serve, walked. Condition: what is kept stands by names, and is no more than a directory holds. -/
import Derived.Test.YtlpmblcdafdfdaaYyDv0
import Derived.Test.YtlpmblcdafdfdaaYyGz
namespace Go.Proofs.Ytlpmblcdafdfdaa.PA
open Go.RowKit Go.Proofs.YtlpmblcdafdfdaaW.PrintWords Go.Proofs.YtlpmblcdafdfdaaW.PrintLast Go.Proofs.YtlpmblcdafdfdaaW.PrintMore
set_option linter.unusedVariables false
set_option linter.unusedSimpArgs false
open Classical
theorem rs_endz {w wr : World} {bd bp br bq : Nat} {life : Int} {A A' : Option Addr} {n c n' c' : Nat} {p : S30} (h : SBase w wr bd bp br bq life A n c p) (hx : w.heap.size ≤ br ∧ w.heap.size ≤ bq ∧ br ≠ bq) :
    ((((((((((((((wr.setCell ⟨br,0,none⟩ (.int .i64 life)).setCell ⟨br,1,none⟩ (.slice A' n' c')).setCell ⟨bq,0,none⟩ (.int .i64 0)).setCell ⟨bq,1,none⟩ (.int .i64 0)).setCell ⟨bq,2,none⟩ (.int .i64 0)).setCell ⟨bq,3,none⟩ (.int .i64 0)).setCell ⟨bq,4,none⟩ (.int .i64 0)).setCell ⟨bq,5,none⟩ (.int .i64 0)).setCell ⟨bq,6,none⟩ (.int .u64 0)).setCell ⟨bq,7,none⟩ (.int .i64 0)).setCell ⟨bq,8,none⟩ (.string ⟨#[]⟩)).setCell ⟨bq,9,none⟩ (.int .i64 0)).setCell ⟨bq,10,none⟩ (.int .i64 0)).setCell ⟨bq,11,none⟩ (.string ⟨#[]⟩)).heap[br]? = some (.cells #[.int .i64 life,.slice A' n' c'] 42 (0,0)) ∧ ((((((((((((((wr.setCell ⟨br,0,none⟩ (.int .i64 life)).setCell ⟨br,1,none⟩ (.slice A' n' c')).setCell ⟨bq,0,none⟩ (.int .i64 0)).setCell ⟨bq,1,none⟩ (.int .i64 0)).setCell ⟨bq,2,none⟩ (.int .i64 0)).setCell ⟨bq,3,none⟩ (.int .i64 0)).setCell ⟨bq,4,none⟩ (.int .i64 0)).setCell ⟨bq,5,none⟩ (.int .i64 0)).setCell ⟨bq,6,none⟩ (.int .u64 0)).setCell ⟨bq,7,none⟩ (.int .i64 0)).setCell ⟨bq,8,none⟩ (.string ⟨#[]⟩)).setCell ⟨bq,9,none⟩ (.int .i64 0)).setCell ⟨bq,10,none⟩ (.int .i64 0)).setCell ⟨bq,11,none⟩ (.string ⟨#[]⟩)).heap[bq]? = some (.cells #[.int .i64 0,.int .i64 0,.int .i64 0,.int .i64 0,.int .i64 0,.int .i64 0,.int .u64 0,.int .i64 0,.string ⟨#[]⟩,.int .i64 0,.int .i64 0,.string ⟨#[]⟩] 30 (0,0)) ∧ Below w.heap.size w ((((((((((((((wr.setCell ⟨br,0,none⟩ (.int .i64 life)).setCell ⟨br,1,none⟩ (.slice A' n' c')).setCell ⟨bq,0,none⟩ (.int .i64 0)).setCell ⟨bq,1,none⟩ (.int .i64 0)).setCell ⟨bq,2,none⟩ (.int .i64 0)).setCell ⟨bq,3,none⟩ (.int .i64 0)).setCell ⟨bq,4,none⟩ (.int .i64 0)).setCell ⟨bq,5,none⟩ (.int .i64 0)).setCell ⟨bq,6,none⟩ (.int .u64 0)).setCell ⟨bq,7,none⟩ (.int .i64 0)).setCell ⟨bq,8,none⟩ (.string ⟨#[]⟩)).setCell ⟨bq,9,none⟩ (.int .i64 0)).setCell ⟨bq,10,none⟩ (.int .i64 0)).setCell ⟨bq,11,none⟩ (.string ⟨#[]⟩)) ∧
    ∀ {A1 : Option Addr} {n1 : Nat} {xs : List S57},Kd.C k57 wr A1 n1 xs → (∀ ad,A1 = some ad → ad.block ≠ br ∧ ad.block ≠ bq) → Kd.C k57 ((((((((((((((wr.setCell ⟨br,0,none⟩ (.int .i64 life)).setCell ⟨br,1,none⟩ (.slice A' n' c')).setCell ⟨bq,0,none⟩ (.int .i64 0)).setCell ⟨bq,1,none⟩ (.int .i64 0)).setCell ⟨bq,2,none⟩ (.int .i64 0)).setCell ⟨bq,3,none⟩ (.int .i64 0)).setCell ⟨bq,4,none⟩ (.int .i64 0)).setCell ⟨bq,5,none⟩ (.int .i64 0)).setCell ⟨bq,6,none⟩ (.int .u64 0)).setCell ⟨bq,7,none⟩ (.int .i64 0)).setCell ⟨bq,8,none⟩ (.string ⟨#[]⟩)).setCell ⟨bq,9,none⟩ (.int .i64 0)).setCell ⟨bq,10,none⟩ (.int .i64 0)).setCell ⟨bq,11,none⟩ (.string ⟨#[]⟩)) A1 n1 xs := rs_end (q := z30) h hx
theorem rserve_no {w wr : World} {bd bp br bq : Nat} {life : Int} {A : Option Addr} {M : List S57} {c : Nat} {self home hops n : Int} {p : S30} (h : SBase w wr bd bp br bq life A M.length c p) (hr : Kd.C k57 w A M.length M) (hc : M.length ≤ c) (hx : w.heap.size ≤ br ∧ w.heap.size ≤ bq ∧ br ≠ bq)
    (hE : serveE M self home hops p = n) (hT : serveT self home hops p = false) (hL : rserveL life M self home hops p = M) :
    RServeOut w life A M self home hops p (.returned (.tuple #[.agg #[.int .i64 life,.slice A M.length c],pkV z30,.bool false,.int .i64 n])) ((((((((((((((wr.setCell ⟨br,0,none⟩ (.int .i64 life)).setCell ⟨br,1,none⟩ (.slice A M.length c)).setCell ⟨bq,0,none⟩ (.int .i64 0)).setCell ⟨bq,1,none⟩ (.int .i64 0)).setCell ⟨bq,2,none⟩ (.int .i64 0)).setCell ⟨bq,3,none⟩ (.int .i64 0)).setCell ⟨bq,4,none⟩ (.int .i64 0)).setCell ⟨bq,5,none⟩ (.int .i64 0)).setCell ⟨bq,6,none⟩ (.int .u64 0)).setCell ⟨bq,7,none⟩ (.int .i64 0)).setCell ⟨bq,8,none⟩ (.string ⟨#[]⟩)).setCell ⟨bq,9,none⟩ (.int .i64 0)).setCell ⟨bq,10,none⟩ (.int .i64 0)).setCell ⟨bq,11,none⟩ (.string ⟨#[]⟩)) := by
  have hb := (rs_endz (A' := A) (n' := M.length) (c' := c) h hx).2.2.1
  refine ⟨A,c,?_,by rw [hL];exact hc,by rw [hL];exact Kd.C_below hr hb,hb,.inl ⟨rfl,hL⟩⟩
  unfold serveP
  rw [hL,hE,hT,if_neg (by simp)]
set_option maxHeartbeats 2000000 in
set_option maxRecDepth 100000 in
theorem rserve_asked (w : World) (life : Int) (A : Option Addr) (c : Nat) (M : List S57) (hr : Kd.C k57 w A M.length M) (hc : M.length ≤ c) (self home hops : Int) (p : S30) (n : Int) (hn : askedV self home hops = n) (h0 : n ≠ 0) :
    Calls Try.prog 23 #[.agg #[.int .i64 life,.slice A M.length c],.int .i64 self,.int .i64 home,.int .i64 hops,.agg #[.int .i64 p.f0,.int .i64 p.f1,.int .i64 p.f2,.int .i64 p.f3,.int .i64 p.f4,.int .i64 p.f5,.int .u64 p.f6,.int .i64 p.f7,.string p.f8,.int .i64 p.f9,.int .i64 p.f10,.string p.f11]] w fun e w' => RServeOut w life A M self home hops p e w' := by
  have hu30 := Try.underlying30
  have hu42 := Try.underlying42
  have hu57 := Try.underlying57
  have HR := Aside0.mk hr
  have HC := Aside0.mk hc
  have AS := Aside0.mk (fun W => rasked_any self home hops n hn W)
  have ES : Aside0 (serveE M self home hops p = n) := ⟨by unfold serveE;rw [hn,if_pos h0]⟩
  have TS : Aside0 (serveT self home hops p = false) := ⟨by unfold serveT;rw [hn];simp [h0]⟩
  have LS : Aside0 (rserveL life M self home hops p = M) := ⟨by unfold rserveL;rw [if_neg (fun h => h0 (hn.symm.trans h.1))]⟩
  have hb1 : (n != 0) = true := by simpa using h0
  clear hn h0
  obtain ⟨w0,hw0⟩ : ∃ w0,w0 = ((((w.alloc (Obj.cells #[.int .i64 life,.slice A M.length c] 42)).alloc (Obj.cells #[.int .i64 p.f0,.int .i64 p.f1,.int .i64 p.f2,.int .i64 p.f3,.int .i64 p.f4,.int .i64 p.f5,.int .u64 p.f6,.int .i64 p.f7,.string p.f8,.int .i64 p.f9,.int .i64 p.f10,.string p.f11] 30)).alloc (Obj.cells #[.int .i64 0,.slice none 0 0] 42)).alloc (Obj.cells #[.int .i64 0,.int .i64 0,.int .i64 0,.int .i64 0,.int .i64 0,.int .i64 0,.int .u64 0,.int .i64 0,.string ⟨#[]⟩,.int .i64 0,.int .i64 0,.string ⟨#[]⟩] 30)) := ⟨_,rfl⟩
  obtain ⟨bd,hbd⟩ : ∃ b,b = w.heap.size := ⟨_,rfl⟩
  obtain ⟨bp,hbp⟩ : ∃ b,b = w.heap.size + 1 := ⟨_,rfl⟩
  obtain ⟨br,hbr⟩ : ∃ b,b = w.heap.size + 2 := ⟨_,rfl⟩
  obtain ⟨bq,hbq⟩ : ∃ b,b = w.heap.size + 3 := ⟨_,rfl⟩
  have W0 := Aside0.mk (And.intro hw0 (And.intro hbd (And.intro hbp (And.intro hbr hbq))))
  have I0 : Aside0 (SBase w w0 bd bp br bq life A M.length c p) := ⟨by rw [hw0,hbd,hbp,hbr,hbq];exact sbase_start w life A M.length c p⟩
  have XR : Aside0 (w.heap.size ≤ br ∧ w.heap.size ≤ bq ∧ br ≠ bq) := ⟨by omega⟩
  have XB : Aside0 (bd ≠ br ∧ bd ≠ bq) := ⟨by omega⟩
  clear hw0 hbd hbp hbr hbq hr hc
  go_enter Try.func23,Try.ntmps23
  go_upto_region 1 with fail
  rw [← W0.out.2.2.2.2,← W0.out.2.2.2.1,← W0.out.2.2.1,← W0.out.2.1,← W0.out.1]
  have hne1 := XR.out.2.2
  have hne2 := Ne.symm XR.out.2.2
  go_wp2_with (go_at_call 43;(with_reducible refine (AS.out _).mono ?_);rintro e w1 ⟨rfl,hb⟩;have I1 := Aside0.mk (I0.out.below hb);clear hb;have XDw1 := Aside0.mk I1.out.2.1;have XPw1 := Aside0.mk I1.out.2.2.1;have XRw1 := Aside0.mk I1.out.2.2.2.1;have XQw1 := Aside0.mk I1.out.2.2.2.2;have d0w1 : w1.cell? ⟨bd,0,none⟩ = some (.int .i64 life) := (blk_cell XDw1.out 0).trans rfl;have d1w1 : w1.cell? ⟨bd,1,none⟩ = some (.slice A M.length c) := (blk_cell XDw1.out 1).trans rfl;have p0w1 : w1.cell? ⟨bp,0,none⟩ = some (.int .i64 p.f0) := (blk_cell XPw1.out 0).trans rfl;have p1w1 : w1.cell? ⟨bp,1,none⟩ = some (.int .i64 p.f1) := (blk_cell XPw1.out 1).trans rfl;have p2w1 : w1.cell? ⟨bp,2,none⟩ = some (.int .i64 p.f2) := (blk_cell XPw1.out 2).trans rfl;have p3w1 : w1.cell? ⟨bp,3,none⟩ = some (.int .i64 p.f3) := (blk_cell XPw1.out 3).trans rfl;have p4w1 : w1.cell? ⟨bp,4,none⟩ = some (.int .i64 p.f4) := (blk_cell XPw1.out 4).trans rfl;have p5w1 : w1.cell? ⟨bp,5,none⟩ = some (.int .i64 p.f5) := (blk_cell XPw1.out 5).trans rfl;have p6w1 : w1.cell? ⟨bp,6,none⟩ = some (.int .u64 p.f6) := (blk_cell XPw1.out 6).trans rfl;have p7w1 : w1.cell? ⟨bp,7,none⟩ = some (.int .i64 p.f7) := (blk_cell XPw1.out 7).trans rfl;have p8w1 : w1.cell? ⟨bp,8,none⟩ = some (.string p.f8) := (blk_cell XPw1.out 8).trans rfl;have p9w1 : w1.cell? ⟨bp,9,none⟩ = some (.int .i64 p.f9) := (blk_cell XPw1.out 9).trans rfl;have p10w1 : w1.cell? ⟨bp,10,none⟩ = some (.int .i64 p.f10) := (blk_cell XPw1.out 10).trans rfl;have p11w1 : w1.cell? ⟨bp,11,none⟩ = some (.string p.f11) := (blk_cell XPw1.out 11).trans rfl;have r0w1 : w1.cell? ⟨br,0,none⟩ = some (.int .i64 0) := (blk_cell XRw1.out 0).trans rfl;have r1w1 : w1.cell? ⟨br,1,none⟩ = some (.slice none 0 0) := (blk_cell XRw1.out 1).trans rfl;have zr0w1 := blk_frozen XRw1.out 0;have zr1w1 := blk_frozen XRw1.out 1;have q0w1 : w1.cell? ⟨bq,0,none⟩ = some (.int .i64 0) := (blk_cell XQw1.out 0).trans rfl;have q1w1 : w1.cell? ⟨bq,1,none⟩ = some (.int .i64 0) := (blk_cell XQw1.out 1).trans rfl;have q2w1 : w1.cell? ⟨bq,2,none⟩ = some (.int .i64 0) := (blk_cell XQw1.out 2).trans rfl;have q3w1 : w1.cell? ⟨bq,3,none⟩ = some (.int .i64 0) := (blk_cell XQw1.out 3).trans rfl;have q4w1 : w1.cell? ⟨bq,4,none⟩ = some (.int .i64 0) := (blk_cell XQw1.out 4).trans rfl;have q5w1 : w1.cell? ⟨bq,5,none⟩ = some (.int .i64 0) := (blk_cell XQw1.out 5).trans rfl;have q6w1 : w1.cell? ⟨bq,6,none⟩ = some (.int .u64 0) := (blk_cell XQw1.out 6).trans rfl;have q7w1 : w1.cell? ⟨bq,7,none⟩ = some (.int .i64 0) := (blk_cell XQw1.out 7).trans rfl;have q8w1 : w1.cell? ⟨bq,8,none⟩ = some (.string ⟨#[]⟩) := (blk_cell XQw1.out 8).trans rfl;have q9w1 : w1.cell? ⟨bq,9,none⟩ = some (.int .i64 0) := (blk_cell XQw1.out 9).trans rfl;have q10w1 : w1.cell? ⟨bq,10,none⟩ = some (.int .i64 0) := (blk_cell XQw1.out 10).trans rfl;have q11w1 : w1.cell? ⟨bq,11,none⟩ = some (.string ⟨#[]⟩) := (blk_cell XQw1.out 11).trans rfl;have zq0w1 := blk_frozen XQw1.out 0;have zq1w1 := blk_frozen XQw1.out 1;have zq2w1 := blk_frozen XQw1.out 2;have zq3w1 := blk_frozen XQw1.out 3;have zq4w1 := blk_frozen XQw1.out 4;have zq5w1 := blk_frozen XQw1.out 5;have zq6w1 := blk_frozen XQw1.out 6;have zq7w1 := blk_frozen XQw1.out 7;have zq8w1 := blk_frozen XQw1.out 8;have zq9w1 := blk_frozen XQw1.out 9;have zq10w1 := blk_frozen XQw1.out 10;have zq11w1 := blk_frozen XQw1.out 11;have ltdw1 := blk_lt XDw1.out;have ltpw1 := blk_lt XPw1.out;have ltrw1 := blk_lt XRw1.out;have ltqw1 := blk_lt XQw1.out)
  obtain ⟨W,hW⟩ : ∃ W,W = ((((((((((((((w1.setCell ⟨br,0,none⟩ (.int .i64 life)).setCell ⟨br,1,none⟩ (.slice A M.length c)).setCell ⟨bq,0,none⟩ (.int .i64 0)).setCell ⟨bq,1,none⟩ (.int .i64 0)).setCell ⟨bq,2,none⟩ (.int .i64 0)).setCell ⟨bq,3,none⟩ (.int .i64 0)).setCell ⟨bq,4,none⟩ (.int .i64 0)).setCell ⟨bq,5,none⟩ (.int .i64 0)).setCell ⟨bq,6,none⟩ (.int .u64 0)).setCell ⟨bq,7,none⟩ (.int .i64 0)).setCell ⟨bq,8,none⟩ (.string ⟨#[]⟩)).setCell ⟨bq,9,none⟩ (.int .i64 0)).setCell ⟨bq,10,none⟩ (.int .i64 0)).setCell ⟨bq,11,none⟩ (.string ⟨#[]⟩)) := ⟨_,rfl⟩
  have BK := rserve_no I1.out HR.out HC.out XR.out ES.out TS.out LS.out
  have BQ := rs_endz (A' := A) (n' := M.length) (c' := c) I1.out XR.out
  rw [← hW] at BK BQ ⊢
  clear hW
  have h0 : W.cell? ⟨br,0,none⟩ = some (.int .i64 life) := (blk_cell BQ.1 0).trans rfl
  have h1 : W.cell? ⟨br,1,none⟩ = some (.slice A M.length c) := (blk_cell BQ.1 1).trans rfl
  have g0 : W.cell? ⟨bq,0,none⟩ = some (.int .i64 0) := (blk_cell BQ.2.1 0).trans rfl
  have g1 : W.cell? ⟨bq,1,none⟩ = some (.int .i64 0) := (blk_cell BQ.2.1 1).trans rfl
  have g2 : W.cell? ⟨bq,2,none⟩ = some (.int .i64 0) := (blk_cell BQ.2.1 2).trans rfl
  have g3 : W.cell? ⟨bq,3,none⟩ = some (.int .i64 0) := (blk_cell BQ.2.1 3).trans rfl
  have g4 : W.cell? ⟨bq,4,none⟩ = some (.int .i64 0) := (blk_cell BQ.2.1 4).trans rfl
  have g5 : W.cell? ⟨bq,5,none⟩ = some (.int .i64 0) := (blk_cell BQ.2.1 5).trans rfl
  have g6 : W.cell? ⟨bq,6,none⟩ = some (.int .u64 0) := (blk_cell BQ.2.1 6).trans rfl
  have g7 : W.cell? ⟨bq,7,none⟩ = some (.int .i64 0) := (blk_cell BQ.2.1 7).trans rfl
  have g8 : W.cell? ⟨bq,8,none⟩ = some (.string ⟨#[]⟩) := (blk_cell BQ.2.1 8).trans rfl
  have g9 : W.cell? ⟨bq,9,none⟩ = some (.int .i64 0) := (blk_cell BQ.2.1 9).trans rfl
  have g10 : W.cell? ⟨bq,10,none⟩ = some (.int .i64 0) := (blk_cell BQ.2.1 10).trans rfl
  have g11 : W.cell? ⟨bq,11,none⟩ = some (.string ⟨#[]⟩) := (blk_cell BQ.2.1 11).trans rfl
  exact bodyPost_ret (v := .tuple #[.agg #[.int .i64 life,.slice A M.length c],pkV z30,.bool false,.int .i64 n]) (by simp [results,Try.results23,go_sem,pkV,z30,h0,h1,g0,g1,g2,g3,g4,g5,g6,g7,g8,g9,g10,g11]) rfl BK
set_option maxHeartbeats 2000000 in
set_option maxRecDepth 100000 in
theorem rserve_not (w : World) (life : Int) (A : Option Addr) (c : Nat) (M : List S57) (hr : Kd.C k57 w A M.length M) (hc : M.length ≤ c) (self home hops : Int) (p : S30) (hn : askedV self home hops = 0) (hs : servable self p = false) :
    Calls Try.prog 23 #[.agg #[.int .i64 life,.slice A M.length c],.int .i64 self,.int .i64 home,.int .i64 hops,.agg #[.int .i64 p.f0,.int .i64 p.f1,.int .i64 p.f2,.int .i64 p.f3,.int .i64 p.f4,.int .i64 p.f5,.int .u64 p.f6,.int .i64 p.f7,.string p.f8,.int .i64 p.f9,.int .i64 p.f10,.string p.f11]] w fun e w' => RServeOut w life A M self home hops p e w' := by
  have hu30 := Try.underlying30
  have hu42 := Try.underlying42
  have hu57 := Try.underlying57
  have HR := Aside0.mk hr
  have HC := Aside0.mk hc
  have AS := Aside0.mk (fun W => rasked_any self home hops 0 hn W)
  have ES : Aside0 (serveE M self home hops p = 60) := ⟨by unfold serveE;rw [hn,if_neg (by simp),if_pos hs]⟩
  have TS : Aside0 (serveT self home hops p = false) := ⟨by unfold serveT;rw [hs];simp⟩
  have LS : Aside0 (rserveL life M self home hops p = M) := ⟨by unfold rserveL;rw [if_neg (fun h => by rw [hs] at h;exact absurd h.2.1 (by simp))]⟩
  have SV := Aside0.mk hs
  obtain ⟨m,hm⟩ : ∃ m,mayP p = m := ⟨_,rfl⟩
  have HM := Aside0.mk hm
  have MY := Aside0.mk (fun W => rmay_any p m hm W)
  clear hn hs hm
  obtain ⟨w0,hw0⟩ : ∃ w0,w0 = ((((w.alloc (Obj.cells #[.int .i64 life,.slice A M.length c] 42)).alloc (Obj.cells #[.int .i64 p.f0,.int .i64 p.f1,.int .i64 p.f2,.int .i64 p.f3,.int .i64 p.f4,.int .i64 p.f5,.int .u64 p.f6,.int .i64 p.f7,.string p.f8,.int .i64 p.f9,.int .i64 p.f10,.string p.f11] 30)).alloc (Obj.cells #[.int .i64 0,.slice none 0 0] 42)).alloc (Obj.cells #[.int .i64 0,.int .i64 0,.int .i64 0,.int .i64 0,.int .i64 0,.int .i64 0,.int .u64 0,.int .i64 0,.string ⟨#[]⟩,.int .i64 0,.int .i64 0,.string ⟨#[]⟩] 30)) := ⟨_,rfl⟩
  obtain ⟨bd,hbd⟩ : ∃ b,b = w.heap.size := ⟨_,rfl⟩
  obtain ⟨bp,hbp⟩ : ∃ b,b = w.heap.size + 1 := ⟨_,rfl⟩
  obtain ⟨br,hbr⟩ : ∃ b,b = w.heap.size + 2 := ⟨_,rfl⟩
  obtain ⟨bq,hbq⟩ : ∃ b,b = w.heap.size + 3 := ⟨_,rfl⟩
  have W0 := Aside0.mk (And.intro hw0 (And.intro hbd (And.intro hbp (And.intro hbr hbq))))
  have I0 : Aside0 (SBase w w0 bd bp br bq life A M.length c p) := ⟨by rw [hw0,hbd,hbp,hbr,hbq];exact sbase_start w life A M.length c p⟩
  have XR : Aside0 (w.heap.size ≤ br ∧ w.heap.size ≤ bq ∧ br ≠ bq) := ⟨by omega⟩
  have XB : Aside0 (bd ≠ br ∧ bd ≠ bq) := ⟨by omega⟩
  clear hw0 hbd hbp hbr hbq hr hc
  go_enter Try.func23,Try.ntmps23
  go_upto_region 1 with fail
  rw [← W0.out.2.2.2.2,← W0.out.2.2.2.1,← W0.out.2.2.1,← W0.out.2.1,← W0.out.1]
  have hne1 := XR.out.2.2
  have hne2 := Ne.symm XR.out.2.2
  go_upto_region 4 with (go_at_call 43;(with_reducible refine (AS.out _).mono ?_);rintro e w1 ⟨rfl,hb⟩;have I1 := Aside0.mk (I0.out.below hb);clear hb;have XDw1 := Aside0.mk I1.out.2.1;have XPw1 := Aside0.mk I1.out.2.2.1;have XRw1 := Aside0.mk I1.out.2.2.2.1;have XQw1 := Aside0.mk I1.out.2.2.2.2;have d0w1 : w1.cell? ⟨bd,0,none⟩ = some (.int .i64 life) := (blk_cell XDw1.out 0).trans rfl;have d1w1 : w1.cell? ⟨bd,1,none⟩ = some (.slice A M.length c) := (blk_cell XDw1.out 1).trans rfl;have p0w1 : w1.cell? ⟨bp,0,none⟩ = some (.int .i64 p.f0) := (blk_cell XPw1.out 0).trans rfl;have p1w1 : w1.cell? ⟨bp,1,none⟩ = some (.int .i64 p.f1) := (blk_cell XPw1.out 1).trans rfl;have p2w1 : w1.cell? ⟨bp,2,none⟩ = some (.int .i64 p.f2) := (blk_cell XPw1.out 2).trans rfl;have p3w1 : w1.cell? ⟨bp,3,none⟩ = some (.int .i64 p.f3) := (blk_cell XPw1.out 3).trans rfl;have p4w1 : w1.cell? ⟨bp,4,none⟩ = some (.int .i64 p.f4) := (blk_cell XPw1.out 4).trans rfl;have p5w1 : w1.cell? ⟨bp,5,none⟩ = some (.int .i64 p.f5) := (blk_cell XPw1.out 5).trans rfl;have p6w1 : w1.cell? ⟨bp,6,none⟩ = some (.int .u64 p.f6) := (blk_cell XPw1.out 6).trans rfl;have p7w1 : w1.cell? ⟨bp,7,none⟩ = some (.int .i64 p.f7) := (blk_cell XPw1.out 7).trans rfl;have p8w1 : w1.cell? ⟨bp,8,none⟩ = some (.string p.f8) := (blk_cell XPw1.out 8).trans rfl;have p9w1 : w1.cell? ⟨bp,9,none⟩ = some (.int .i64 p.f9) := (blk_cell XPw1.out 9).trans rfl;have p10w1 : w1.cell? ⟨bp,10,none⟩ = some (.int .i64 p.f10) := (blk_cell XPw1.out 10).trans rfl;have p11w1 : w1.cell? ⟨bp,11,none⟩ = some (.string p.f11) := (blk_cell XPw1.out 11).trans rfl;have r0w1 : w1.cell? ⟨br,0,none⟩ = some (.int .i64 0) := (blk_cell XRw1.out 0).trans rfl;have r1w1 : w1.cell? ⟨br,1,none⟩ = some (.slice none 0 0) := (blk_cell XRw1.out 1).trans rfl;have zr0w1 := blk_frozen XRw1.out 0;have zr1w1 := blk_frozen XRw1.out 1;have q0w1 : w1.cell? ⟨bq,0,none⟩ = some (.int .i64 0) := (blk_cell XQw1.out 0).trans rfl;have q1w1 : w1.cell? ⟨bq,1,none⟩ = some (.int .i64 0) := (blk_cell XQw1.out 1).trans rfl;have q2w1 : w1.cell? ⟨bq,2,none⟩ = some (.int .i64 0) := (blk_cell XQw1.out 2).trans rfl;have q3w1 : w1.cell? ⟨bq,3,none⟩ = some (.int .i64 0) := (blk_cell XQw1.out 3).trans rfl;have q4w1 : w1.cell? ⟨bq,4,none⟩ = some (.int .i64 0) := (blk_cell XQw1.out 4).trans rfl;have q5w1 : w1.cell? ⟨bq,5,none⟩ = some (.int .i64 0) := (blk_cell XQw1.out 5).trans rfl;have q6w1 : w1.cell? ⟨bq,6,none⟩ = some (.int .u64 0) := (blk_cell XQw1.out 6).trans rfl;have q7w1 : w1.cell? ⟨bq,7,none⟩ = some (.int .i64 0) := (blk_cell XQw1.out 7).trans rfl;have q8w1 : w1.cell? ⟨bq,8,none⟩ = some (.string ⟨#[]⟩) := (blk_cell XQw1.out 8).trans rfl;have q9w1 : w1.cell? ⟨bq,9,none⟩ = some (.int .i64 0) := (blk_cell XQw1.out 9).trans rfl;have q10w1 : w1.cell? ⟨bq,10,none⟩ = some (.int .i64 0) := (blk_cell XQw1.out 10).trans rfl;have q11w1 : w1.cell? ⟨bq,11,none⟩ = some (.string ⟨#[]⟩) := (blk_cell XQw1.out 11).trans rfl;have zq0w1 := blk_frozen XQw1.out 0;have zq1w1 := blk_frozen XQw1.out 1;have zq2w1 := blk_frozen XQw1.out 2;have zq3w1 := blk_frozen XQw1.out 3;have zq4w1 := blk_frozen XQw1.out 4;have zq5w1 := blk_frozen XQw1.out 5;have zq6w1 := blk_frozen XQw1.out 6;have zq7w1 := blk_frozen XQw1.out 7;have zq8w1 := blk_frozen XQw1.out 8;have zq9w1 := blk_frozen XQw1.out 9;have zq10w1 := blk_frozen XQw1.out 10;have zq11w1 := blk_frozen XQw1.out 11;have ltdw1 := blk_lt XDw1.out;have ltpw1 := blk_lt XPw1.out;have ltrw1 := blk_lt XRw1.out;have ltqw1 := blk_lt XQw1.out)
  go_cut [47] from 29 to 47 (fun s47 wx => s47 = .bool true ∧ Aside0 (SBase w wx bd bp br bq life A M.length c p))
  case first =>
    cases m
    · go_wp2_with (go_at_call 44;(with_reducible refine (MY.out _).mono ?_);rintro e w2 ⟨rfl,hb⟩;have I2 := Aside0.mk (I1.out.below hb);clear hb;have XDw2 := Aside0.mk I2.out.2.1;have XPw2 := Aside0.mk I2.out.2.2.1;have XRw2 := Aside0.mk I2.out.2.2.2.1;have XQw2 := Aside0.mk I2.out.2.2.2.2;have d0w2 : w2.cell? ⟨bd,0,none⟩ = some (.int .i64 life) := (blk_cell XDw2.out 0).trans rfl;have d1w2 : w2.cell? ⟨bd,1,none⟩ = some (.slice A M.length c) := (blk_cell XDw2.out 1).trans rfl;have p0w2 : w2.cell? ⟨bp,0,none⟩ = some (.int .i64 p.f0) := (blk_cell XPw2.out 0).trans rfl;have p1w2 : w2.cell? ⟨bp,1,none⟩ = some (.int .i64 p.f1) := (blk_cell XPw2.out 1).trans rfl;have p2w2 : w2.cell? ⟨bp,2,none⟩ = some (.int .i64 p.f2) := (blk_cell XPw2.out 2).trans rfl;have p3w2 : w2.cell? ⟨bp,3,none⟩ = some (.int .i64 p.f3) := (blk_cell XPw2.out 3).trans rfl;have p4w2 : w2.cell? ⟨bp,4,none⟩ = some (.int .i64 p.f4) := (blk_cell XPw2.out 4).trans rfl;have p5w2 : w2.cell? ⟨bp,5,none⟩ = some (.int .i64 p.f5) := (blk_cell XPw2.out 5).trans rfl;have p6w2 : w2.cell? ⟨bp,6,none⟩ = some (.int .u64 p.f6) := (blk_cell XPw2.out 6).trans rfl;have p7w2 : w2.cell? ⟨bp,7,none⟩ = some (.int .i64 p.f7) := (blk_cell XPw2.out 7).trans rfl;have p8w2 : w2.cell? ⟨bp,8,none⟩ = some (.string p.f8) := (blk_cell XPw2.out 8).trans rfl;have p9w2 : w2.cell? ⟨bp,9,none⟩ = some (.int .i64 p.f9) := (blk_cell XPw2.out 9).trans rfl;have p10w2 : w2.cell? ⟨bp,10,none⟩ = some (.int .i64 p.f10) := (blk_cell XPw2.out 10).trans rfl;have p11w2 : w2.cell? ⟨bp,11,none⟩ = some (.string p.f11) := (blk_cell XPw2.out 11).trans rfl;have r0w2 : w2.cell? ⟨br,0,none⟩ = some (.int .i64 0) := (blk_cell XRw2.out 0).trans rfl;have r1w2 : w2.cell? ⟨br,1,none⟩ = some (.slice none 0 0) := (blk_cell XRw2.out 1).trans rfl;have zr0w2 := blk_frozen XRw2.out 0;have zr1w2 := blk_frozen XRw2.out 1;have q0w2 : w2.cell? ⟨bq,0,none⟩ = some (.int .i64 0) := (blk_cell XQw2.out 0).trans rfl;have q1w2 : w2.cell? ⟨bq,1,none⟩ = some (.int .i64 0) := (blk_cell XQw2.out 1).trans rfl;have q2w2 : w2.cell? ⟨bq,2,none⟩ = some (.int .i64 0) := (blk_cell XQw2.out 2).trans rfl;have q3w2 : w2.cell? ⟨bq,3,none⟩ = some (.int .i64 0) := (blk_cell XQw2.out 3).trans rfl;have q4w2 : w2.cell? ⟨bq,4,none⟩ = some (.int .i64 0) := (blk_cell XQw2.out 4).trans rfl;have q5w2 : w2.cell? ⟨bq,5,none⟩ = some (.int .i64 0) := (blk_cell XQw2.out 5).trans rfl;have q6w2 : w2.cell? ⟨bq,6,none⟩ = some (.int .u64 0) := (blk_cell XQw2.out 6).trans rfl;have q7w2 : w2.cell? ⟨bq,7,none⟩ = some (.int .i64 0) := (blk_cell XQw2.out 7).trans rfl;have q8w2 : w2.cell? ⟨bq,8,none⟩ = some (.string ⟨#[]⟩) := (blk_cell XQw2.out 8).trans rfl;have q9w2 : w2.cell? ⟨bq,9,none⟩ = some (.int .i64 0) := (blk_cell XQw2.out 9).trans rfl;have q10w2 : w2.cell? ⟨bq,10,none⟩ = some (.int .i64 0) := (blk_cell XQw2.out 10).trans rfl;have q11w2 : w2.cell? ⟨bq,11,none⟩ = some (.string ⟨#[]⟩) := (blk_cell XQw2.out 11).trans rfl;have zq0w2 := blk_frozen XQw2.out 0;have zq1w2 := blk_frozen XQw2.out 1;have zq2w2 := blk_frozen XQw2.out 2;have zq3w2 := blk_frozen XQw2.out 3;have zq4w2 := blk_frozen XQw2.out 4;have zq5w2 := blk_frozen XQw2.out 5;have zq6w2 := blk_frozen XQw2.out 6;have zq7w2 := blk_frozen XQw2.out 7;have zq8w2 := blk_frozen XQw2.out 8;have zq9w2 := blk_frozen XQw2.out 9;have zq10w2 := blk_frozen XQw2.out 10;have zq11w2 := blk_frozen XQw2.out 11;have ltdw2 := blk_lt XDw2.out;have ltpw2 := blk_lt XPw2.out;have ltrw2 := blk_lt XRw2.out;have ltqw2 := blk_lt XQw2.out)
      go_meet
      exact ⟨rfl,I2⟩
    · by_cases k2 : p.f0 = 2
      · have k2b : (p.f0 != 2) = false := by simp [k2]
        have k2c : (p.f0 == 2) = true := by simp [k2]
        have kt : (p.f3 != self) = true := by have h := SV.out;unfold servable at h;rw [HM.out,k2c] at h;simpa using h
        clear k2 k2c
        go_wp2_with (go_at_call 44;(with_reducible refine (MY.out _).mono ?_);rintro e w2 ⟨rfl,hb⟩;have I2 := Aside0.mk (I1.out.below hb);clear hb;have XDw2 := Aside0.mk I2.out.2.1;have XPw2 := Aside0.mk I2.out.2.2.1;have XRw2 := Aside0.mk I2.out.2.2.2.1;have XQw2 := Aside0.mk I2.out.2.2.2.2;have d0w2 : w2.cell? ⟨bd,0,none⟩ = some (.int .i64 life) := (blk_cell XDw2.out 0).trans rfl;have d1w2 : w2.cell? ⟨bd,1,none⟩ = some (.slice A M.length c) := (blk_cell XDw2.out 1).trans rfl;have p0w2 : w2.cell? ⟨bp,0,none⟩ = some (.int .i64 p.f0) := (blk_cell XPw2.out 0).trans rfl;have p1w2 : w2.cell? ⟨bp,1,none⟩ = some (.int .i64 p.f1) := (blk_cell XPw2.out 1).trans rfl;have p2w2 : w2.cell? ⟨bp,2,none⟩ = some (.int .i64 p.f2) := (blk_cell XPw2.out 2).trans rfl;have p3w2 : w2.cell? ⟨bp,3,none⟩ = some (.int .i64 p.f3) := (blk_cell XPw2.out 3).trans rfl;have p4w2 : w2.cell? ⟨bp,4,none⟩ = some (.int .i64 p.f4) := (blk_cell XPw2.out 4).trans rfl;have p5w2 : w2.cell? ⟨bp,5,none⟩ = some (.int .i64 p.f5) := (blk_cell XPw2.out 5).trans rfl;have p6w2 : w2.cell? ⟨bp,6,none⟩ = some (.int .u64 p.f6) := (blk_cell XPw2.out 6).trans rfl;have p7w2 : w2.cell? ⟨bp,7,none⟩ = some (.int .i64 p.f7) := (blk_cell XPw2.out 7).trans rfl;have p8w2 : w2.cell? ⟨bp,8,none⟩ = some (.string p.f8) := (blk_cell XPw2.out 8).trans rfl;have p9w2 : w2.cell? ⟨bp,9,none⟩ = some (.int .i64 p.f9) := (blk_cell XPw2.out 9).trans rfl;have p10w2 : w2.cell? ⟨bp,10,none⟩ = some (.int .i64 p.f10) := (blk_cell XPw2.out 10).trans rfl;have p11w2 : w2.cell? ⟨bp,11,none⟩ = some (.string p.f11) := (blk_cell XPw2.out 11).trans rfl;have r0w2 : w2.cell? ⟨br,0,none⟩ = some (.int .i64 0) := (blk_cell XRw2.out 0).trans rfl;have r1w2 : w2.cell? ⟨br,1,none⟩ = some (.slice none 0 0) := (blk_cell XRw2.out 1).trans rfl;have zr0w2 := blk_frozen XRw2.out 0;have zr1w2 := blk_frozen XRw2.out 1;have q0w2 : w2.cell? ⟨bq,0,none⟩ = some (.int .i64 0) := (blk_cell XQw2.out 0).trans rfl;have q1w2 : w2.cell? ⟨bq,1,none⟩ = some (.int .i64 0) := (blk_cell XQw2.out 1).trans rfl;have q2w2 : w2.cell? ⟨bq,2,none⟩ = some (.int .i64 0) := (blk_cell XQw2.out 2).trans rfl;have q3w2 : w2.cell? ⟨bq,3,none⟩ = some (.int .i64 0) := (blk_cell XQw2.out 3).trans rfl;have q4w2 : w2.cell? ⟨bq,4,none⟩ = some (.int .i64 0) := (blk_cell XQw2.out 4).trans rfl;have q5w2 : w2.cell? ⟨bq,5,none⟩ = some (.int .i64 0) := (blk_cell XQw2.out 5).trans rfl;have q6w2 : w2.cell? ⟨bq,6,none⟩ = some (.int .u64 0) := (blk_cell XQw2.out 6).trans rfl;have q7w2 : w2.cell? ⟨bq,7,none⟩ = some (.int .i64 0) := (blk_cell XQw2.out 7).trans rfl;have q8w2 : w2.cell? ⟨bq,8,none⟩ = some (.string ⟨#[]⟩) := (blk_cell XQw2.out 8).trans rfl;have q9w2 : w2.cell? ⟨bq,9,none⟩ = some (.int .i64 0) := (blk_cell XQw2.out 9).trans rfl;have q10w2 : w2.cell? ⟨bq,10,none⟩ = some (.int .i64 0) := (blk_cell XQw2.out 10).trans rfl;have q11w2 : w2.cell? ⟨bq,11,none⟩ = some (.string ⟨#[]⟩) := (blk_cell XQw2.out 11).trans rfl;have zq0w2 := blk_frozen XQw2.out 0;have zq1w2 := blk_frozen XQw2.out 1;have zq2w2 := blk_frozen XQw2.out 2;have zq3w2 := blk_frozen XQw2.out 3;have zq4w2 := blk_frozen XQw2.out 4;have zq5w2 := blk_frozen XQw2.out 5;have zq6w2 := blk_frozen XQw2.out 6;have zq7w2 := blk_frozen XQw2.out 7;have zq8w2 := blk_frozen XQw2.out 8;have zq9w2 := blk_frozen XQw2.out 9;have zq10w2 := blk_frozen XQw2.out 10;have zq11w2 := blk_frozen XQw2.out 11;have ltdw2 := blk_lt XDw2.out;have ltpw2 := blk_lt XPw2.out;have ltrw2 := blk_lt XRw2.out;have ltqw2 := blk_lt XQw2.out)
        go_meet
        exact ⟨rfl,I2⟩
      · have k2b : (p.f0 != 2) = true := by simpa using k2
        by_cases k3 : p.f0 = 3
        · have k3b : (p.f0 != 3) = false := by simp [k3]
          have k3c : (p.f0 == 3) = true := by simp [k3]
          have kt : (p.f3 != self) = true := by have h := SV.out;unfold servable at h;rw [HM.out,k3c] at h;simpa using h
          clear k2 k3 k3c
          go_wp2_with (go_at_call 44;(with_reducible refine (MY.out _).mono ?_);rintro e w2 ⟨rfl,hb⟩;have I2 := Aside0.mk (I1.out.below hb);clear hb;have XDw2 := Aside0.mk I2.out.2.1;have XPw2 := Aside0.mk I2.out.2.2.1;have XRw2 := Aside0.mk I2.out.2.2.2.1;have XQw2 := Aside0.mk I2.out.2.2.2.2;have d0w2 : w2.cell? ⟨bd,0,none⟩ = some (.int .i64 life) := (blk_cell XDw2.out 0).trans rfl;have d1w2 : w2.cell? ⟨bd,1,none⟩ = some (.slice A M.length c) := (blk_cell XDw2.out 1).trans rfl;have p0w2 : w2.cell? ⟨bp,0,none⟩ = some (.int .i64 p.f0) := (blk_cell XPw2.out 0).trans rfl;have p1w2 : w2.cell? ⟨bp,1,none⟩ = some (.int .i64 p.f1) := (blk_cell XPw2.out 1).trans rfl;have p2w2 : w2.cell? ⟨bp,2,none⟩ = some (.int .i64 p.f2) := (blk_cell XPw2.out 2).trans rfl;have p3w2 : w2.cell? ⟨bp,3,none⟩ = some (.int .i64 p.f3) := (blk_cell XPw2.out 3).trans rfl;have p4w2 : w2.cell? ⟨bp,4,none⟩ = some (.int .i64 p.f4) := (blk_cell XPw2.out 4).trans rfl;have p5w2 : w2.cell? ⟨bp,5,none⟩ = some (.int .i64 p.f5) := (blk_cell XPw2.out 5).trans rfl;have p6w2 : w2.cell? ⟨bp,6,none⟩ = some (.int .u64 p.f6) := (blk_cell XPw2.out 6).trans rfl;have p7w2 : w2.cell? ⟨bp,7,none⟩ = some (.int .i64 p.f7) := (blk_cell XPw2.out 7).trans rfl;have p8w2 : w2.cell? ⟨bp,8,none⟩ = some (.string p.f8) := (blk_cell XPw2.out 8).trans rfl;have p9w2 : w2.cell? ⟨bp,9,none⟩ = some (.int .i64 p.f9) := (blk_cell XPw2.out 9).trans rfl;have p10w2 : w2.cell? ⟨bp,10,none⟩ = some (.int .i64 p.f10) := (blk_cell XPw2.out 10).trans rfl;have p11w2 : w2.cell? ⟨bp,11,none⟩ = some (.string p.f11) := (blk_cell XPw2.out 11).trans rfl;have r0w2 : w2.cell? ⟨br,0,none⟩ = some (.int .i64 0) := (blk_cell XRw2.out 0).trans rfl;have r1w2 : w2.cell? ⟨br,1,none⟩ = some (.slice none 0 0) := (blk_cell XRw2.out 1).trans rfl;have zr0w2 := blk_frozen XRw2.out 0;have zr1w2 := blk_frozen XRw2.out 1;have q0w2 : w2.cell? ⟨bq,0,none⟩ = some (.int .i64 0) := (blk_cell XQw2.out 0).trans rfl;have q1w2 : w2.cell? ⟨bq,1,none⟩ = some (.int .i64 0) := (blk_cell XQw2.out 1).trans rfl;have q2w2 : w2.cell? ⟨bq,2,none⟩ = some (.int .i64 0) := (blk_cell XQw2.out 2).trans rfl;have q3w2 : w2.cell? ⟨bq,3,none⟩ = some (.int .i64 0) := (blk_cell XQw2.out 3).trans rfl;have q4w2 : w2.cell? ⟨bq,4,none⟩ = some (.int .i64 0) := (blk_cell XQw2.out 4).trans rfl;have q5w2 : w2.cell? ⟨bq,5,none⟩ = some (.int .i64 0) := (blk_cell XQw2.out 5).trans rfl;have q6w2 : w2.cell? ⟨bq,6,none⟩ = some (.int .u64 0) := (blk_cell XQw2.out 6).trans rfl;have q7w2 : w2.cell? ⟨bq,7,none⟩ = some (.int .i64 0) := (blk_cell XQw2.out 7).trans rfl;have q8w2 : w2.cell? ⟨bq,8,none⟩ = some (.string ⟨#[]⟩) := (blk_cell XQw2.out 8).trans rfl;have q9w2 : w2.cell? ⟨bq,9,none⟩ = some (.int .i64 0) := (blk_cell XQw2.out 9).trans rfl;have q10w2 : w2.cell? ⟨bq,10,none⟩ = some (.int .i64 0) := (blk_cell XQw2.out 10).trans rfl;have q11w2 : w2.cell? ⟨bq,11,none⟩ = some (.string ⟨#[]⟩) := (blk_cell XQw2.out 11).trans rfl;have zq0w2 := blk_frozen XQw2.out 0;have zq1w2 := blk_frozen XQw2.out 1;have zq2w2 := blk_frozen XQw2.out 2;have zq3w2 := blk_frozen XQw2.out 3;have zq4w2 := blk_frozen XQw2.out 4;have zq5w2 := blk_frozen XQw2.out 5;have zq6w2 := blk_frozen XQw2.out 6;have zq7w2 := blk_frozen XQw2.out 7;have zq8w2 := blk_frozen XQw2.out 8;have zq9w2 := blk_frozen XQw2.out 9;have zq10w2 := blk_frozen XQw2.out 10;have zq11w2 := blk_frozen XQw2.out 11;have ltdw2 := blk_lt XDw2.out;have ltpw2 := blk_lt XPw2.out;have ltrw2 := blk_lt XRw2.out;have ltqw2 := blk_lt XQw2.out)
          go_meet
          exact ⟨rfl,I2⟩
        · have k3b : (p.f0 != 3) = true := by simpa using k3
          clear k2 k3
          go_wp2_with (go_at_call 44;(with_reducible refine (MY.out _).mono ?_);rintro e w2 ⟨rfl,hb⟩;have I2 := Aside0.mk (I1.out.below hb);clear hb;have XDw2 := Aside0.mk I2.out.2.1;have XPw2 := Aside0.mk I2.out.2.2.1;have XRw2 := Aside0.mk I2.out.2.2.2.1;have XQw2 := Aside0.mk I2.out.2.2.2.2;have d0w2 : w2.cell? ⟨bd,0,none⟩ = some (.int .i64 life) := (blk_cell XDw2.out 0).trans rfl;have d1w2 : w2.cell? ⟨bd,1,none⟩ = some (.slice A M.length c) := (blk_cell XDw2.out 1).trans rfl;have p0w2 : w2.cell? ⟨bp,0,none⟩ = some (.int .i64 p.f0) := (blk_cell XPw2.out 0).trans rfl;have p1w2 : w2.cell? ⟨bp,1,none⟩ = some (.int .i64 p.f1) := (blk_cell XPw2.out 1).trans rfl;have p2w2 : w2.cell? ⟨bp,2,none⟩ = some (.int .i64 p.f2) := (blk_cell XPw2.out 2).trans rfl;have p3w2 : w2.cell? ⟨bp,3,none⟩ = some (.int .i64 p.f3) := (blk_cell XPw2.out 3).trans rfl;have p4w2 : w2.cell? ⟨bp,4,none⟩ = some (.int .i64 p.f4) := (blk_cell XPw2.out 4).trans rfl;have p5w2 : w2.cell? ⟨bp,5,none⟩ = some (.int .i64 p.f5) := (blk_cell XPw2.out 5).trans rfl;have p6w2 : w2.cell? ⟨bp,6,none⟩ = some (.int .u64 p.f6) := (blk_cell XPw2.out 6).trans rfl;have p7w2 : w2.cell? ⟨bp,7,none⟩ = some (.int .i64 p.f7) := (blk_cell XPw2.out 7).trans rfl;have p8w2 : w2.cell? ⟨bp,8,none⟩ = some (.string p.f8) := (blk_cell XPw2.out 8).trans rfl;have p9w2 : w2.cell? ⟨bp,9,none⟩ = some (.int .i64 p.f9) := (blk_cell XPw2.out 9).trans rfl;have p10w2 : w2.cell? ⟨bp,10,none⟩ = some (.int .i64 p.f10) := (blk_cell XPw2.out 10).trans rfl;have p11w2 : w2.cell? ⟨bp,11,none⟩ = some (.string p.f11) := (blk_cell XPw2.out 11).trans rfl;have r0w2 : w2.cell? ⟨br,0,none⟩ = some (.int .i64 0) := (blk_cell XRw2.out 0).trans rfl;have r1w2 : w2.cell? ⟨br,1,none⟩ = some (.slice none 0 0) := (blk_cell XRw2.out 1).trans rfl;have zr0w2 := blk_frozen XRw2.out 0;have zr1w2 := blk_frozen XRw2.out 1;have q0w2 : w2.cell? ⟨bq,0,none⟩ = some (.int .i64 0) := (blk_cell XQw2.out 0).trans rfl;have q1w2 : w2.cell? ⟨bq,1,none⟩ = some (.int .i64 0) := (blk_cell XQw2.out 1).trans rfl;have q2w2 : w2.cell? ⟨bq,2,none⟩ = some (.int .i64 0) := (blk_cell XQw2.out 2).trans rfl;have q3w2 : w2.cell? ⟨bq,3,none⟩ = some (.int .i64 0) := (blk_cell XQw2.out 3).trans rfl;have q4w2 : w2.cell? ⟨bq,4,none⟩ = some (.int .i64 0) := (blk_cell XQw2.out 4).trans rfl;have q5w2 : w2.cell? ⟨bq,5,none⟩ = some (.int .i64 0) := (blk_cell XQw2.out 5).trans rfl;have q6w2 : w2.cell? ⟨bq,6,none⟩ = some (.int .u64 0) := (blk_cell XQw2.out 6).trans rfl;have q7w2 : w2.cell? ⟨bq,7,none⟩ = some (.int .i64 0) := (blk_cell XQw2.out 7).trans rfl;have q8w2 : w2.cell? ⟨bq,8,none⟩ = some (.string ⟨#[]⟩) := (blk_cell XQw2.out 8).trans rfl;have q9w2 : w2.cell? ⟨bq,9,none⟩ = some (.int .i64 0) := (blk_cell XQw2.out 9).trans rfl;have q10w2 : w2.cell? ⟨bq,10,none⟩ = some (.int .i64 0) := (blk_cell XQw2.out 10).trans rfl;have q11w2 : w2.cell? ⟨bq,11,none⟩ = some (.string ⟨#[]⟩) := (blk_cell XQw2.out 11).trans rfl;have zq0w2 := blk_frozen XQw2.out 0;have zq1w2 := blk_frozen XQw2.out 1;have zq2w2 := blk_frozen XQw2.out 2;have zq3w2 := blk_frozen XQw2.out 3;have zq4w2 := blk_frozen XQw2.out 4;have zq5w2 := blk_frozen XQw2.out 5;have zq6w2 := blk_frozen XQw2.out 6;have zq7w2 := blk_frozen XQw2.out 7;have zq8w2 := blk_frozen XQw2.out 8;have zq9w2 := blk_frozen XQw2.out 9;have zq10w2 := blk_frozen XQw2.out 10;have zq11w2 := blk_frozen XQw2.out 11;have ltdw2 := blk_lt XDw2.out;have ltpw2 := blk_lt XPw2.out;have ltrw2 := blk_lt XRw2.out;have ltqw2 := blk_lt XQw2.out)
          go_meet
          exact ⟨rfl,I2⟩
  case rest =>
  obtain ⟨rfl,I3⟩ := hcut
  rename World => wd
  have XDwd := Aside0.mk I3.out.2.1
  have XPwd := Aside0.mk I3.out.2.2.1
  have XRwd := Aside0.mk I3.out.2.2.2.1
  have XQwd := Aside0.mk I3.out.2.2.2.2
  have d0wd : wd.cell? ⟨bd,0,none⟩ = some (.int .i64 life) := (blk_cell XDwd.out 0).trans rfl
  have d1wd : wd.cell? ⟨bd,1,none⟩ = some (.slice A M.length c) := (blk_cell XDwd.out 1).trans rfl
  have p0wd : wd.cell? ⟨bp,0,none⟩ = some (.int .i64 p.f0) := (blk_cell XPwd.out 0).trans rfl
  have p1wd : wd.cell? ⟨bp,1,none⟩ = some (.int .i64 p.f1) := (blk_cell XPwd.out 1).trans rfl
  have p2wd : wd.cell? ⟨bp,2,none⟩ = some (.int .i64 p.f2) := (blk_cell XPwd.out 2).trans rfl
  have p3wd : wd.cell? ⟨bp,3,none⟩ = some (.int .i64 p.f3) := (blk_cell XPwd.out 3).trans rfl
  have p4wd : wd.cell? ⟨bp,4,none⟩ = some (.int .i64 p.f4) := (blk_cell XPwd.out 4).trans rfl
  have p5wd : wd.cell? ⟨bp,5,none⟩ = some (.int .i64 p.f5) := (blk_cell XPwd.out 5).trans rfl
  have p6wd : wd.cell? ⟨bp,6,none⟩ = some (.int .u64 p.f6) := (blk_cell XPwd.out 6).trans rfl
  have p7wd : wd.cell? ⟨bp,7,none⟩ = some (.int .i64 p.f7) := (blk_cell XPwd.out 7).trans rfl
  have p8wd : wd.cell? ⟨bp,8,none⟩ = some (.string p.f8) := (blk_cell XPwd.out 8).trans rfl
  have p9wd : wd.cell? ⟨bp,9,none⟩ = some (.int .i64 p.f9) := (blk_cell XPwd.out 9).trans rfl
  have p10wd : wd.cell? ⟨bp,10,none⟩ = some (.int .i64 p.f10) := (blk_cell XPwd.out 10).trans rfl
  have p11wd : wd.cell? ⟨bp,11,none⟩ = some (.string p.f11) := (blk_cell XPwd.out 11).trans rfl
  have r0wd : wd.cell? ⟨br,0,none⟩ = some (.int .i64 0) := (blk_cell XRwd.out 0).trans rfl
  have r1wd : wd.cell? ⟨br,1,none⟩ = some (.slice none 0 0) := (blk_cell XRwd.out 1).trans rfl
  have zr0wd := blk_frozen XRwd.out 0
  have zr1wd := blk_frozen XRwd.out 1
  have q0wd : wd.cell? ⟨bq,0,none⟩ = some (.int .i64 0) := (blk_cell XQwd.out 0).trans rfl
  have q1wd : wd.cell? ⟨bq,1,none⟩ = some (.int .i64 0) := (blk_cell XQwd.out 1).trans rfl
  have q2wd : wd.cell? ⟨bq,2,none⟩ = some (.int .i64 0) := (blk_cell XQwd.out 2).trans rfl
  have q3wd : wd.cell? ⟨bq,3,none⟩ = some (.int .i64 0) := (blk_cell XQwd.out 3).trans rfl
  have q4wd : wd.cell? ⟨bq,4,none⟩ = some (.int .i64 0) := (blk_cell XQwd.out 4).trans rfl
  have q5wd : wd.cell? ⟨bq,5,none⟩ = some (.int .i64 0) := (blk_cell XQwd.out 5).trans rfl
  have q6wd : wd.cell? ⟨bq,6,none⟩ = some (.int .u64 0) := (blk_cell XQwd.out 6).trans rfl
  have q7wd : wd.cell? ⟨bq,7,none⟩ = some (.int .i64 0) := (blk_cell XQwd.out 7).trans rfl
  have q8wd : wd.cell? ⟨bq,8,none⟩ = some (.string ⟨#[]⟩) := (blk_cell XQwd.out 8).trans rfl
  have q9wd : wd.cell? ⟨bq,9,none⟩ = some (.int .i64 0) := (blk_cell XQwd.out 9).trans rfl
  have q10wd : wd.cell? ⟨bq,10,none⟩ = some (.int .i64 0) := (blk_cell XQwd.out 10).trans rfl
  have q11wd : wd.cell? ⟨bq,11,none⟩ = some (.string ⟨#[]⟩) := (blk_cell XQwd.out 11).trans rfl
  have zq0wd := blk_frozen XQwd.out 0
  have zq1wd := blk_frozen XQwd.out 1
  have zq2wd := blk_frozen XQwd.out 2
  have zq3wd := blk_frozen XQwd.out 3
  have zq4wd := blk_frozen XQwd.out 4
  have zq5wd := blk_frozen XQwd.out 5
  have zq6wd := blk_frozen XQwd.out 6
  have zq7wd := blk_frozen XQwd.out 7
  have zq8wd := blk_frozen XQwd.out 8
  have zq9wd := blk_frozen XQwd.out 9
  have zq10wd := blk_frozen XQwd.out 10
  have zq11wd := blk_frozen XQwd.out 11
  have ltdwd := blk_lt XDwd.out
  have ltpwd := blk_lt XPwd.out
  have ltrwd := blk_lt XRwd.out
  have ltqwd := blk_lt XQwd.out
  go_wp2_with fail
  obtain ⟨W,hW⟩ : ∃ W,W = ((((((((((((((wd.setCell ⟨br,0,none⟩ (.int .i64 life)).setCell ⟨br,1,none⟩ (.slice A M.length c)).setCell ⟨bq,0,none⟩ (.int .i64 0)).setCell ⟨bq,1,none⟩ (.int .i64 0)).setCell ⟨bq,2,none⟩ (.int .i64 0)).setCell ⟨bq,3,none⟩ (.int .i64 0)).setCell ⟨bq,4,none⟩ (.int .i64 0)).setCell ⟨bq,5,none⟩ (.int .i64 0)).setCell ⟨bq,6,none⟩ (.int .u64 0)).setCell ⟨bq,7,none⟩ (.int .i64 0)).setCell ⟨bq,8,none⟩ (.string ⟨#[]⟩)).setCell ⟨bq,9,none⟩ (.int .i64 0)).setCell ⟨bq,10,none⟩ (.int .i64 0)).setCell ⟨bq,11,none⟩ (.string ⟨#[]⟩)) := ⟨_,rfl⟩
  have BK := rserve_no I3.out HR.out HC.out XR.out ES.out TS.out LS.out
  have BQ := rs_endz (A' := A) (n' := M.length) (c' := c) I3.out XR.out
  rw [← hW] at BK BQ ⊢
  clear hW
  have h0 : W.cell? ⟨br,0,none⟩ = some (.int .i64 life) := (blk_cell BQ.1 0).trans rfl
  have h1 : W.cell? ⟨br,1,none⟩ = some (.slice A M.length c) := (blk_cell BQ.1 1).trans rfl
  have g0 : W.cell? ⟨bq,0,none⟩ = some (.int .i64 0) := (blk_cell BQ.2.1 0).trans rfl
  have g1 : W.cell? ⟨bq,1,none⟩ = some (.int .i64 0) := (blk_cell BQ.2.1 1).trans rfl
  have g2 : W.cell? ⟨bq,2,none⟩ = some (.int .i64 0) := (blk_cell BQ.2.1 2).trans rfl
  have g3 : W.cell? ⟨bq,3,none⟩ = some (.int .i64 0) := (blk_cell BQ.2.1 3).trans rfl
  have g4 : W.cell? ⟨bq,4,none⟩ = some (.int .i64 0) := (blk_cell BQ.2.1 4).trans rfl
  have g5 : W.cell? ⟨bq,5,none⟩ = some (.int .i64 0) := (blk_cell BQ.2.1 5).trans rfl
  have g6 : W.cell? ⟨bq,6,none⟩ = some (.int .u64 0) := (blk_cell BQ.2.1 6).trans rfl
  have g7 : W.cell? ⟨bq,7,none⟩ = some (.int .i64 0) := (blk_cell BQ.2.1 7).trans rfl
  have g8 : W.cell? ⟨bq,8,none⟩ = some (.string ⟨#[]⟩) := (blk_cell BQ.2.1 8).trans rfl
  have g9 : W.cell? ⟨bq,9,none⟩ = some (.int .i64 0) := (blk_cell BQ.2.1 9).trans rfl
  have g10 : W.cell? ⟨bq,10,none⟩ = some (.int .i64 0) := (blk_cell BQ.2.1 10).trans rfl
  have g11 : W.cell? ⟨bq,11,none⟩ = some (.string ⟨#[]⟩) := (blk_cell BQ.2.1 11).trans rfl
  exact bodyPost_ret (v := .tuple #[.agg #[.int .i64 life,.slice A M.length c],pkV z30,.bool false,.int .i64 60]) (by simp [results,Try.results23,go_sem,pkV,z30,h0,h1,g0,g1,g2,g3,g4,g5,g6,g7,g8,g9,g10,g11]) rfl BK
def PutRest (W : World) (life : Int) (A A' : Option Addr) (M : List S57) (s : ByteArray) (id at_ : Int) (n1 c' : Nat) (w' : World) : Prop :=
  (rputL life M s id at_).length = n1 ∧ n1 ≤ c' ∧ Kd.C k57 w' A' n1 (rputL life M s id at_) ∧ Below W.heap.size W w' ∧ (A' = A ∧ rputL life M s id at_ = M ∨ ∀ ad,A' = some ad → W.heap.size ≤ ad.block)
theorem put_rest (W : World) (life : Int) (A : Option Addr) (c : Nat) (M : List S57) (hr : Kd.C k57 W A M.length M) (hc : M.length ≤ c) (hl : M.length ≤ 4096) (hby : ByName M) (hnd : (M.map (·.f0)).Nodup) (s : ByteArray) (id at_ : Int) (n1 : Nat) (e1 : Int) (hn1 : (rputL life M s id at_).length = n1) (he1 : putE M s id at_ = e1) :
    Calls Try.prog 18 #[.agg #[.int .i64 life,.slice A M.length c],.string s,.int .i64 id,.int .i64 at_] W fun e w' => ∃ A' c',e = .returned (.tuple #[.agg #[.int .i64 life,.slice A' n1 c'],.int .i64 e1]) ∧ Aside0 (PutRest W life A A' M s id at_ n1 c' w') := by
  refine (dput_any W life A c M hr hc hl hby hnd s id at_).mono ?_
  rintro e w' ⟨A',c',h1,h2,h3,h4,h5⟩
  rw [hn1] at h1 h2 h3
  rw [he1] at h1
  exact ⟨A',c',h1,⟨hn1,h2,h3,h4,h5⟩⟩
theorem rserve_put_end {w wd w3 : World} {bd bp br bq : Nat} {life : Int} {A A' : Option Addr} {M : List S57} {c c' n1 : Nat} {self home hops e1 : Int} {p : S30} (h : SBase w wd bd bp br bq life A M.length c p) (hr : Kd.C k57 w A M.length M) (hx : w.heap.size ≤ br ∧ w.heap.size ≤ bq ∧ br ≠ bq) (h3 : PutRest wd life A A' M p.f8 p.f9 p.f10 n1 c' w3)
    (hE : serveE M self home hops p = e1) (hT : serveT self home hops p = false) (hL : rserveL life M self home hops p = rputL life M p.f8 p.f9 p.f10) :
    RServeOut w life A M self home hops p (.returned (.tuple #[.agg #[.int .i64 life,.slice A' n1 c'],pkV z30,.bool false,.int .i64 e1])) (((((((((((((((w3.setCell ⟨br,0,none⟩ (.int .i64 life)).setCell ⟨br,1,none⟩ (.slice A' n1 c')).setCell ⟨bq,0,none⟩ (.int .i64 0)).setCell ⟨bq,1,none⟩ (.int .i64 0)).setCell ⟨bq,2,none⟩ (.int .i64 0)).setCell ⟨bq,3,none⟩ (.int .i64 0)).setCell ⟨bq,4,none⟩ (.int .i64 0)).setCell ⟨bq,5,none⟩ (.int .i64 0)).setCell ⟨bq,6,none⟩ (.int .u64 0)).setCell ⟨bq,7,none⟩ (.int .i64 0)).setCell ⟨bq,8,none⟩ (.string ⟨#[]⟩)).setCell ⟨bq,9,none⟩ (.int .i64 0)).setCell ⟨bq,10,none⟩ (.int .i64 0)).setCell ⟨bq,11,none⟩ (.string ⟨#[]⟩)).alloc (Obj.cells #[.int .i64 life,.slice A' n1 c'] 42)) := by
  obtain ⟨hn,hcc,hC,hb,ho⟩ := h3
  obtain ⟨b1,b2,b3',b4⟩ := rs_endz (A' := A') (n' := n1) (c' := c') (h.below hb) hx
  have b3 := below_alloc b3' (Obj.cells #[.int .i64 life,.slice A' n1 c'] 42)
  have q1 := blk_lt h.2.2.2.1
  have q2 := blk_lt h.2.2.2.2
  have q3 := h.1.size
  refine ⟨A',c',?_,by rw [hL,hn];exact hcc,?_,b3,?_⟩
  · unfold serveP
    rw [hL,hn,hE,hT,if_neg (by simp)]
  · rw [hL,hn]
    rcases ho with ⟨rfl,hM⟩ | hf
    · rw [hM] at hn ⊢
      subst hn
      exact Kd.C_below hr b3
    · exact Kd.C_alloc (b4 hC (fun ad he => by have := hf ad he;omega)) _
  · rw [hL]
    rcases ho with ⟨rfl,hM⟩ | hf
    · exact .inl ⟨rfl,hM⟩
    · exact .inr (fun ad he => by have := hf ad he;omega)
set_option maxHeartbeats 2000000 in
set_option maxRecDepth 100000 in
theorem rserve_put (w : World) (life : Int) (A : Option Addr) (c : Nat) (M : List S57) (hr : Kd.C k57 w A M.length M) (hc : M.length ≤ c) (self home hops : Int) (p : S30) (hl : M.length ≤ 4096) (hby : ByName M) (hnd : (M.map (·.f0)).Nodup) (hn : askedV self home hops = 0) (hs : servable self p = true) (hk : p.f0 = 2) :
    Calls Try.prog 23 #[.agg #[.int .i64 life,.slice A M.length c],.int .i64 self,.int .i64 home,.int .i64 hops,.agg #[.int .i64 p.f0,.int .i64 p.f1,.int .i64 p.f2,.int .i64 p.f3,.int .i64 p.f4,.int .i64 p.f5,.int .u64 p.f6,.int .i64 p.f7,.string p.f8,.int .i64 p.f9,.int .i64 p.f10,.string p.f11]] w fun e w' => RServeOut w life A M self home hops p e w' := by
  have hu30 := Try.underlying30
  have hu42 := Try.underlying42
  have hu57 := Try.underlying57
  have HR := Aside0.mk hr
  have HC := Aside0.mk hc
  have AS := Aside0.mk (fun W => rasked_any self home hops 0 hn W)
  obtain ⟨n1,hn1⟩ : ∃ n,(rputL life M p.f8 p.f9 p.f10).length = n := ⟨_,rfl⟩
  obtain ⟨e1,he1⟩ : ∃ e,putE M p.f8 p.f9 p.f10 = e := ⟨_,rfl⟩
  have ES : Aside0 (serveE M self home hops p = e1) := ⟨by unfold serveE;rw [hn,if_neg (by simp),if_neg (by rw [hs];simp),if_pos hk,he1]⟩
  have TS : Aside0 (serveT self home hops p = false) := ⟨by unfold serveT;rw [hk];simp⟩
  have LS : Aside0 (rserveL life M self home hops p = rputL life M p.f8 p.f9 p.f10) := ⟨by unfold rserveL;rw [if_pos ⟨hn,hs,hk⟩]⟩
  have PU := Aside0.mk (fun W h => put_rest W life A c M h hc hl hby hnd p.f8 p.f9 p.f10 n1 e1 hn1 he1)
  have hm : mayP p = true := by cases h9 : mayP p;(unfold servable at hs;rw [h9] at hs;simp at hs);rfl
  have MY := Aside0.mk (fun W => rmay_any p true hm W)
  have kt : (p.f3 != self) = false := by unfold servable at hs;rw [hm,hk] at hs;simpa using hs
  have k2b : (p.f0 != 2) = false := by simp [hk]
  have k2c : (p.f0 == 2) = true := by simp [hk]
  have k3b : (p.f0 != 3) = true := by simp [hk]
  clear hn hs hm hk hl hby hnd hn1 he1
  obtain ⟨w0,hw0⟩ : ∃ w0,w0 = ((((w.alloc (Obj.cells #[.int .i64 life,.slice A M.length c] 42)).alloc (Obj.cells #[.int .i64 p.f0,.int .i64 p.f1,.int .i64 p.f2,.int .i64 p.f3,.int .i64 p.f4,.int .i64 p.f5,.int .u64 p.f6,.int .i64 p.f7,.string p.f8,.int .i64 p.f9,.int .i64 p.f10,.string p.f11] 30)).alloc (Obj.cells #[.int .i64 0,.slice none 0 0] 42)).alloc (Obj.cells #[.int .i64 0,.int .i64 0,.int .i64 0,.int .i64 0,.int .i64 0,.int .i64 0,.int .u64 0,.int .i64 0,.string ⟨#[]⟩,.int .i64 0,.int .i64 0,.string ⟨#[]⟩] 30)) := ⟨_,rfl⟩
  obtain ⟨bd,hbd⟩ : ∃ b,b = w.heap.size := ⟨_,rfl⟩
  obtain ⟨bp,hbp⟩ : ∃ b,b = w.heap.size + 1 := ⟨_,rfl⟩
  obtain ⟨br,hbr⟩ : ∃ b,b = w.heap.size + 2 := ⟨_,rfl⟩
  obtain ⟨bq,hbq⟩ : ∃ b,b = w.heap.size + 3 := ⟨_,rfl⟩
  have W0 := Aside0.mk (And.intro hw0 (And.intro hbd (And.intro hbp (And.intro hbr hbq))))
  have I0 : Aside0 (SBase w w0 bd bp br bq life A M.length c p) := ⟨by rw [hw0,hbd,hbp,hbr,hbq];exact sbase_start w life A M.length c p⟩
  have XR : Aside0 (w.heap.size ≤ br ∧ w.heap.size ≤ bq ∧ br ≠ bq) := ⟨by omega⟩
  have XB : Aside0 (bd ≠ br ∧ bd ≠ bq) := ⟨by omega⟩
  clear hw0 hbd hbp hbr hbq hr hc
  go_enter Try.func23,Try.ntmps23
  go_upto_region 1 with fail
  rw [← W0.out.2.2.2.2,← W0.out.2.2.2.1,← W0.out.2.2.1,← W0.out.2.1,← W0.out.1]
  have hne1 := XR.out.2.2
  have hne2 := Ne.symm XR.out.2.2
  go_wp2_with (first | (go_at_call 43;(with_reducible refine (AS.out _).mono ?_);rintro e w1 ⟨rfl,hb⟩;have I1 := Aside0.mk (I0.out.below hb);clear hb;have XDw1 := Aside0.mk I1.out.2.1;have XPw1 := Aside0.mk I1.out.2.2.1;have XRw1 := Aside0.mk I1.out.2.2.2.1;have XQw1 := Aside0.mk I1.out.2.2.2.2;have d0w1 : w1.cell? ⟨bd,0,none⟩ = some (.int .i64 life) := (blk_cell XDw1.out 0).trans rfl;have d1w1 : w1.cell? ⟨bd,1,none⟩ = some (.slice A M.length c) := (blk_cell XDw1.out 1).trans rfl;have p0w1 : w1.cell? ⟨bp,0,none⟩ = some (.int .i64 p.f0) := (blk_cell XPw1.out 0).trans rfl;have p1w1 : w1.cell? ⟨bp,1,none⟩ = some (.int .i64 p.f1) := (blk_cell XPw1.out 1).trans rfl;have p2w1 : w1.cell? ⟨bp,2,none⟩ = some (.int .i64 p.f2) := (blk_cell XPw1.out 2).trans rfl;have p3w1 : w1.cell? ⟨bp,3,none⟩ = some (.int .i64 p.f3) := (blk_cell XPw1.out 3).trans rfl;have p4w1 : w1.cell? ⟨bp,4,none⟩ = some (.int .i64 p.f4) := (blk_cell XPw1.out 4).trans rfl;have p5w1 : w1.cell? ⟨bp,5,none⟩ = some (.int .i64 p.f5) := (blk_cell XPw1.out 5).trans rfl;have p6w1 : w1.cell? ⟨bp,6,none⟩ = some (.int .u64 p.f6) := (blk_cell XPw1.out 6).trans rfl;have p7w1 : w1.cell? ⟨bp,7,none⟩ = some (.int .i64 p.f7) := (blk_cell XPw1.out 7).trans rfl;have p8w1 : w1.cell? ⟨bp,8,none⟩ = some (.string p.f8) := (blk_cell XPw1.out 8).trans rfl;have p9w1 : w1.cell? ⟨bp,9,none⟩ = some (.int .i64 p.f9) := (blk_cell XPw1.out 9).trans rfl;have p10w1 : w1.cell? ⟨bp,10,none⟩ = some (.int .i64 p.f10) := (blk_cell XPw1.out 10).trans rfl;have p11w1 : w1.cell? ⟨bp,11,none⟩ = some (.string p.f11) := (blk_cell XPw1.out 11).trans rfl;have r0w1 : w1.cell? ⟨br,0,none⟩ = some (.int .i64 0) := (blk_cell XRw1.out 0).trans rfl;have r1w1 : w1.cell? ⟨br,1,none⟩ = some (.slice none 0 0) := (blk_cell XRw1.out 1).trans rfl;have zr0w1 := blk_frozen XRw1.out 0;have zr1w1 := blk_frozen XRw1.out 1;have q0w1 : w1.cell? ⟨bq,0,none⟩ = some (.int .i64 0) := (blk_cell XQw1.out 0).trans rfl;have q1w1 : w1.cell? ⟨bq,1,none⟩ = some (.int .i64 0) := (blk_cell XQw1.out 1).trans rfl;have q2w1 : w1.cell? ⟨bq,2,none⟩ = some (.int .i64 0) := (blk_cell XQw1.out 2).trans rfl;have q3w1 : w1.cell? ⟨bq,3,none⟩ = some (.int .i64 0) := (blk_cell XQw1.out 3).trans rfl;have q4w1 : w1.cell? ⟨bq,4,none⟩ = some (.int .i64 0) := (blk_cell XQw1.out 4).trans rfl;have q5w1 : w1.cell? ⟨bq,5,none⟩ = some (.int .i64 0) := (blk_cell XQw1.out 5).trans rfl;have q6w1 : w1.cell? ⟨bq,6,none⟩ = some (.int .u64 0) := (blk_cell XQw1.out 6).trans rfl;have q7w1 : w1.cell? ⟨bq,7,none⟩ = some (.int .i64 0) := (blk_cell XQw1.out 7).trans rfl;have q8w1 : w1.cell? ⟨bq,8,none⟩ = some (.string ⟨#[]⟩) := (blk_cell XQw1.out 8).trans rfl;have q9w1 : w1.cell? ⟨bq,9,none⟩ = some (.int .i64 0) := (blk_cell XQw1.out 9).trans rfl;have q10w1 : w1.cell? ⟨bq,10,none⟩ = some (.int .i64 0) := (blk_cell XQw1.out 10).trans rfl;have q11w1 : w1.cell? ⟨bq,11,none⟩ = some (.string ⟨#[]⟩) := (blk_cell XQw1.out 11).trans rfl;have zq0w1 := blk_frozen XQw1.out 0;have zq1w1 := blk_frozen XQw1.out 1;have zq2w1 := blk_frozen XQw1.out 2;have zq3w1 := blk_frozen XQw1.out 3;have zq4w1 := blk_frozen XQw1.out 4;have zq5w1 := blk_frozen XQw1.out 5;have zq6w1 := blk_frozen XQw1.out 6;have zq7w1 := blk_frozen XQw1.out 7;have zq8w1 := blk_frozen XQw1.out 8;have zq9w1 := blk_frozen XQw1.out 9;have zq10w1 := blk_frozen XQw1.out 10;have zq11w1 := blk_frozen XQw1.out 11;have ltdw1 := blk_lt XDw1.out;have ltpw1 := blk_lt XPw1.out;have ltrw1 := blk_lt XRw1.out;have ltqw1 := blk_lt XQw1.out) | (go_at_call 44;(with_reducible refine (MY.out _).mono ?_);rintro e w2 ⟨rfl,hb⟩;have I2 := Aside0.mk (I1.out.below hb);clear hb;have XDw2 := Aside0.mk I2.out.2.1;have XPw2 := Aside0.mk I2.out.2.2.1;have XRw2 := Aside0.mk I2.out.2.2.2.1;have XQw2 := Aside0.mk I2.out.2.2.2.2;have d0w2 : w2.cell? ⟨bd,0,none⟩ = some (.int .i64 life) := (blk_cell XDw2.out 0).trans rfl;have d1w2 : w2.cell? ⟨bd,1,none⟩ = some (.slice A M.length c) := (blk_cell XDw2.out 1).trans rfl;have p0w2 : w2.cell? ⟨bp,0,none⟩ = some (.int .i64 p.f0) := (blk_cell XPw2.out 0).trans rfl;have p1w2 : w2.cell? ⟨bp,1,none⟩ = some (.int .i64 p.f1) := (blk_cell XPw2.out 1).trans rfl;have p2w2 : w2.cell? ⟨bp,2,none⟩ = some (.int .i64 p.f2) := (blk_cell XPw2.out 2).trans rfl;have p3w2 : w2.cell? ⟨bp,3,none⟩ = some (.int .i64 p.f3) := (blk_cell XPw2.out 3).trans rfl;have p4w2 : w2.cell? ⟨bp,4,none⟩ = some (.int .i64 p.f4) := (blk_cell XPw2.out 4).trans rfl;have p5w2 : w2.cell? ⟨bp,5,none⟩ = some (.int .i64 p.f5) := (blk_cell XPw2.out 5).trans rfl;have p6w2 : w2.cell? ⟨bp,6,none⟩ = some (.int .u64 p.f6) := (blk_cell XPw2.out 6).trans rfl;have p7w2 : w2.cell? ⟨bp,7,none⟩ = some (.int .i64 p.f7) := (blk_cell XPw2.out 7).trans rfl;have p8w2 : w2.cell? ⟨bp,8,none⟩ = some (.string p.f8) := (blk_cell XPw2.out 8).trans rfl;have p9w2 : w2.cell? ⟨bp,9,none⟩ = some (.int .i64 p.f9) := (blk_cell XPw2.out 9).trans rfl;have p10w2 : w2.cell? ⟨bp,10,none⟩ = some (.int .i64 p.f10) := (blk_cell XPw2.out 10).trans rfl;have p11w2 : w2.cell? ⟨bp,11,none⟩ = some (.string p.f11) := (blk_cell XPw2.out 11).trans rfl;have r0w2 : w2.cell? ⟨br,0,none⟩ = some (.int .i64 0) := (blk_cell XRw2.out 0).trans rfl;have r1w2 : w2.cell? ⟨br,1,none⟩ = some (.slice none 0 0) := (blk_cell XRw2.out 1).trans rfl;have zr0w2 := blk_frozen XRw2.out 0;have zr1w2 := blk_frozen XRw2.out 1;have q0w2 : w2.cell? ⟨bq,0,none⟩ = some (.int .i64 0) := (blk_cell XQw2.out 0).trans rfl;have q1w2 : w2.cell? ⟨bq,1,none⟩ = some (.int .i64 0) := (blk_cell XQw2.out 1).trans rfl;have q2w2 : w2.cell? ⟨bq,2,none⟩ = some (.int .i64 0) := (blk_cell XQw2.out 2).trans rfl;have q3w2 : w2.cell? ⟨bq,3,none⟩ = some (.int .i64 0) := (blk_cell XQw2.out 3).trans rfl;have q4w2 : w2.cell? ⟨bq,4,none⟩ = some (.int .i64 0) := (blk_cell XQw2.out 4).trans rfl;have q5w2 : w2.cell? ⟨bq,5,none⟩ = some (.int .i64 0) := (blk_cell XQw2.out 5).trans rfl;have q6w2 : w2.cell? ⟨bq,6,none⟩ = some (.int .u64 0) := (blk_cell XQw2.out 6).trans rfl;have q7w2 : w2.cell? ⟨bq,7,none⟩ = some (.int .i64 0) := (blk_cell XQw2.out 7).trans rfl;have q8w2 : w2.cell? ⟨bq,8,none⟩ = some (.string ⟨#[]⟩) := (blk_cell XQw2.out 8).trans rfl;have q9w2 : w2.cell? ⟨bq,9,none⟩ = some (.int .i64 0) := (blk_cell XQw2.out 9).trans rfl;have q10w2 : w2.cell? ⟨bq,10,none⟩ = some (.int .i64 0) := (blk_cell XQw2.out 10).trans rfl;have q11w2 : w2.cell? ⟨bq,11,none⟩ = some (.string ⟨#[]⟩) := (blk_cell XQw2.out 11).trans rfl;have zq0w2 := blk_frozen XQw2.out 0;have zq1w2 := blk_frozen XQw2.out 1;have zq2w2 := blk_frozen XQw2.out 2;have zq3w2 := blk_frozen XQw2.out 3;have zq4w2 := blk_frozen XQw2.out 4;have zq5w2 := blk_frozen XQw2.out 5;have zq6w2 := blk_frozen XQw2.out 6;have zq7w2 := blk_frozen XQw2.out 7;have zq8w2 := blk_frozen XQw2.out 8;have zq9w2 := blk_frozen XQw2.out 9;have zq10w2 := blk_frozen XQw2.out 10;have zq11w2 := blk_frozen XQw2.out 11;have ltdw2 := blk_lt XDw2.out;have ltpw2 := blk_lt XPw2.out;have ltrw2 := blk_lt XRw2.out;have ltqw2 := blk_lt XQw2.out) | (go_at_call 18;refine (PU.out _ (Kd.C_below HR.out I2.out.1)).mono ?_;rintro e w3 ⟨A',c',rfl,PR⟩;have I3 := Aside0.mk (I2.out.below PR.out.2.2.2.1);have XDw3 := Aside0.mk I3.out.2.1;have XPw3 := Aside0.mk I3.out.2.2.1;have XRw3 := Aside0.mk I3.out.2.2.2.1;have XQw3 := Aside0.mk I3.out.2.2.2.2;have d0w3 : w3.cell? ⟨bd,0,none⟩ = some (.int .i64 life) := (blk_cell XDw3.out 0).trans rfl;have d1w3 : w3.cell? ⟨bd,1,none⟩ = some (.slice A M.length c) := (blk_cell XDw3.out 1).trans rfl;have p0w3 : w3.cell? ⟨bp,0,none⟩ = some (.int .i64 p.f0) := (blk_cell XPw3.out 0).trans rfl;have p1w3 : w3.cell? ⟨bp,1,none⟩ = some (.int .i64 p.f1) := (blk_cell XPw3.out 1).trans rfl;have p2w3 : w3.cell? ⟨bp,2,none⟩ = some (.int .i64 p.f2) := (blk_cell XPw3.out 2).trans rfl;have p3w3 : w3.cell? ⟨bp,3,none⟩ = some (.int .i64 p.f3) := (blk_cell XPw3.out 3).trans rfl;have p4w3 : w3.cell? ⟨bp,4,none⟩ = some (.int .i64 p.f4) := (blk_cell XPw3.out 4).trans rfl;have p5w3 : w3.cell? ⟨bp,5,none⟩ = some (.int .i64 p.f5) := (blk_cell XPw3.out 5).trans rfl;have p6w3 : w3.cell? ⟨bp,6,none⟩ = some (.int .u64 p.f6) := (blk_cell XPw3.out 6).trans rfl;have p7w3 : w3.cell? ⟨bp,7,none⟩ = some (.int .i64 p.f7) := (blk_cell XPw3.out 7).trans rfl;have p8w3 : w3.cell? ⟨bp,8,none⟩ = some (.string p.f8) := (blk_cell XPw3.out 8).trans rfl;have p9w3 : w3.cell? ⟨bp,9,none⟩ = some (.int .i64 p.f9) := (blk_cell XPw3.out 9).trans rfl;have p10w3 : w3.cell? ⟨bp,10,none⟩ = some (.int .i64 p.f10) := (blk_cell XPw3.out 10).trans rfl;have p11w3 : w3.cell? ⟨bp,11,none⟩ = some (.string p.f11) := (blk_cell XPw3.out 11).trans rfl;have r0w3 : w3.cell? ⟨br,0,none⟩ = some (.int .i64 0) := (blk_cell XRw3.out 0).trans rfl;have r1w3 : w3.cell? ⟨br,1,none⟩ = some (.slice none 0 0) := (blk_cell XRw3.out 1).trans rfl;have zr0w3 := blk_frozen XRw3.out 0;have zr1w3 := blk_frozen XRw3.out 1;have q0w3 : w3.cell? ⟨bq,0,none⟩ = some (.int .i64 0) := (blk_cell XQw3.out 0).trans rfl;have q1w3 : w3.cell? ⟨bq,1,none⟩ = some (.int .i64 0) := (blk_cell XQw3.out 1).trans rfl;have q2w3 : w3.cell? ⟨bq,2,none⟩ = some (.int .i64 0) := (blk_cell XQw3.out 2).trans rfl;have q3w3 : w3.cell? ⟨bq,3,none⟩ = some (.int .i64 0) := (blk_cell XQw3.out 3).trans rfl;have q4w3 : w3.cell? ⟨bq,4,none⟩ = some (.int .i64 0) := (blk_cell XQw3.out 4).trans rfl;have q5w3 : w3.cell? ⟨bq,5,none⟩ = some (.int .i64 0) := (blk_cell XQw3.out 5).trans rfl;have q6w3 : w3.cell? ⟨bq,6,none⟩ = some (.int .u64 0) := (blk_cell XQw3.out 6).trans rfl;have q7w3 : w3.cell? ⟨bq,7,none⟩ = some (.int .i64 0) := (blk_cell XQw3.out 7).trans rfl;have q8w3 : w3.cell? ⟨bq,8,none⟩ = some (.string ⟨#[]⟩) := (blk_cell XQw3.out 8).trans rfl;have q9w3 : w3.cell? ⟨bq,9,none⟩ = some (.int .i64 0) := (blk_cell XQw3.out 9).trans rfl;have q10w3 : w3.cell? ⟨bq,10,none⟩ = some (.int .i64 0) := (blk_cell XQw3.out 10).trans rfl;have q11w3 : w3.cell? ⟨bq,11,none⟩ = some (.string ⟨#[]⟩) := (blk_cell XQw3.out 11).trans rfl;have zq0w3 := blk_frozen XQw3.out 0;have zq1w3 := blk_frozen XQw3.out 1;have zq2w3 := blk_frozen XQw3.out 2;have zq3w3 := blk_frozen XQw3.out 3;have zq4w3 := blk_frozen XQw3.out 4;have zq5w3 := blk_frozen XQw3.out 5;have zq6w3 := blk_frozen XQw3.out 6;have zq7w3 := blk_frozen XQw3.out 7;have zq8w3 := blk_frozen XQw3.out 8;have zq9w3 := blk_frozen XQw3.out 9;have zq10w3 := blk_frozen XQw3.out 10;have zq11w3 := blk_frozen XQw3.out 11;have ltdw3 := blk_lt XDw3.out;have ltpw3 := blk_lt XPw3.out;have ltrw3 := blk_lt XRw3.out;have ltqw3 := blk_lt XQw3.out))
  obtain ⟨W,hW⟩ : ∃ W,W = ((((((((((((((w3.setCell ⟨br,0,none⟩ (.int .i64 life)).setCell ⟨br,1,none⟩ (.slice A' n1 c')).setCell ⟨bq,0,none⟩ (.int .i64 0)).setCell ⟨bq,1,none⟩ (.int .i64 0)).setCell ⟨bq,2,none⟩ (.int .i64 0)).setCell ⟨bq,3,none⟩ (.int .i64 0)).setCell ⟨bq,4,none⟩ (.int .i64 0)).setCell ⟨bq,5,none⟩ (.int .i64 0)).setCell ⟨bq,6,none⟩ (.int .u64 0)).setCell ⟨bq,7,none⟩ (.int .i64 0)).setCell ⟨bq,8,none⟩ (.string ⟨#[]⟩)).setCell ⟨bq,9,none⟩ (.int .i64 0)).setCell ⟨bq,10,none⟩ (.int .i64 0)).setCell ⟨bq,11,none⟩ (.string ⟨#[]⟩)).alloc (Obj.cells #[.int .i64 life,.slice A' n1 c'] 42) := ⟨_,rfl⟩
  have BK := rserve_put_end I2.out HR.out XR.out PR.out ES.out TS.out LS.out
  have BQ0 := rs_endz (A' := A') (n' := n1) (c' := c') I3.out XR.out
  have BQ := And.intro (blk_alloc BQ0.1 (Obj.cells #[.int .i64 life,.slice A' n1 c'] 42)) (And.intro (blk_alloc BQ0.2.1 (Obj.cells #[.int .i64 life,.slice A' n1 c'] 42)) trivial)
  clear BQ0
  rw [← hW] at BK BQ ⊢
  clear hW
  have h0 : W.cell? ⟨br,0,none⟩ = some (.int .i64 life) := (blk_cell BQ.1 0).trans rfl
  have h1 : W.cell? ⟨br,1,none⟩ = some (.slice A' n1 c') := (blk_cell BQ.1 1).trans rfl
  have g0 : W.cell? ⟨bq,0,none⟩ = some (.int .i64 0) := (blk_cell BQ.2.1 0).trans rfl
  have g1 : W.cell? ⟨bq,1,none⟩ = some (.int .i64 0) := (blk_cell BQ.2.1 1).trans rfl
  have g2 : W.cell? ⟨bq,2,none⟩ = some (.int .i64 0) := (blk_cell BQ.2.1 2).trans rfl
  have g3 : W.cell? ⟨bq,3,none⟩ = some (.int .i64 0) := (blk_cell BQ.2.1 3).trans rfl
  have g4 : W.cell? ⟨bq,4,none⟩ = some (.int .i64 0) := (blk_cell BQ.2.1 4).trans rfl
  have g5 : W.cell? ⟨bq,5,none⟩ = some (.int .i64 0) := (blk_cell BQ.2.1 5).trans rfl
  have g6 : W.cell? ⟨bq,6,none⟩ = some (.int .u64 0) := (blk_cell BQ.2.1 6).trans rfl
  have g7 : W.cell? ⟨bq,7,none⟩ = some (.int .i64 0) := (blk_cell BQ.2.1 7).trans rfl
  have g8 : W.cell? ⟨bq,8,none⟩ = some (.string ⟨#[]⟩) := (blk_cell BQ.2.1 8).trans rfl
  have g9 : W.cell? ⟨bq,9,none⟩ = some (.int .i64 0) := (blk_cell BQ.2.1 9).trans rfl
  have g10 : W.cell? ⟨bq,10,none⟩ = some (.int .i64 0) := (blk_cell BQ.2.1 10).trans rfl
  have g11 : W.cell? ⟨bq,11,none⟩ = some (.string ⟨#[]⟩) := (blk_cell BQ.2.1 11).trans rfl
  exact bodyPost_ret (v := .tuple #[.agg #[.int .i64 life,.slice A' n1 c'],pkV z30,.bool false,.int .i64 e1]) (by simp [results,Try.results23,go_sem,pkV,z30,h0,h1,g0,g1,g2,g3,g4,g5,g6,g7,g8,g9,g10,g11]) rfl BK
theorem SBase.far {w wr : World} {bd bp br bq bo : Nat} {life : Int} {A : Option Addr} {n c : Nat} {p : S30} (h : SBase w wr bd bp br bq life A n c p) (ho : bo ≠ bd ∧ bo ≠ bp ∧ bo ≠ br ∧ bo ≠ bq ∧ w.heap.size ≤ bo) {j : Nat} (u : Value) : SBase w (wr.setCell ⟨bo,j,none⟩ u) bd bp br bq life A n c p :=
  ⟨h.1.setCell ho.2.2.2.2 _,blk_far h.2.1 (Ne.symm ho.1) _,blk_far h.2.2.1 (Ne.symm ho.2.1) _,blk_far h.2.2.2.1 (Ne.symm ho.2.2.1) _,blk_far h.2.2.2.2 (Ne.symm ho.2.2.2.1) _⟩
theorem rserve_ans {w W : World} {life : Int} {A : Option Addr} {M : List S57} {c : Nat} {self home hops : Int} {p q : S30} (hb : Below w.heap.size w W) (hr : Kd.C k57 w A M.length M) (hc : M.length ≤ c)
    (hE : serveE M self home hops p = 0) (hT : serveT self home hops p = true) (hP : serveP M self home hops p = q) (hL : rserveL life M self home hops p = M) :
    RServeOut w life A M self home hops p (.returned (.tuple #[.agg #[.int .i64 life,.slice A M.length c],pkV q,.bool true,.int .i64 0])) W :=
  ⟨A,c,by rw [hL,hE,hT,hP],by rw [hL];exact hc,by rw [hL];exact Kd.C_below hr hb,hb,.inl ⟨rfl,hL⟩⟩
set_option maxHeartbeats 2000000 in
set_option maxRecDepth 100000 in
theorem rserve_none (w : World) (life : Int) (A : Option Addr) (c : Nat) (M : List S57) (hr : Kd.C k57 w A M.length M) (hc : M.length ≤ c) (self home hops : Int) (p : S30) (hl : M.length ≤ 4096) (hn : askedV self home hops = 0) (hs : servable self p = true) (hk : p.f0 = 3) (hg : adGet p.f8 M = none) :
    Calls Try.prog 23 #[.agg #[.int .i64 life,.slice A M.length c],.int .i64 self,.int .i64 home,.int .i64 hops,.agg #[.int .i64 p.f0,.int .i64 p.f1,.int .i64 p.f2,.int .i64 p.f3,.int .i64 p.f4,.int .i64 p.f5,.int .u64 p.f6,.int .i64 p.f7,.string p.f8,.int .i64 p.f9,.int .i64 p.f10,.string p.f11]] w fun e w' => RServeOut w life A M self home hops p e w' := by
  have hu30 := Try.underlying30
  have hu42 := Try.underlying42
  have hu57 := Try.underlying57
  have HR := Aside0.mk hr
  have HC := Aside0.mk hc
  have AS := Aside0.mk (fun W => rasked_any self home hops 0 hn W)
  have GT := Aside0.mk hg
  have ES : Aside0 (serveE M self home hops p = 0) := ⟨by unfold serveE;rw [hn,if_neg (by simp),if_neg (by rw [hs];simp),if_neg (by rw [hk];decide)]⟩
  have TS : Aside0 (serveT self home hops p = true) := ⟨by unfold serveT;rw [hn,hs,hk];rfl⟩
  have PS : Aside0 (serveP M self home hops p = ⟨4,self,home,p.f1,p.f2,hops,p.f6,1,p.f8,0,0,⟨#[]⟩⟩) := ⟨by unfold serveP answerP;rw [TS.out,if_pos rfl,hg]⟩
  have LS : Aside0 (rserveL life M self home hops p = M) := ⟨by unfold rserveL;rw [if_neg (fun h => by rw [hk] at h;exact absurd h.2.2 (by decide))]⟩
  have hm : mayP p = true := by cases h9 : mayP p;(unfold servable at hs;rw [h9] at hs;simp at hs);rfl
  have MY := Aside0.mk (fun W => rmay_any p true hm W)
  have kt : (p.f3 != self) = false := by unfold servable at hs;rw [hm,hk] at hs;simpa using hs
  have k2b : (p.f0 != 2) = true := by simp [hk]
  have k2c : (p.f0 == 2) = false := by simp [hk]
  have k3b : (p.f0 != 3) = false := by simp [hk]
  have GE := Aside0.mk (fun W h => rget_any life A c M hl p.f8 W h hc)
  clear hn hs hm hk hl hg
  obtain ⟨w0,hw0⟩ : ∃ w0,w0 = ((((w.alloc (Obj.cells #[.int .i64 life,.slice A M.length c] 42)).alloc (Obj.cells #[.int .i64 p.f0,.int .i64 p.f1,.int .i64 p.f2,.int .i64 p.f3,.int .i64 p.f4,.int .i64 p.f5,.int .u64 p.f6,.int .i64 p.f7,.string p.f8,.int .i64 p.f9,.int .i64 p.f10,.string p.f11] 30)).alloc (Obj.cells #[.int .i64 0,.slice none 0 0] 42)).alloc (Obj.cells #[.int .i64 0,.int .i64 0,.int .i64 0,.int .i64 0,.int .i64 0,.int .i64 0,.int .u64 0,.int .i64 0,.string ⟨#[]⟩,.int .i64 0,.int .i64 0,.string ⟨#[]⟩] 30)) := ⟨_,rfl⟩
  obtain ⟨bd,hbd⟩ : ∃ b,b = w.heap.size := ⟨_,rfl⟩
  obtain ⟨bp,hbp⟩ : ∃ b,b = w.heap.size + 1 := ⟨_,rfl⟩
  obtain ⟨br,hbr⟩ : ∃ b,b = w.heap.size + 2 := ⟨_,rfl⟩
  obtain ⟨bq,hbq⟩ : ∃ b,b = w.heap.size + 3 := ⟨_,rfl⟩
  have W0 := Aside0.mk (And.intro hw0 (And.intro hbd (And.intro hbp (And.intro hbr hbq))))
  have I0 : Aside0 (SBase w w0 bd bp br bq life A M.length c p) := ⟨by rw [hw0,hbd,hbp,hbr,hbq];exact sbase_start w life A M.length c p⟩
  have XR : Aside0 (w.heap.size ≤ br ∧ w.heap.size ≤ bq ∧ br ≠ bq) := ⟨by omega⟩
  have XB : Aside0 (bd ≠ br ∧ bd ≠ bq) := ⟨by omega⟩
  clear hw0 hbd hbp hbr hbq hr hc
  go_enter Try.func23,Try.ntmps23
  go_upto_region 1 with fail
  rw [← W0.out.2.2.2.2,← W0.out.2.2.2.1,← W0.out.2.2.1,← W0.out.2.1,← W0.out.1]
  have hne1 := XR.out.2.2
  have hne2 := Ne.symm XR.out.2.2
  go_upto_region 11 with (first | (go_at_call 43;(with_reducible refine (AS.out _).mono ?_);rintro e w1 ⟨rfl,hb⟩;have I1 := Aside0.mk (I0.out.below hb);clear hb;have XDw1 := Aside0.mk I1.out.2.1;have XPw1 := Aside0.mk I1.out.2.2.1;have XRw1 := Aside0.mk I1.out.2.2.2.1;have XQw1 := Aside0.mk I1.out.2.2.2.2;have d0w1 : w1.cell? ⟨bd,0,none⟩ = some (.int .i64 life) := (blk_cell XDw1.out 0).trans rfl;have d1w1 : w1.cell? ⟨bd,1,none⟩ = some (.slice A M.length c) := (blk_cell XDw1.out 1).trans rfl;have p0w1 : w1.cell? ⟨bp,0,none⟩ = some (.int .i64 p.f0) := (blk_cell XPw1.out 0).trans rfl;have p1w1 : w1.cell? ⟨bp,1,none⟩ = some (.int .i64 p.f1) := (blk_cell XPw1.out 1).trans rfl;have p2w1 : w1.cell? ⟨bp,2,none⟩ = some (.int .i64 p.f2) := (blk_cell XPw1.out 2).trans rfl;have p3w1 : w1.cell? ⟨bp,3,none⟩ = some (.int .i64 p.f3) := (blk_cell XPw1.out 3).trans rfl;have p4w1 : w1.cell? ⟨bp,4,none⟩ = some (.int .i64 p.f4) := (blk_cell XPw1.out 4).trans rfl;have p5w1 : w1.cell? ⟨bp,5,none⟩ = some (.int .i64 p.f5) := (blk_cell XPw1.out 5).trans rfl;have p6w1 : w1.cell? ⟨bp,6,none⟩ = some (.int .u64 p.f6) := (blk_cell XPw1.out 6).trans rfl;have p7w1 : w1.cell? ⟨bp,7,none⟩ = some (.int .i64 p.f7) := (blk_cell XPw1.out 7).trans rfl;have p8w1 : w1.cell? ⟨bp,8,none⟩ = some (.string p.f8) := (blk_cell XPw1.out 8).trans rfl;have p9w1 : w1.cell? ⟨bp,9,none⟩ = some (.int .i64 p.f9) := (blk_cell XPw1.out 9).trans rfl;have p10w1 : w1.cell? ⟨bp,10,none⟩ = some (.int .i64 p.f10) := (blk_cell XPw1.out 10).trans rfl;have p11w1 : w1.cell? ⟨bp,11,none⟩ = some (.string p.f11) := (blk_cell XPw1.out 11).trans rfl;have r0w1 : w1.cell? ⟨br,0,none⟩ = some (.int .i64 0) := (blk_cell XRw1.out 0).trans rfl;have r1w1 : w1.cell? ⟨br,1,none⟩ = some (.slice none 0 0) := (blk_cell XRw1.out 1).trans rfl;have zr0w1 := blk_frozen XRw1.out 0;have zr1w1 := blk_frozen XRw1.out 1;have q0w1 : w1.cell? ⟨bq,0,none⟩ = some (.int .i64 0) := (blk_cell XQw1.out 0).trans rfl;have q1w1 : w1.cell? ⟨bq,1,none⟩ = some (.int .i64 0) := (blk_cell XQw1.out 1).trans rfl;have q2w1 : w1.cell? ⟨bq,2,none⟩ = some (.int .i64 0) := (blk_cell XQw1.out 2).trans rfl;have q3w1 : w1.cell? ⟨bq,3,none⟩ = some (.int .i64 0) := (blk_cell XQw1.out 3).trans rfl;have q4w1 : w1.cell? ⟨bq,4,none⟩ = some (.int .i64 0) := (blk_cell XQw1.out 4).trans rfl;have q5w1 : w1.cell? ⟨bq,5,none⟩ = some (.int .i64 0) := (blk_cell XQw1.out 5).trans rfl;have q6w1 : w1.cell? ⟨bq,6,none⟩ = some (.int .u64 0) := (blk_cell XQw1.out 6).trans rfl;have q7w1 : w1.cell? ⟨bq,7,none⟩ = some (.int .i64 0) := (blk_cell XQw1.out 7).trans rfl;have q8w1 : w1.cell? ⟨bq,8,none⟩ = some (.string ⟨#[]⟩) := (blk_cell XQw1.out 8).trans rfl;have q9w1 : w1.cell? ⟨bq,9,none⟩ = some (.int .i64 0) := (blk_cell XQw1.out 9).trans rfl;have q10w1 : w1.cell? ⟨bq,10,none⟩ = some (.int .i64 0) := (blk_cell XQw1.out 10).trans rfl;have q11w1 : w1.cell? ⟨bq,11,none⟩ = some (.string ⟨#[]⟩) := (blk_cell XQw1.out 11).trans rfl;have zq0w1 := blk_frozen XQw1.out 0;have zq1w1 := blk_frozen XQw1.out 1;have zq2w1 := blk_frozen XQw1.out 2;have zq3w1 := blk_frozen XQw1.out 3;have zq4w1 := blk_frozen XQw1.out 4;have zq5w1 := blk_frozen XQw1.out 5;have zq6w1 := blk_frozen XQw1.out 6;have zq7w1 := blk_frozen XQw1.out 7;have zq8w1 := blk_frozen XQw1.out 8;have zq9w1 := blk_frozen XQw1.out 9;have zq10w1 := blk_frozen XQw1.out 10;have zq11w1 := blk_frozen XQw1.out 11;have ltdw1 := blk_lt XDw1.out;have ltpw1 := blk_lt XPw1.out;have ltrw1 := blk_lt XRw1.out;have ltqw1 := blk_lt XQw1.out) | (go_at_call 44;(with_reducible refine (MY.out _).mono ?_);rintro e w2 ⟨rfl,hb⟩;have I2 := Aside0.mk (I1.out.below hb);clear hb;have XDw2 := Aside0.mk I2.out.2.1;have XPw2 := Aside0.mk I2.out.2.2.1;have XRw2 := Aside0.mk I2.out.2.2.2.1;have XQw2 := Aside0.mk I2.out.2.2.2.2;have d0w2 : w2.cell? ⟨bd,0,none⟩ = some (.int .i64 life) := (blk_cell XDw2.out 0).trans rfl;have d1w2 : w2.cell? ⟨bd,1,none⟩ = some (.slice A M.length c) := (blk_cell XDw2.out 1).trans rfl;have p0w2 : w2.cell? ⟨bp,0,none⟩ = some (.int .i64 p.f0) := (blk_cell XPw2.out 0).trans rfl;have p1w2 : w2.cell? ⟨bp,1,none⟩ = some (.int .i64 p.f1) := (blk_cell XPw2.out 1).trans rfl;have p2w2 : w2.cell? ⟨bp,2,none⟩ = some (.int .i64 p.f2) := (blk_cell XPw2.out 2).trans rfl;have p3w2 : w2.cell? ⟨bp,3,none⟩ = some (.int .i64 p.f3) := (blk_cell XPw2.out 3).trans rfl;have p4w2 : w2.cell? ⟨bp,4,none⟩ = some (.int .i64 p.f4) := (blk_cell XPw2.out 4).trans rfl;have p5w2 : w2.cell? ⟨bp,5,none⟩ = some (.int .i64 p.f5) := (blk_cell XPw2.out 5).trans rfl;have p6w2 : w2.cell? ⟨bp,6,none⟩ = some (.int .u64 p.f6) := (blk_cell XPw2.out 6).trans rfl;have p7w2 : w2.cell? ⟨bp,7,none⟩ = some (.int .i64 p.f7) := (blk_cell XPw2.out 7).trans rfl;have p8w2 : w2.cell? ⟨bp,8,none⟩ = some (.string p.f8) := (blk_cell XPw2.out 8).trans rfl;have p9w2 : w2.cell? ⟨bp,9,none⟩ = some (.int .i64 p.f9) := (blk_cell XPw2.out 9).trans rfl;have p10w2 : w2.cell? ⟨bp,10,none⟩ = some (.int .i64 p.f10) := (blk_cell XPw2.out 10).trans rfl;have p11w2 : w2.cell? ⟨bp,11,none⟩ = some (.string p.f11) := (blk_cell XPw2.out 11).trans rfl;have r0w2 : w2.cell? ⟨br,0,none⟩ = some (.int .i64 0) := (blk_cell XRw2.out 0).trans rfl;have r1w2 : w2.cell? ⟨br,1,none⟩ = some (.slice none 0 0) := (blk_cell XRw2.out 1).trans rfl;have zr0w2 := blk_frozen XRw2.out 0;have zr1w2 := blk_frozen XRw2.out 1;have q0w2 : w2.cell? ⟨bq,0,none⟩ = some (.int .i64 0) := (blk_cell XQw2.out 0).trans rfl;have q1w2 : w2.cell? ⟨bq,1,none⟩ = some (.int .i64 0) := (blk_cell XQw2.out 1).trans rfl;have q2w2 : w2.cell? ⟨bq,2,none⟩ = some (.int .i64 0) := (blk_cell XQw2.out 2).trans rfl;have q3w2 : w2.cell? ⟨bq,3,none⟩ = some (.int .i64 0) := (blk_cell XQw2.out 3).trans rfl;have q4w2 : w2.cell? ⟨bq,4,none⟩ = some (.int .i64 0) := (blk_cell XQw2.out 4).trans rfl;have q5w2 : w2.cell? ⟨bq,5,none⟩ = some (.int .i64 0) := (blk_cell XQw2.out 5).trans rfl;have q6w2 : w2.cell? ⟨bq,6,none⟩ = some (.int .u64 0) := (blk_cell XQw2.out 6).trans rfl;have q7w2 : w2.cell? ⟨bq,7,none⟩ = some (.int .i64 0) := (blk_cell XQw2.out 7).trans rfl;have q8w2 : w2.cell? ⟨bq,8,none⟩ = some (.string ⟨#[]⟩) := (blk_cell XQw2.out 8).trans rfl;have q9w2 : w2.cell? ⟨bq,9,none⟩ = some (.int .i64 0) := (blk_cell XQw2.out 9).trans rfl;have q10w2 : w2.cell? ⟨bq,10,none⟩ = some (.int .i64 0) := (blk_cell XQw2.out 10).trans rfl;have q11w2 : w2.cell? ⟨bq,11,none⟩ = some (.string ⟨#[]⟩) := (blk_cell XQw2.out 11).trans rfl;have zq0w2 := blk_frozen XQw2.out 0;have zq1w2 := blk_frozen XQw2.out 1;have zq2w2 := blk_frozen XQw2.out 2;have zq3w2 := blk_frozen XQw2.out 3;have zq4w2 := blk_frozen XQw2.out 4;have zq5w2 := blk_frozen XQw2.out 5;have zq6w2 := blk_frozen XQw2.out 6;have zq7w2 := blk_frozen XQw2.out 7;have zq8w2 := blk_frozen XQw2.out 8;have zq9w2 := blk_frozen XQw2.out 9;have zq10w2 := blk_frozen XQw2.out 10;have zq11w2 := blk_frozen XQw2.out 11;have ltdw2 := blk_lt XDw2.out;have ltpw2 := blk_lt XPw2.out;have ltrw2 := blk_lt XRw2.out;have ltqw2 := blk_lt XQw2.out) | (go_at_call 26;refine (GE.out _ (Kd.C_alloc (Kd.C_below HR.out I2.out.1) _)).mono ?_;rintro e w3 ⟨rfl,hb⟩;rw [GT.out];simp only [adOr,adV,Option.getD_none,Option.isSome_none,z57];have BO3 := Aside0.mk (blk_below (blk_new w2 (.cells #[.int .i64 4,.int .i64 self,.int .i64 home,.int .i64 p.f1,.int .i64 p.f2,.int .i64 hops,.int .u64 p.f6,.int .i64 1,.string p.f8,.int .i64 0,.int .i64 0,.string ⟨#[]⟩] 30)) hb);have I3 := Aside0.mk ((I2.out.below (below_alloc (Below.refl _ _) (.cells #[.int .i64 4,.int .i64 self,.int .i64 home,.int .i64 p.f1,.int .i64 p.f2,.int .i64 hops,.int .u64 p.f6,.int .i64 1,.string p.f8,.int .i64 0,.int .i64 0,.string ⟨#[]⟩] 30))).below hb);clear hb;have XDw3 := Aside0.mk I3.out.2.1;have XPw3 := Aside0.mk I3.out.2.2.1;have XRw3 := Aside0.mk I3.out.2.2.2.1;have XQw3 := Aside0.mk I3.out.2.2.2.2;have d0w3 : w3.cell? ⟨bd,0,none⟩ = some (.int .i64 life) := (blk_cell XDw3.out 0).trans rfl;have d1w3 : w3.cell? ⟨bd,1,none⟩ = some (.slice A M.length c) := (blk_cell XDw3.out 1).trans rfl;have p0w3 : w3.cell? ⟨bp,0,none⟩ = some (.int .i64 p.f0) := (blk_cell XPw3.out 0).trans rfl;have p1w3 : w3.cell? ⟨bp,1,none⟩ = some (.int .i64 p.f1) := (blk_cell XPw3.out 1).trans rfl;have p2w3 : w3.cell? ⟨bp,2,none⟩ = some (.int .i64 p.f2) := (blk_cell XPw3.out 2).trans rfl;have p3w3 : w3.cell? ⟨bp,3,none⟩ = some (.int .i64 p.f3) := (blk_cell XPw3.out 3).trans rfl;have p4w3 : w3.cell? ⟨bp,4,none⟩ = some (.int .i64 p.f4) := (blk_cell XPw3.out 4).trans rfl;have p5w3 : w3.cell? ⟨bp,5,none⟩ = some (.int .i64 p.f5) := (blk_cell XPw3.out 5).trans rfl;have p6w3 : w3.cell? ⟨bp,6,none⟩ = some (.int .u64 p.f6) := (blk_cell XPw3.out 6).trans rfl;have p7w3 : w3.cell? ⟨bp,7,none⟩ = some (.int .i64 p.f7) := (blk_cell XPw3.out 7).trans rfl;have p8w3 : w3.cell? ⟨bp,8,none⟩ = some (.string p.f8) := (blk_cell XPw3.out 8).trans rfl;have p9w3 : w3.cell? ⟨bp,9,none⟩ = some (.int .i64 p.f9) := (blk_cell XPw3.out 9).trans rfl;have p10w3 : w3.cell? ⟨bp,10,none⟩ = some (.int .i64 p.f10) := (blk_cell XPw3.out 10).trans rfl;have p11w3 : w3.cell? ⟨bp,11,none⟩ = some (.string p.f11) := (blk_cell XPw3.out 11).trans rfl;have r0w3 : w3.cell? ⟨br,0,none⟩ = some (.int .i64 0) := (blk_cell XRw3.out 0).trans rfl;have r1w3 : w3.cell? ⟨br,1,none⟩ = some (.slice none 0 0) := (blk_cell XRw3.out 1).trans rfl;have zr0w3 := blk_frozen XRw3.out 0;have zr1w3 := blk_frozen XRw3.out 1;have q0w3 : w3.cell? ⟨bq,0,none⟩ = some (.int .i64 0) := (blk_cell XQw3.out 0).trans rfl;have q1w3 : w3.cell? ⟨bq,1,none⟩ = some (.int .i64 0) := (blk_cell XQw3.out 1).trans rfl;have q2w3 : w3.cell? ⟨bq,2,none⟩ = some (.int .i64 0) := (blk_cell XQw3.out 2).trans rfl;have q3w3 : w3.cell? ⟨bq,3,none⟩ = some (.int .i64 0) := (blk_cell XQw3.out 3).trans rfl;have q4w3 : w3.cell? ⟨bq,4,none⟩ = some (.int .i64 0) := (blk_cell XQw3.out 4).trans rfl;have q5w3 : w3.cell? ⟨bq,5,none⟩ = some (.int .i64 0) := (blk_cell XQw3.out 5).trans rfl;have q6w3 : w3.cell? ⟨bq,6,none⟩ = some (.int .u64 0) := (blk_cell XQw3.out 6).trans rfl;have q7w3 : w3.cell? ⟨bq,7,none⟩ = some (.int .i64 0) := (blk_cell XQw3.out 7).trans rfl;have q8w3 : w3.cell? ⟨bq,8,none⟩ = some (.string ⟨#[]⟩) := (blk_cell XQw3.out 8).trans rfl;have q9w3 : w3.cell? ⟨bq,9,none⟩ = some (.int .i64 0) := (blk_cell XQw3.out 9).trans rfl;have q10w3 : w3.cell? ⟨bq,10,none⟩ = some (.int .i64 0) := (blk_cell XQw3.out 10).trans rfl;have q11w3 : w3.cell? ⟨bq,11,none⟩ = some (.string ⟨#[]⟩) := (blk_cell XQw3.out 11).trans rfl;have zq0w3 := blk_frozen XQw3.out 0;have zq1w3 := blk_frozen XQw3.out 1;have zq2w3 := blk_frozen XQw3.out 2;have zq3w3 := blk_frozen XQw3.out 3;have zq4w3 := blk_frozen XQw3.out 4;have zq5w3 := blk_frozen XQw3.out 5;have zq6w3 := blk_frozen XQw3.out 6;have zq7w3 := blk_frozen XQw3.out 7;have zq8w3 := blk_frozen XQw3.out 8;have zq9w3 := blk_frozen XQw3.out 9;have zq10w3 := blk_frozen XQw3.out 10;have zq11w3 := blk_frozen XQw3.out 11;have ltdw3 := blk_lt XDw3.out;have ltpw3 := blk_lt XPw3.out;have ltrw3 := blk_lt XRw3.out;have ltqw3 := blk_lt XQw3.out;have o0w3 : w3.cell? ⟨w2.heap.size,0,none⟩ = some (.int .i64 4) := (blk_cell BO3.out 0).trans rfl;have o1w3 : w3.cell? ⟨w2.heap.size,1,none⟩ = some (.int .i64 self) := (blk_cell BO3.out 1).trans rfl;have o2w3 : w3.cell? ⟨w2.heap.size,2,none⟩ = some (.int .i64 home) := (blk_cell BO3.out 2).trans rfl;have o3w3 : w3.cell? ⟨w2.heap.size,3,none⟩ = some (.int .i64 p.f1) := (blk_cell BO3.out 3).trans rfl;have o4w3 : w3.cell? ⟨w2.heap.size,4,none⟩ = some (.int .i64 p.f2) := (blk_cell BO3.out 4).trans rfl;have o5w3 : w3.cell? ⟨w2.heap.size,5,none⟩ = some (.int .i64 hops) := (blk_cell BO3.out 5).trans rfl;have o6w3 : w3.cell? ⟨w2.heap.size,6,none⟩ = some (.int .u64 p.f6) := (blk_cell BO3.out 6).trans rfl;have o7w3 : w3.cell? ⟨w2.heap.size,7,none⟩ = some (.int .i64 1) := (blk_cell BO3.out 7).trans rfl;have o8w3 : w3.cell? ⟨w2.heap.size,8,none⟩ = some (.string p.f8) := (blk_cell BO3.out 8).trans rfl;have o9w3 : w3.cell? ⟨w2.heap.size,9,none⟩ = some (.int .i64 0) := (blk_cell BO3.out 9).trans rfl;have o10w3 : w3.cell? ⟨w2.heap.size,10,none⟩ = some (.int .i64 0) := (blk_cell BO3.out 10).trans rfl;have o11w3 : w3.cell? ⟨w2.heap.size,11,none⟩ = some (.string ⟨#[]⟩) := (blk_cell BO3.out 11).trans rfl))
  obtain ⟨w5,hw5⟩ : ∃ w5,w5 = w3.alloc (Obj.cells #[.string ⟨#[]⟩,.int .i64 0,.int .i64 0,.int .i64 0] 57) := ⟨_,rfl⟩
  obtain ⟨ba,hba⟩ : ∃ ba,ba = w3.heap.size := ⟨_,rfl⟩
  obtain ⟨bo,hbo⟩ : ∃ bo,bo = w2.heap.size := ⟨_,rfl⟩
  have BO5 : Aside0 (w5.heap[bo]? = some (.cells #[.int .i64 4,.int .i64 self,.int .i64 home,.int .i64 p.f1,.int .i64 p.f2,.int .i64 hops,.int .u64 p.f6,.int .i64 1,.string p.f8,.int .i64 0,.int .i64 0,.string ⟨#[]⟩] 30 (0,0))) := ⟨by rw [hw5,hbo];exact blk_alloc BO3.out _⟩
  have BA5 : Aside0 (w5.heap[ba]? = some (.cells #[.string ⟨#[]⟩,.int .i64 0,.int .i64 0,.int .i64 0] 57 (0,0))) := ⟨by rw [hw5,hba];exact blk_new w3 _⟩
  have I5 : Aside0 (SBase w w5 bd bp br bq life A M.length c p) := ⟨by rw [hw5];exact I3.out.below (below_alloc (Below.refl _ _) _)⟩
  have OG : Aside0 (bo ≠ bd ∧ bo ≠ bp ∧ bo ≠ br ∧ bo ≠ bq ∧ w.heap.size ≤ bo) := ⟨by
    have h1 := I2.out.1.size
    have h2 := blk_lt I2.out.2.1
    have h3 := blk_lt I2.out.2.2.1
    have h4 := blk_lt I2.out.2.2.2.1
    have h5 := blk_lt I2.out.2.2.2.2
    omega⟩
  rw [← hw5,← hba,← hbo]
  clear hw5 hba hbo
  have XDw5 := Aside0.mk I5.out.2.1
  have XPw5 := Aside0.mk I5.out.2.2.1
  have XRw5 := Aside0.mk I5.out.2.2.2.1
  have XQw5 := Aside0.mk I5.out.2.2.2.2
  have d0w5 : w5.cell? ⟨bd,0,none⟩ = some (.int .i64 life) := (blk_cell XDw5.out 0).trans rfl
  have d1w5 : w5.cell? ⟨bd,1,none⟩ = some (.slice A M.length c) := (blk_cell XDw5.out 1).trans rfl
  have p0w5 : w5.cell? ⟨bp,0,none⟩ = some (.int .i64 p.f0) := (blk_cell XPw5.out 0).trans rfl
  have p1w5 : w5.cell? ⟨bp,1,none⟩ = some (.int .i64 p.f1) := (blk_cell XPw5.out 1).trans rfl
  have p2w5 : w5.cell? ⟨bp,2,none⟩ = some (.int .i64 p.f2) := (blk_cell XPw5.out 2).trans rfl
  have p3w5 : w5.cell? ⟨bp,3,none⟩ = some (.int .i64 p.f3) := (blk_cell XPw5.out 3).trans rfl
  have p4w5 : w5.cell? ⟨bp,4,none⟩ = some (.int .i64 p.f4) := (blk_cell XPw5.out 4).trans rfl
  have p5w5 : w5.cell? ⟨bp,5,none⟩ = some (.int .i64 p.f5) := (blk_cell XPw5.out 5).trans rfl
  have p6w5 : w5.cell? ⟨bp,6,none⟩ = some (.int .u64 p.f6) := (blk_cell XPw5.out 6).trans rfl
  have p7w5 : w5.cell? ⟨bp,7,none⟩ = some (.int .i64 p.f7) := (blk_cell XPw5.out 7).trans rfl
  have p8w5 : w5.cell? ⟨bp,8,none⟩ = some (.string p.f8) := (blk_cell XPw5.out 8).trans rfl
  have p9w5 : w5.cell? ⟨bp,9,none⟩ = some (.int .i64 p.f9) := (blk_cell XPw5.out 9).trans rfl
  have p10w5 : w5.cell? ⟨bp,10,none⟩ = some (.int .i64 p.f10) := (blk_cell XPw5.out 10).trans rfl
  have p11w5 : w5.cell? ⟨bp,11,none⟩ = some (.string p.f11) := (blk_cell XPw5.out 11).trans rfl
  have r0w5 : w5.cell? ⟨br,0,none⟩ = some (.int .i64 0) := (blk_cell XRw5.out 0).trans rfl
  have r1w5 : w5.cell? ⟨br,1,none⟩ = some (.slice none 0 0) := (blk_cell XRw5.out 1).trans rfl
  have zr0w5 := blk_frozen XRw5.out 0
  have zr1w5 := blk_frozen XRw5.out 1
  have q0w5 : w5.cell? ⟨bq,0,none⟩ = some (.int .i64 0) := (blk_cell XQw5.out 0).trans rfl
  have q1w5 : w5.cell? ⟨bq,1,none⟩ = some (.int .i64 0) := (blk_cell XQw5.out 1).trans rfl
  have q2w5 : w5.cell? ⟨bq,2,none⟩ = some (.int .i64 0) := (blk_cell XQw5.out 2).trans rfl
  have q3w5 : w5.cell? ⟨bq,3,none⟩ = some (.int .i64 0) := (blk_cell XQw5.out 3).trans rfl
  have q4w5 : w5.cell? ⟨bq,4,none⟩ = some (.int .i64 0) := (blk_cell XQw5.out 4).trans rfl
  have q5w5 : w5.cell? ⟨bq,5,none⟩ = some (.int .i64 0) := (blk_cell XQw5.out 5).trans rfl
  have q6w5 : w5.cell? ⟨bq,6,none⟩ = some (.int .u64 0) := (blk_cell XQw5.out 6).trans rfl
  have q7w5 : w5.cell? ⟨bq,7,none⟩ = some (.int .i64 0) := (blk_cell XQw5.out 7).trans rfl
  have q8w5 : w5.cell? ⟨bq,8,none⟩ = some (.string ⟨#[]⟩) := (blk_cell XQw5.out 8).trans rfl
  have q9w5 : w5.cell? ⟨bq,9,none⟩ = some (.int .i64 0) := (blk_cell XQw5.out 9).trans rfl
  have q10w5 : w5.cell? ⟨bq,10,none⟩ = some (.int .i64 0) := (blk_cell XQw5.out 10).trans rfl
  have q11w5 : w5.cell? ⟨bq,11,none⟩ = some (.string ⟨#[]⟩) := (blk_cell XQw5.out 11).trans rfl
  have zq0w5 := blk_frozen XQw5.out 0
  have zq1w5 := blk_frozen XQw5.out 1
  have zq2w5 := blk_frozen XQw5.out 2
  have zq3w5 := blk_frozen XQw5.out 3
  have zq4w5 := blk_frozen XQw5.out 4
  have zq5w5 := blk_frozen XQw5.out 5
  have zq6w5 := blk_frozen XQw5.out 6
  have zq7w5 := blk_frozen XQw5.out 7
  have zq8w5 := blk_frozen XQw5.out 8
  have zq9w5 := blk_frozen XQw5.out 9
  have zq10w5 := blk_frozen XQw5.out 10
  have zq11w5 := blk_frozen XQw5.out 11
  have ltdw5 := blk_lt XDw5.out
  have ltpw5 := blk_lt XPw5.out
  have ltrw5 := blk_lt XRw5.out
  have ltqw5 := blk_lt XQw5.out
  have o0w5 : w5.cell? ⟨bo,0,none⟩ = some (.int .i64 4) := (blk_cell BO5.out 0).trans rfl
  have o1w5 : w5.cell? ⟨bo,1,none⟩ = some (.int .i64 self) := (blk_cell BO5.out 1).trans rfl
  have o2w5 : w5.cell? ⟨bo,2,none⟩ = some (.int .i64 home) := (blk_cell BO5.out 2).trans rfl
  have o3w5 : w5.cell? ⟨bo,3,none⟩ = some (.int .i64 p.f1) := (blk_cell BO5.out 3).trans rfl
  have o4w5 : w5.cell? ⟨bo,4,none⟩ = some (.int .i64 p.f2) := (blk_cell BO5.out 4).trans rfl
  have o5w5 : w5.cell? ⟨bo,5,none⟩ = some (.int .i64 hops) := (blk_cell BO5.out 5).trans rfl
  have o6w5 : w5.cell? ⟨bo,6,none⟩ = some (.int .u64 p.f6) := (blk_cell BO5.out 6).trans rfl
  have o7w5 : w5.cell? ⟨bo,7,none⟩ = some (.int .i64 1) := (blk_cell BO5.out 7).trans rfl
  have o8w5 : w5.cell? ⟨bo,8,none⟩ = some (.string p.f8) := (blk_cell BO5.out 8).trans rfl
  have o9w5 : w5.cell? ⟨bo,9,none⟩ = some (.int .i64 0) := (blk_cell BO5.out 9).trans rfl
  have o10w5 : w5.cell? ⟨bo,10,none⟩ = some (.int .i64 0) := (blk_cell BO5.out 10).trans rfl
  have o11w5 : w5.cell? ⟨bo,11,none⟩ = some (.string ⟨#[]⟩) := (blk_cell BO5.out 11).trans rfl
  have zo0w5 := blk_frozen BO5.out 0
  have zo1w5 := blk_frozen BO5.out 1
  have zo2w5 := blk_frozen BO5.out 2
  have zo3w5 := blk_frozen BO5.out 3
  have zo4w5 := blk_frozen BO5.out 4
  have zo5w5 := blk_frozen BO5.out 5
  have zo6w5 := blk_frozen BO5.out 6
  have zo7w5 := blk_frozen BO5.out 7
  have zo8w5 := blk_frozen BO5.out 8
  have zo9w5 := blk_frozen BO5.out 9
  have zo10w5 := blk_frozen BO5.out 10
  have zo11w5 := blk_frozen BO5.out 11
  have a0w5 : w5.cell? ⟨ba,0,none⟩ = some (.string ⟨#[]⟩) := (blk_cell BA5.out 0).trans rfl
  have a1w5 : w5.cell? ⟨ba,1,none⟩ = some (.int .i64 0) := (blk_cell BA5.out 1).trans rfl
  have a2w5 : w5.cell? ⟨ba,2,none⟩ = some (.int .i64 0) := (blk_cell BA5.out 2).trans rfl
  have a3w5 : w5.cell? ⟨ba,3,none⟩ = some (.int .i64 0) := (blk_cell BA5.out 3).trans rfl
  have lto5 := blk_lt BO5.out
  have lta5 := blk_lt BA5.out
  go_upto_region 15 with fail
  have hne3 := OG.out.2.2.1
  have hne4 := Ne.symm OG.out.2.2.1
  have hne5 := OG.out.2.2.2.1
  have hne6 := Ne.symm OG.out.2.2.2.1
  have hne7 := XB.out.1
  have hne8 := Ne.symm XB.out.1
  have hne9 := XB.out.2
  have hne10 := Ne.symm XB.out.2
  go_region
  all_goals go_wp2_with fail
  obtain ⟨W,hW⟩ : ∃ W,W = ((((((((((((((w5.setCell ⟨br,0,none⟩ (.int .i64 life)).setCell ⟨br,1,none⟩ (.slice A M.length c)).setCell ⟨bq,0,none⟩ (.int .i64 4)).setCell ⟨bq,1,none⟩ (.int .i64 self)).setCell ⟨bq,2,none⟩ (.int .i64 home)).setCell ⟨bq,3,none⟩ (.int .i64 p.f1)).setCell ⟨bq,4,none⟩ (.int .i64 p.f2)).setCell ⟨bq,5,none⟩ (.int .i64 hops)).setCell ⟨bq,6,none⟩ (.int .u64 p.f6)).setCell ⟨bq,7,none⟩ (.int .i64 1)).setCell ⟨bq,8,none⟩ (.string p.f8)).setCell ⟨bq,9,none⟩ (.int .i64 0)).setCell ⟨bq,10,none⟩ (.int .i64 0)).setCell ⟨bq,11,none⟩ (.string ⟨#[]⟩)).drew := ⟨_,rfl⟩
  have b1 : W.heap[br]? = some (.cells #[.int .i64 life,.slice A M.length c] 42 (0,0)) := by rw [hW];exact blk_drew (rs_end (q := ⟨4,self,home,p.f1,p.f2,hops,p.f6,1,p.f8,0,0,⟨#[]⟩⟩) I5.out XR.out).1
  have b2 : W.heap[bq]? = some (.cells #[.int .i64 4,.int .i64 self,.int .i64 home,.int .i64 p.f1,.int .i64 p.f2,.int .i64 hops,.int .u64 p.f6,.int .i64 1,.string p.f8,.int .i64 0,.int .i64 0,.string ⟨#[]⟩] 30 (0,0)) := by rw [hW];exact blk_drew (rs_end (q := ⟨4,self,home,p.f1,p.f2,hops,p.f6,1,p.f8,0,0,⟨#[]⟩⟩) I5.out XR.out).2.1
  have b3 : Below w.heap.size w W := by rw [hW];exact below_then (rs_end (q := ⟨4,self,home,p.f1,p.f2,hops,p.f6,1,p.f8,0,0,⟨#[]⟩⟩) I5.out XR.out).2.2.1 (rs_end (q := ⟨4,self,home,p.f1,p.f2,hops,p.f6,1,p.f8,0,0,⟨#[]⟩⟩) I5.out XR.out).2.2.1.size (below_drew (Below.refl _ _))
  rw [← hW]
  clear hW
  have h0 : W.cell? ⟨br,0,none⟩ = some (.int .i64 life) := (blk_cell b1 0).trans rfl
  have h1 : W.cell? ⟨br,1,none⟩ = some (.slice A M.length c) := (blk_cell b1 1).trans rfl
  have g0 : W.cell? ⟨bq,0,none⟩ = some (.int .i64 4) := (blk_cell b2 0).trans rfl
  have g1 : W.cell? ⟨bq,1,none⟩ = some (.int .i64 self) := (blk_cell b2 1).trans rfl
  have g2 : W.cell? ⟨bq,2,none⟩ = some (.int .i64 home) := (blk_cell b2 2).trans rfl
  have g3 : W.cell? ⟨bq,3,none⟩ = some (.int .i64 p.f1) := (blk_cell b2 3).trans rfl
  have g4 : W.cell? ⟨bq,4,none⟩ = some (.int .i64 p.f2) := (blk_cell b2 4).trans rfl
  have g5 : W.cell? ⟨bq,5,none⟩ = some (.int .i64 hops) := (blk_cell b2 5).trans rfl
  have g6 : W.cell? ⟨bq,6,none⟩ = some (.int .u64 p.f6) := (blk_cell b2 6).trans rfl
  have g7 : W.cell? ⟨bq,7,none⟩ = some (.int .i64 1) := (blk_cell b2 7).trans rfl
  have g8 : W.cell? ⟨bq,8,none⟩ = some (.string p.f8) := (blk_cell b2 8).trans rfl
  have g9 : W.cell? ⟨bq,9,none⟩ = some (.int .i64 0) := (blk_cell b2 9).trans rfl
  have g10 : W.cell? ⟨bq,10,none⟩ = some (.int .i64 0) := (blk_cell b2 10).trans rfl
  have g11 : W.cell? ⟨bq,11,none⟩ = some (.string ⟨#[]⟩) := (blk_cell b2 11).trans rfl
  exact bodyPost_ret (v := .tuple #[.agg #[.int .i64 life,.slice A M.length c],pkV ⟨4,self,home,p.f1,p.f2,hops,p.f6,1,p.f8,0,0,⟨#[]⟩⟩,.bool true,.int .i64 0]) (by simp [results,Try.results23,go_sem,pkV,h0,h1,g0,g1,g2,g3,g4,g5,g6,g7,g8,g9,g10,g11]) rfl (rserve_ans b3 HR.out HC.out ES.out TS.out PS.out LS.out)
set_option maxHeartbeats 2000000 in
set_option maxRecDepth 100000 in
theorem rserve_some (w : World) (life : Int) (A : Option Addr) (c : Nat) (M : List S57) (hr : Kd.C k57 w A M.length M) (hc : M.length ≤ c) (self home hops : Int) (p : S30) (hl : M.length ≤ 4096) (hn : askedV self home hops = 0) (hs : servable self p = true) (hk : p.f0 = 3) (a : S57) (hg : adGet p.f8 M = some a) :
    Calls Try.prog 23 #[.agg #[.int .i64 life,.slice A M.length c],.int .i64 self,.int .i64 home,.int .i64 hops,.agg #[.int .i64 p.f0,.int .i64 p.f1,.int .i64 p.f2,.int .i64 p.f3,.int .i64 p.f4,.int .i64 p.f5,.int .u64 p.f6,.int .i64 p.f7,.string p.f8,.int .i64 p.f9,.int .i64 p.f10,.string p.f11]] w fun e w' => RServeOut w life A M self home hops p e w' := by
  have hu30 := Try.underlying30
  have hu42 := Try.underlying42
  have hu57 := Try.underlying57
  have HR := Aside0.mk hr
  have HC := Aside0.mk hc
  have AS := Aside0.mk (fun W => rasked_any self home hops 0 hn W)
  have GT := Aside0.mk hg
  have ES : Aside0 (serveE M self home hops p = 0) := ⟨by unfold serveE;rw [hn,if_neg (by simp),if_neg (by rw [hs];simp),if_neg (by rw [hk];decide)]⟩
  have TS : Aside0 (serveT self home hops p = true) := ⟨by unfold serveT;rw [hn,hs,hk];rfl⟩
  have PS : Aside0 (serveP M self home hops p = ⟨4,self,home,p.f1,p.f2,hops,p.f6,0,p.f8,a.f1,a.f2,⟨#[]⟩⟩) := ⟨by unfold serveP answerP;rw [TS.out,if_pos rfl,hg]⟩
  have LS : Aside0 (rserveL life M self home hops p = M) := ⟨by unfold rserveL;rw [if_neg (fun h => by rw [hk] at h;exact absurd h.2.2 (by decide))]⟩
  have hm : mayP p = true := by cases h9 : mayP p;(unfold servable at hs;rw [h9] at hs;simp at hs);rfl
  have MY := Aside0.mk (fun W => rmay_any p true hm W)
  have kt : (p.f3 != self) = false := by unfold servable at hs;rw [hm,hk] at hs;simpa using hs
  have k2b : (p.f0 != 2) = true := by simp [hk]
  have k2c : (p.f0 == 2) = false := by simp [hk]
  have k3b : (p.f0 != 3) = false := by simp [hk]
  have GE := Aside0.mk (fun W h => rget_any life A c M hl p.f8 W h hc)
  clear hn hs hm hk hl hg
  obtain ⟨w0,hw0⟩ : ∃ w0,w0 = ((((w.alloc (Obj.cells #[.int .i64 life,.slice A M.length c] 42)).alloc (Obj.cells #[.int .i64 p.f0,.int .i64 p.f1,.int .i64 p.f2,.int .i64 p.f3,.int .i64 p.f4,.int .i64 p.f5,.int .u64 p.f6,.int .i64 p.f7,.string p.f8,.int .i64 p.f9,.int .i64 p.f10,.string p.f11] 30)).alloc (Obj.cells #[.int .i64 0,.slice none 0 0] 42)).alloc (Obj.cells #[.int .i64 0,.int .i64 0,.int .i64 0,.int .i64 0,.int .i64 0,.int .i64 0,.int .u64 0,.int .i64 0,.string ⟨#[]⟩,.int .i64 0,.int .i64 0,.string ⟨#[]⟩] 30)) := ⟨_,rfl⟩
  obtain ⟨bd,hbd⟩ : ∃ b,b = w.heap.size := ⟨_,rfl⟩
  obtain ⟨bp,hbp⟩ : ∃ b,b = w.heap.size + 1 := ⟨_,rfl⟩
  obtain ⟨br,hbr⟩ : ∃ b,b = w.heap.size + 2 := ⟨_,rfl⟩
  obtain ⟨bq,hbq⟩ : ∃ b,b = w.heap.size + 3 := ⟨_,rfl⟩
  have W0 := Aside0.mk (And.intro hw0 (And.intro hbd (And.intro hbp (And.intro hbr hbq))))
  have I0 : Aside0 (SBase w w0 bd bp br bq life A M.length c p) := ⟨by rw [hw0,hbd,hbp,hbr,hbq];exact sbase_start w life A M.length c p⟩
  have XR : Aside0 (w.heap.size ≤ br ∧ w.heap.size ≤ bq ∧ br ≠ bq) := ⟨by omega⟩
  have XB : Aside0 (bd ≠ br ∧ bd ≠ bq) := ⟨by omega⟩
  clear hw0 hbd hbp hbr hbq hr hc
  go_enter Try.func23,Try.ntmps23
  go_upto_region 1 with fail
  rw [← W0.out.2.2.2.2,← W0.out.2.2.2.1,← W0.out.2.2.1,← W0.out.2.1,← W0.out.1]
  have hne1 := XR.out.2.2
  have hne2 := Ne.symm XR.out.2.2
  go_upto_region 11 with (first | (go_at_call 43;(with_reducible refine (AS.out _).mono ?_);rintro e w1 ⟨rfl,hb⟩;have I1 := Aside0.mk (I0.out.below hb);clear hb;have XDw1 := Aside0.mk I1.out.2.1;have XPw1 := Aside0.mk I1.out.2.2.1;have XRw1 := Aside0.mk I1.out.2.2.2.1;have XQw1 := Aside0.mk I1.out.2.2.2.2;have d0w1 : w1.cell? ⟨bd,0,none⟩ = some (.int .i64 life) := (blk_cell XDw1.out 0).trans rfl;have d1w1 : w1.cell? ⟨bd,1,none⟩ = some (.slice A M.length c) := (blk_cell XDw1.out 1).trans rfl;have p0w1 : w1.cell? ⟨bp,0,none⟩ = some (.int .i64 p.f0) := (blk_cell XPw1.out 0).trans rfl;have p1w1 : w1.cell? ⟨bp,1,none⟩ = some (.int .i64 p.f1) := (blk_cell XPw1.out 1).trans rfl;have p2w1 : w1.cell? ⟨bp,2,none⟩ = some (.int .i64 p.f2) := (blk_cell XPw1.out 2).trans rfl;have p3w1 : w1.cell? ⟨bp,3,none⟩ = some (.int .i64 p.f3) := (blk_cell XPw1.out 3).trans rfl;have p4w1 : w1.cell? ⟨bp,4,none⟩ = some (.int .i64 p.f4) := (blk_cell XPw1.out 4).trans rfl;have p5w1 : w1.cell? ⟨bp,5,none⟩ = some (.int .i64 p.f5) := (blk_cell XPw1.out 5).trans rfl;have p6w1 : w1.cell? ⟨bp,6,none⟩ = some (.int .u64 p.f6) := (blk_cell XPw1.out 6).trans rfl;have p7w1 : w1.cell? ⟨bp,7,none⟩ = some (.int .i64 p.f7) := (blk_cell XPw1.out 7).trans rfl;have p8w1 : w1.cell? ⟨bp,8,none⟩ = some (.string p.f8) := (blk_cell XPw1.out 8).trans rfl;have p9w1 : w1.cell? ⟨bp,9,none⟩ = some (.int .i64 p.f9) := (blk_cell XPw1.out 9).trans rfl;have p10w1 : w1.cell? ⟨bp,10,none⟩ = some (.int .i64 p.f10) := (blk_cell XPw1.out 10).trans rfl;have p11w1 : w1.cell? ⟨bp,11,none⟩ = some (.string p.f11) := (blk_cell XPw1.out 11).trans rfl;have r0w1 : w1.cell? ⟨br,0,none⟩ = some (.int .i64 0) := (blk_cell XRw1.out 0).trans rfl;have r1w1 : w1.cell? ⟨br,1,none⟩ = some (.slice none 0 0) := (blk_cell XRw1.out 1).trans rfl;have zr0w1 := blk_frozen XRw1.out 0;have zr1w1 := blk_frozen XRw1.out 1;have q0w1 : w1.cell? ⟨bq,0,none⟩ = some (.int .i64 0) := (blk_cell XQw1.out 0).trans rfl;have q1w1 : w1.cell? ⟨bq,1,none⟩ = some (.int .i64 0) := (blk_cell XQw1.out 1).trans rfl;have q2w1 : w1.cell? ⟨bq,2,none⟩ = some (.int .i64 0) := (blk_cell XQw1.out 2).trans rfl;have q3w1 : w1.cell? ⟨bq,3,none⟩ = some (.int .i64 0) := (blk_cell XQw1.out 3).trans rfl;have q4w1 : w1.cell? ⟨bq,4,none⟩ = some (.int .i64 0) := (blk_cell XQw1.out 4).trans rfl;have q5w1 : w1.cell? ⟨bq,5,none⟩ = some (.int .i64 0) := (blk_cell XQw1.out 5).trans rfl;have q6w1 : w1.cell? ⟨bq,6,none⟩ = some (.int .u64 0) := (blk_cell XQw1.out 6).trans rfl;have q7w1 : w1.cell? ⟨bq,7,none⟩ = some (.int .i64 0) := (blk_cell XQw1.out 7).trans rfl;have q8w1 : w1.cell? ⟨bq,8,none⟩ = some (.string ⟨#[]⟩) := (blk_cell XQw1.out 8).trans rfl;have q9w1 : w1.cell? ⟨bq,9,none⟩ = some (.int .i64 0) := (blk_cell XQw1.out 9).trans rfl;have q10w1 : w1.cell? ⟨bq,10,none⟩ = some (.int .i64 0) := (blk_cell XQw1.out 10).trans rfl;have q11w1 : w1.cell? ⟨bq,11,none⟩ = some (.string ⟨#[]⟩) := (blk_cell XQw1.out 11).trans rfl;have zq0w1 := blk_frozen XQw1.out 0;have zq1w1 := blk_frozen XQw1.out 1;have zq2w1 := blk_frozen XQw1.out 2;have zq3w1 := blk_frozen XQw1.out 3;have zq4w1 := blk_frozen XQw1.out 4;have zq5w1 := blk_frozen XQw1.out 5;have zq6w1 := blk_frozen XQw1.out 6;have zq7w1 := blk_frozen XQw1.out 7;have zq8w1 := blk_frozen XQw1.out 8;have zq9w1 := blk_frozen XQw1.out 9;have zq10w1 := blk_frozen XQw1.out 10;have zq11w1 := blk_frozen XQw1.out 11;have ltdw1 := blk_lt XDw1.out;have ltpw1 := blk_lt XPw1.out;have ltrw1 := blk_lt XRw1.out;have ltqw1 := blk_lt XQw1.out) | (go_at_call 44;(with_reducible refine (MY.out _).mono ?_);rintro e w2 ⟨rfl,hb⟩;have I2 := Aside0.mk (I1.out.below hb);clear hb;have XDw2 := Aside0.mk I2.out.2.1;have XPw2 := Aside0.mk I2.out.2.2.1;have XRw2 := Aside0.mk I2.out.2.2.2.1;have XQw2 := Aside0.mk I2.out.2.2.2.2;have d0w2 : w2.cell? ⟨bd,0,none⟩ = some (.int .i64 life) := (blk_cell XDw2.out 0).trans rfl;have d1w2 : w2.cell? ⟨bd,1,none⟩ = some (.slice A M.length c) := (blk_cell XDw2.out 1).trans rfl;have p0w2 : w2.cell? ⟨bp,0,none⟩ = some (.int .i64 p.f0) := (blk_cell XPw2.out 0).trans rfl;have p1w2 : w2.cell? ⟨bp,1,none⟩ = some (.int .i64 p.f1) := (blk_cell XPw2.out 1).trans rfl;have p2w2 : w2.cell? ⟨bp,2,none⟩ = some (.int .i64 p.f2) := (blk_cell XPw2.out 2).trans rfl;have p3w2 : w2.cell? ⟨bp,3,none⟩ = some (.int .i64 p.f3) := (blk_cell XPw2.out 3).trans rfl;have p4w2 : w2.cell? ⟨bp,4,none⟩ = some (.int .i64 p.f4) := (blk_cell XPw2.out 4).trans rfl;have p5w2 : w2.cell? ⟨bp,5,none⟩ = some (.int .i64 p.f5) := (blk_cell XPw2.out 5).trans rfl;have p6w2 : w2.cell? ⟨bp,6,none⟩ = some (.int .u64 p.f6) := (blk_cell XPw2.out 6).trans rfl;have p7w2 : w2.cell? ⟨bp,7,none⟩ = some (.int .i64 p.f7) := (blk_cell XPw2.out 7).trans rfl;have p8w2 : w2.cell? ⟨bp,8,none⟩ = some (.string p.f8) := (blk_cell XPw2.out 8).trans rfl;have p9w2 : w2.cell? ⟨bp,9,none⟩ = some (.int .i64 p.f9) := (blk_cell XPw2.out 9).trans rfl;have p10w2 : w2.cell? ⟨bp,10,none⟩ = some (.int .i64 p.f10) := (blk_cell XPw2.out 10).trans rfl;have p11w2 : w2.cell? ⟨bp,11,none⟩ = some (.string p.f11) := (blk_cell XPw2.out 11).trans rfl;have r0w2 : w2.cell? ⟨br,0,none⟩ = some (.int .i64 0) := (blk_cell XRw2.out 0).trans rfl;have r1w2 : w2.cell? ⟨br,1,none⟩ = some (.slice none 0 0) := (blk_cell XRw2.out 1).trans rfl;have zr0w2 := blk_frozen XRw2.out 0;have zr1w2 := blk_frozen XRw2.out 1;have q0w2 : w2.cell? ⟨bq,0,none⟩ = some (.int .i64 0) := (blk_cell XQw2.out 0).trans rfl;have q1w2 : w2.cell? ⟨bq,1,none⟩ = some (.int .i64 0) := (blk_cell XQw2.out 1).trans rfl;have q2w2 : w2.cell? ⟨bq,2,none⟩ = some (.int .i64 0) := (blk_cell XQw2.out 2).trans rfl;have q3w2 : w2.cell? ⟨bq,3,none⟩ = some (.int .i64 0) := (blk_cell XQw2.out 3).trans rfl;have q4w2 : w2.cell? ⟨bq,4,none⟩ = some (.int .i64 0) := (blk_cell XQw2.out 4).trans rfl;have q5w2 : w2.cell? ⟨bq,5,none⟩ = some (.int .i64 0) := (blk_cell XQw2.out 5).trans rfl;have q6w2 : w2.cell? ⟨bq,6,none⟩ = some (.int .u64 0) := (blk_cell XQw2.out 6).trans rfl;have q7w2 : w2.cell? ⟨bq,7,none⟩ = some (.int .i64 0) := (blk_cell XQw2.out 7).trans rfl;have q8w2 : w2.cell? ⟨bq,8,none⟩ = some (.string ⟨#[]⟩) := (blk_cell XQw2.out 8).trans rfl;have q9w2 : w2.cell? ⟨bq,9,none⟩ = some (.int .i64 0) := (blk_cell XQw2.out 9).trans rfl;have q10w2 : w2.cell? ⟨bq,10,none⟩ = some (.int .i64 0) := (blk_cell XQw2.out 10).trans rfl;have q11w2 : w2.cell? ⟨bq,11,none⟩ = some (.string ⟨#[]⟩) := (blk_cell XQw2.out 11).trans rfl;have zq0w2 := blk_frozen XQw2.out 0;have zq1w2 := blk_frozen XQw2.out 1;have zq2w2 := blk_frozen XQw2.out 2;have zq3w2 := blk_frozen XQw2.out 3;have zq4w2 := blk_frozen XQw2.out 4;have zq5w2 := blk_frozen XQw2.out 5;have zq6w2 := blk_frozen XQw2.out 6;have zq7w2 := blk_frozen XQw2.out 7;have zq8w2 := blk_frozen XQw2.out 8;have zq9w2 := blk_frozen XQw2.out 9;have zq10w2 := blk_frozen XQw2.out 10;have zq11w2 := blk_frozen XQw2.out 11;have ltdw2 := blk_lt XDw2.out;have ltpw2 := blk_lt XPw2.out;have ltrw2 := blk_lt XRw2.out;have ltqw2 := blk_lt XQw2.out) | (go_at_call 26;refine (GE.out _ (Kd.C_alloc (Kd.C_below HR.out I2.out.1) _)).mono ?_;rintro e w3 ⟨rfl,hb⟩;rw [GT.out];simp only [adOr,adV,Option.getD_some,Option.isSome_some,z57];have BO3 := Aside0.mk (blk_below (blk_new w2 (.cells #[.int .i64 4,.int .i64 self,.int .i64 home,.int .i64 p.f1,.int .i64 p.f2,.int .i64 hops,.int .u64 p.f6,.int .i64 1,.string p.f8,.int .i64 0,.int .i64 0,.string ⟨#[]⟩] 30)) hb);have I3 := Aside0.mk ((I2.out.below (below_alloc (Below.refl _ _) (.cells #[.int .i64 4,.int .i64 self,.int .i64 home,.int .i64 p.f1,.int .i64 p.f2,.int .i64 hops,.int .u64 p.f6,.int .i64 1,.string p.f8,.int .i64 0,.int .i64 0,.string ⟨#[]⟩] 30))).below hb);clear hb;have XDw3 := Aside0.mk I3.out.2.1;have XPw3 := Aside0.mk I3.out.2.2.1;have XRw3 := Aside0.mk I3.out.2.2.2.1;have XQw3 := Aside0.mk I3.out.2.2.2.2;have d0w3 : w3.cell? ⟨bd,0,none⟩ = some (.int .i64 life) := (blk_cell XDw3.out 0).trans rfl;have d1w3 : w3.cell? ⟨bd,1,none⟩ = some (.slice A M.length c) := (blk_cell XDw3.out 1).trans rfl;have p0w3 : w3.cell? ⟨bp,0,none⟩ = some (.int .i64 p.f0) := (blk_cell XPw3.out 0).trans rfl;have p1w3 : w3.cell? ⟨bp,1,none⟩ = some (.int .i64 p.f1) := (blk_cell XPw3.out 1).trans rfl;have p2w3 : w3.cell? ⟨bp,2,none⟩ = some (.int .i64 p.f2) := (blk_cell XPw3.out 2).trans rfl;have p3w3 : w3.cell? ⟨bp,3,none⟩ = some (.int .i64 p.f3) := (blk_cell XPw3.out 3).trans rfl;have p4w3 : w3.cell? ⟨bp,4,none⟩ = some (.int .i64 p.f4) := (blk_cell XPw3.out 4).trans rfl;have p5w3 : w3.cell? ⟨bp,5,none⟩ = some (.int .i64 p.f5) := (blk_cell XPw3.out 5).trans rfl;have p6w3 : w3.cell? ⟨bp,6,none⟩ = some (.int .u64 p.f6) := (blk_cell XPw3.out 6).trans rfl;have p7w3 : w3.cell? ⟨bp,7,none⟩ = some (.int .i64 p.f7) := (blk_cell XPw3.out 7).trans rfl;have p8w3 : w3.cell? ⟨bp,8,none⟩ = some (.string p.f8) := (blk_cell XPw3.out 8).trans rfl;have p9w3 : w3.cell? ⟨bp,9,none⟩ = some (.int .i64 p.f9) := (blk_cell XPw3.out 9).trans rfl;have p10w3 : w3.cell? ⟨bp,10,none⟩ = some (.int .i64 p.f10) := (blk_cell XPw3.out 10).trans rfl;have p11w3 : w3.cell? ⟨bp,11,none⟩ = some (.string p.f11) := (blk_cell XPw3.out 11).trans rfl;have r0w3 : w3.cell? ⟨br,0,none⟩ = some (.int .i64 0) := (blk_cell XRw3.out 0).trans rfl;have r1w3 : w3.cell? ⟨br,1,none⟩ = some (.slice none 0 0) := (blk_cell XRw3.out 1).trans rfl;have zr0w3 := blk_frozen XRw3.out 0;have zr1w3 := blk_frozen XRw3.out 1;have q0w3 : w3.cell? ⟨bq,0,none⟩ = some (.int .i64 0) := (blk_cell XQw3.out 0).trans rfl;have q1w3 : w3.cell? ⟨bq,1,none⟩ = some (.int .i64 0) := (blk_cell XQw3.out 1).trans rfl;have q2w3 : w3.cell? ⟨bq,2,none⟩ = some (.int .i64 0) := (blk_cell XQw3.out 2).trans rfl;have q3w3 : w3.cell? ⟨bq,3,none⟩ = some (.int .i64 0) := (blk_cell XQw3.out 3).trans rfl;have q4w3 : w3.cell? ⟨bq,4,none⟩ = some (.int .i64 0) := (blk_cell XQw3.out 4).trans rfl;have q5w3 : w3.cell? ⟨bq,5,none⟩ = some (.int .i64 0) := (blk_cell XQw3.out 5).trans rfl;have q6w3 : w3.cell? ⟨bq,6,none⟩ = some (.int .u64 0) := (blk_cell XQw3.out 6).trans rfl;have q7w3 : w3.cell? ⟨bq,7,none⟩ = some (.int .i64 0) := (blk_cell XQw3.out 7).trans rfl;have q8w3 : w3.cell? ⟨bq,8,none⟩ = some (.string ⟨#[]⟩) := (blk_cell XQw3.out 8).trans rfl;have q9w3 : w3.cell? ⟨bq,9,none⟩ = some (.int .i64 0) := (blk_cell XQw3.out 9).trans rfl;have q10w3 : w3.cell? ⟨bq,10,none⟩ = some (.int .i64 0) := (blk_cell XQw3.out 10).trans rfl;have q11w3 : w3.cell? ⟨bq,11,none⟩ = some (.string ⟨#[]⟩) := (blk_cell XQw3.out 11).trans rfl;have zq0w3 := blk_frozen XQw3.out 0;have zq1w3 := blk_frozen XQw3.out 1;have zq2w3 := blk_frozen XQw3.out 2;have zq3w3 := blk_frozen XQw3.out 3;have zq4w3 := blk_frozen XQw3.out 4;have zq5w3 := blk_frozen XQw3.out 5;have zq6w3 := blk_frozen XQw3.out 6;have zq7w3 := blk_frozen XQw3.out 7;have zq8w3 := blk_frozen XQw3.out 8;have zq9w3 := blk_frozen XQw3.out 9;have zq10w3 := blk_frozen XQw3.out 10;have zq11w3 := blk_frozen XQw3.out 11;have ltdw3 := blk_lt XDw3.out;have ltpw3 := blk_lt XPw3.out;have ltrw3 := blk_lt XRw3.out;have ltqw3 := blk_lt XQw3.out;have o0w3 : w3.cell? ⟨w2.heap.size,0,none⟩ = some (.int .i64 4) := (blk_cell BO3.out 0).trans rfl;have o1w3 : w3.cell? ⟨w2.heap.size,1,none⟩ = some (.int .i64 self) := (blk_cell BO3.out 1).trans rfl;have o2w3 : w3.cell? ⟨w2.heap.size,2,none⟩ = some (.int .i64 home) := (blk_cell BO3.out 2).trans rfl;have o3w3 : w3.cell? ⟨w2.heap.size,3,none⟩ = some (.int .i64 p.f1) := (blk_cell BO3.out 3).trans rfl;have o4w3 : w3.cell? ⟨w2.heap.size,4,none⟩ = some (.int .i64 p.f2) := (blk_cell BO3.out 4).trans rfl;have o5w3 : w3.cell? ⟨w2.heap.size,5,none⟩ = some (.int .i64 hops) := (blk_cell BO3.out 5).trans rfl;have o6w3 : w3.cell? ⟨w2.heap.size,6,none⟩ = some (.int .u64 p.f6) := (blk_cell BO3.out 6).trans rfl;have o7w3 : w3.cell? ⟨w2.heap.size,7,none⟩ = some (.int .i64 1) := (blk_cell BO3.out 7).trans rfl;have o8w3 : w3.cell? ⟨w2.heap.size,8,none⟩ = some (.string p.f8) := (blk_cell BO3.out 8).trans rfl;have o9w3 : w3.cell? ⟨w2.heap.size,9,none⟩ = some (.int .i64 0) := (blk_cell BO3.out 9).trans rfl;have o10w3 : w3.cell? ⟨w2.heap.size,10,none⟩ = some (.int .i64 0) := (blk_cell BO3.out 10).trans rfl;have o11w3 : w3.cell? ⟨w2.heap.size,11,none⟩ = some (.string ⟨#[]⟩) := (blk_cell BO3.out 11).trans rfl))
  obtain ⟨w5,hw5⟩ : ∃ w5,w5 = w3.alloc (Obj.cells #[.string a.f0,.int .i64 a.f1,.int .i64 a.f2,.int .i64 a.f3] 57) := ⟨_,rfl⟩
  obtain ⟨ba,hba⟩ : ∃ ba,ba = w3.heap.size := ⟨_,rfl⟩
  obtain ⟨bo,hbo⟩ : ∃ bo,bo = w2.heap.size := ⟨_,rfl⟩
  have BO5 : Aside0 (w5.heap[bo]? = some (.cells #[.int .i64 4,.int .i64 self,.int .i64 home,.int .i64 p.f1,.int .i64 p.f2,.int .i64 hops,.int .u64 p.f6,.int .i64 1,.string p.f8,.int .i64 0,.int .i64 0,.string ⟨#[]⟩] 30 (0,0))) := ⟨by rw [hw5,hbo];exact blk_alloc BO3.out _⟩
  have BA5 : Aside0 (w5.heap[ba]? = some (.cells #[.string a.f0,.int .i64 a.f1,.int .i64 a.f2,.int .i64 a.f3] 57 (0,0))) := ⟨by rw [hw5,hba];exact blk_new w3 _⟩
  have I5 : Aside0 (SBase w w5 bd bp br bq life A M.length c p) := ⟨by rw [hw5];exact I3.out.below (below_alloc (Below.refl _ _) _)⟩
  have OG : Aside0 (bo ≠ bd ∧ bo ≠ bp ∧ bo ≠ br ∧ bo ≠ bq ∧ w.heap.size ≤ bo) := ⟨by
    have h1 := I2.out.1.size
    have h2 := blk_lt I2.out.2.1
    have h3 := blk_lt I2.out.2.2.1
    have h4 := blk_lt I2.out.2.2.2.1
    have h5 := blk_lt I2.out.2.2.2.2
    omega⟩
  rw [← hw5,← hba,← hbo]
  clear hw5 hba hbo
  have XDw5 := Aside0.mk I5.out.2.1
  have XPw5 := Aside0.mk I5.out.2.2.1
  have XRw5 := Aside0.mk I5.out.2.2.2.1
  have XQw5 := Aside0.mk I5.out.2.2.2.2
  have d0w5 : w5.cell? ⟨bd,0,none⟩ = some (.int .i64 life) := (blk_cell XDw5.out 0).trans rfl
  have d1w5 : w5.cell? ⟨bd,1,none⟩ = some (.slice A M.length c) := (blk_cell XDw5.out 1).trans rfl
  have p0w5 : w5.cell? ⟨bp,0,none⟩ = some (.int .i64 p.f0) := (blk_cell XPw5.out 0).trans rfl
  have p1w5 : w5.cell? ⟨bp,1,none⟩ = some (.int .i64 p.f1) := (blk_cell XPw5.out 1).trans rfl
  have p2w5 : w5.cell? ⟨bp,2,none⟩ = some (.int .i64 p.f2) := (blk_cell XPw5.out 2).trans rfl
  have p3w5 : w5.cell? ⟨bp,3,none⟩ = some (.int .i64 p.f3) := (blk_cell XPw5.out 3).trans rfl
  have p4w5 : w5.cell? ⟨bp,4,none⟩ = some (.int .i64 p.f4) := (blk_cell XPw5.out 4).trans rfl
  have p5w5 : w5.cell? ⟨bp,5,none⟩ = some (.int .i64 p.f5) := (blk_cell XPw5.out 5).trans rfl
  have p6w5 : w5.cell? ⟨bp,6,none⟩ = some (.int .u64 p.f6) := (blk_cell XPw5.out 6).trans rfl
  have p7w5 : w5.cell? ⟨bp,7,none⟩ = some (.int .i64 p.f7) := (blk_cell XPw5.out 7).trans rfl
  have p8w5 : w5.cell? ⟨bp,8,none⟩ = some (.string p.f8) := (blk_cell XPw5.out 8).trans rfl
  have p9w5 : w5.cell? ⟨bp,9,none⟩ = some (.int .i64 p.f9) := (blk_cell XPw5.out 9).trans rfl
  have p10w5 : w5.cell? ⟨bp,10,none⟩ = some (.int .i64 p.f10) := (blk_cell XPw5.out 10).trans rfl
  have p11w5 : w5.cell? ⟨bp,11,none⟩ = some (.string p.f11) := (blk_cell XPw5.out 11).trans rfl
  have r0w5 : w5.cell? ⟨br,0,none⟩ = some (.int .i64 0) := (blk_cell XRw5.out 0).trans rfl
  have r1w5 : w5.cell? ⟨br,1,none⟩ = some (.slice none 0 0) := (blk_cell XRw5.out 1).trans rfl
  have zr0w5 := blk_frozen XRw5.out 0
  have zr1w5 := blk_frozen XRw5.out 1
  have q0w5 : w5.cell? ⟨bq,0,none⟩ = some (.int .i64 0) := (blk_cell XQw5.out 0).trans rfl
  have q1w5 : w5.cell? ⟨bq,1,none⟩ = some (.int .i64 0) := (blk_cell XQw5.out 1).trans rfl
  have q2w5 : w5.cell? ⟨bq,2,none⟩ = some (.int .i64 0) := (blk_cell XQw5.out 2).trans rfl
  have q3w5 : w5.cell? ⟨bq,3,none⟩ = some (.int .i64 0) := (blk_cell XQw5.out 3).trans rfl
  have q4w5 : w5.cell? ⟨bq,4,none⟩ = some (.int .i64 0) := (blk_cell XQw5.out 4).trans rfl
  have q5w5 : w5.cell? ⟨bq,5,none⟩ = some (.int .i64 0) := (blk_cell XQw5.out 5).trans rfl
  have q6w5 : w5.cell? ⟨bq,6,none⟩ = some (.int .u64 0) := (blk_cell XQw5.out 6).trans rfl
  have q7w5 : w5.cell? ⟨bq,7,none⟩ = some (.int .i64 0) := (blk_cell XQw5.out 7).trans rfl
  have q8w5 : w5.cell? ⟨bq,8,none⟩ = some (.string ⟨#[]⟩) := (blk_cell XQw5.out 8).trans rfl
  have q9w5 : w5.cell? ⟨bq,9,none⟩ = some (.int .i64 0) := (blk_cell XQw5.out 9).trans rfl
  have q10w5 : w5.cell? ⟨bq,10,none⟩ = some (.int .i64 0) := (blk_cell XQw5.out 10).trans rfl
  have q11w5 : w5.cell? ⟨bq,11,none⟩ = some (.string ⟨#[]⟩) := (blk_cell XQw5.out 11).trans rfl
  have zq0w5 := blk_frozen XQw5.out 0
  have zq1w5 := blk_frozen XQw5.out 1
  have zq2w5 := blk_frozen XQw5.out 2
  have zq3w5 := blk_frozen XQw5.out 3
  have zq4w5 := blk_frozen XQw5.out 4
  have zq5w5 := blk_frozen XQw5.out 5
  have zq6w5 := blk_frozen XQw5.out 6
  have zq7w5 := blk_frozen XQw5.out 7
  have zq8w5 := blk_frozen XQw5.out 8
  have zq9w5 := blk_frozen XQw5.out 9
  have zq10w5 := blk_frozen XQw5.out 10
  have zq11w5 := blk_frozen XQw5.out 11
  have ltdw5 := blk_lt XDw5.out
  have ltpw5 := blk_lt XPw5.out
  have ltrw5 := blk_lt XRw5.out
  have ltqw5 := blk_lt XQw5.out
  have o0w5 : w5.cell? ⟨bo,0,none⟩ = some (.int .i64 4) := (blk_cell BO5.out 0).trans rfl
  have o1w5 : w5.cell? ⟨bo,1,none⟩ = some (.int .i64 self) := (blk_cell BO5.out 1).trans rfl
  have o2w5 : w5.cell? ⟨bo,2,none⟩ = some (.int .i64 home) := (blk_cell BO5.out 2).trans rfl
  have o3w5 : w5.cell? ⟨bo,3,none⟩ = some (.int .i64 p.f1) := (blk_cell BO5.out 3).trans rfl
  have o4w5 : w5.cell? ⟨bo,4,none⟩ = some (.int .i64 p.f2) := (blk_cell BO5.out 4).trans rfl
  have o5w5 : w5.cell? ⟨bo,5,none⟩ = some (.int .i64 hops) := (blk_cell BO5.out 5).trans rfl
  have o6w5 : w5.cell? ⟨bo,6,none⟩ = some (.int .u64 p.f6) := (blk_cell BO5.out 6).trans rfl
  have o7w5 : w5.cell? ⟨bo,7,none⟩ = some (.int .i64 1) := (blk_cell BO5.out 7).trans rfl
  have o8w5 : w5.cell? ⟨bo,8,none⟩ = some (.string p.f8) := (blk_cell BO5.out 8).trans rfl
  have o9w5 : w5.cell? ⟨bo,9,none⟩ = some (.int .i64 0) := (blk_cell BO5.out 9).trans rfl
  have o10w5 : w5.cell? ⟨bo,10,none⟩ = some (.int .i64 0) := (blk_cell BO5.out 10).trans rfl
  have o11w5 : w5.cell? ⟨bo,11,none⟩ = some (.string ⟨#[]⟩) := (blk_cell BO5.out 11).trans rfl
  have zo0w5 := blk_frozen BO5.out 0
  have zo1w5 := blk_frozen BO5.out 1
  have zo2w5 := blk_frozen BO5.out 2
  have zo3w5 := blk_frozen BO5.out 3
  have zo4w5 := blk_frozen BO5.out 4
  have zo5w5 := blk_frozen BO5.out 5
  have zo6w5 := blk_frozen BO5.out 6
  have zo7w5 := blk_frozen BO5.out 7
  have zo8w5 := blk_frozen BO5.out 8
  have zo9w5 := blk_frozen BO5.out 9
  have zo10w5 := blk_frozen BO5.out 10
  have zo11w5 := blk_frozen BO5.out 11
  have a0w5 : w5.cell? ⟨ba,0,none⟩ = some (.string a.f0) := (blk_cell BA5.out 0).trans rfl
  have a1w5 : w5.cell? ⟨ba,1,none⟩ = some (.int .i64 a.f1) := (blk_cell BA5.out 1).trans rfl
  have a2w5 : w5.cell? ⟨ba,2,none⟩ = some (.int .i64 a.f2) := (blk_cell BA5.out 2).trans rfl
  have a3w5 : w5.cell? ⟨ba,3,none⟩ = some (.int .i64 a.f3) := (blk_cell BA5.out 3).trans rfl
  have lto5 := blk_lt BO5.out
  have lta5 := blk_lt BA5.out
  go_upto_region 15 with fail
  have hne3 := OG.out.2.2.1
  have hne4 := Ne.symm OG.out.2.2.1
  have hne5 := OG.out.2.2.2.1
  have hne6 := Ne.symm OG.out.2.2.2.1
  have hne7 := XB.out.1
  have hne8 := Ne.symm XB.out.1
  have hne9 := XB.out.2
  have hne10 := Ne.symm XB.out.2
  obtain ⟨w6,hw6⟩ : ∃ w6,w6 = ((w5.setCell ⟨bo,7,none⟩ (.int .i64 0)).setCell ⟨bo,9,none⟩ (.int .i64 a.f1)).setCell ⟨bo,10,none⟩ (.int .i64 a.f2) := ⟨_,rfl⟩
  have BO6 : Aside0 (w6.heap[bo]? = some (.cells #[.int .i64 4,.int .i64 self,.int .i64 home,.int .i64 p.f1,.int .i64 p.f2,.int .i64 hops,.int .u64 p.f6,.int .i64 0,.string p.f8,.int .i64 a.f1,.int .i64 a.f2,.string ⟨#[]⟩] 30 (0,0))) := ⟨by rw [hw6];exact (blk_set (blk_set (blk_set BO5.out 7 _) 9 _) 10 _).trans rfl⟩
  have I6 : Aside0 (SBase w w6 bd bp br bq life A M.length c p) := ⟨by rw [hw6];exact ((I5.out.far OG.out _).far OG.out _).far OG.out _⟩
  rw [← hw6]
  clear hw6
  have XDw6 := Aside0.mk I6.out.2.1
  have XPw6 := Aside0.mk I6.out.2.2.1
  have XRw6 := Aside0.mk I6.out.2.2.2.1
  have XQw6 := Aside0.mk I6.out.2.2.2.2
  have d0w6 : w6.cell? ⟨bd,0,none⟩ = some (.int .i64 life) := (blk_cell XDw6.out 0).trans rfl
  have d1w6 : w6.cell? ⟨bd,1,none⟩ = some (.slice A M.length c) := (blk_cell XDw6.out 1).trans rfl
  have p0w6 : w6.cell? ⟨bp,0,none⟩ = some (.int .i64 p.f0) := (blk_cell XPw6.out 0).trans rfl
  have p1w6 : w6.cell? ⟨bp,1,none⟩ = some (.int .i64 p.f1) := (blk_cell XPw6.out 1).trans rfl
  have p2w6 : w6.cell? ⟨bp,2,none⟩ = some (.int .i64 p.f2) := (blk_cell XPw6.out 2).trans rfl
  have p3w6 : w6.cell? ⟨bp,3,none⟩ = some (.int .i64 p.f3) := (blk_cell XPw6.out 3).trans rfl
  have p4w6 : w6.cell? ⟨bp,4,none⟩ = some (.int .i64 p.f4) := (blk_cell XPw6.out 4).trans rfl
  have p5w6 : w6.cell? ⟨bp,5,none⟩ = some (.int .i64 p.f5) := (blk_cell XPw6.out 5).trans rfl
  have p6w6 : w6.cell? ⟨bp,6,none⟩ = some (.int .u64 p.f6) := (blk_cell XPw6.out 6).trans rfl
  have p7w6 : w6.cell? ⟨bp,7,none⟩ = some (.int .i64 p.f7) := (blk_cell XPw6.out 7).trans rfl
  have p8w6 : w6.cell? ⟨bp,8,none⟩ = some (.string p.f8) := (blk_cell XPw6.out 8).trans rfl
  have p9w6 : w6.cell? ⟨bp,9,none⟩ = some (.int .i64 p.f9) := (blk_cell XPw6.out 9).trans rfl
  have p10w6 : w6.cell? ⟨bp,10,none⟩ = some (.int .i64 p.f10) := (blk_cell XPw6.out 10).trans rfl
  have p11w6 : w6.cell? ⟨bp,11,none⟩ = some (.string p.f11) := (blk_cell XPw6.out 11).trans rfl
  have r0w6 : w6.cell? ⟨br,0,none⟩ = some (.int .i64 0) := (blk_cell XRw6.out 0).trans rfl
  have r1w6 : w6.cell? ⟨br,1,none⟩ = some (.slice none 0 0) := (blk_cell XRw6.out 1).trans rfl
  have zr0w6 := blk_frozen XRw6.out 0
  have zr1w6 := blk_frozen XRw6.out 1
  have q0w6 : w6.cell? ⟨bq,0,none⟩ = some (.int .i64 0) := (blk_cell XQw6.out 0).trans rfl
  have q1w6 : w6.cell? ⟨bq,1,none⟩ = some (.int .i64 0) := (blk_cell XQw6.out 1).trans rfl
  have q2w6 : w6.cell? ⟨bq,2,none⟩ = some (.int .i64 0) := (blk_cell XQw6.out 2).trans rfl
  have q3w6 : w6.cell? ⟨bq,3,none⟩ = some (.int .i64 0) := (blk_cell XQw6.out 3).trans rfl
  have q4w6 : w6.cell? ⟨bq,4,none⟩ = some (.int .i64 0) := (blk_cell XQw6.out 4).trans rfl
  have q5w6 : w6.cell? ⟨bq,5,none⟩ = some (.int .i64 0) := (blk_cell XQw6.out 5).trans rfl
  have q6w6 : w6.cell? ⟨bq,6,none⟩ = some (.int .u64 0) := (blk_cell XQw6.out 6).trans rfl
  have q7w6 : w6.cell? ⟨bq,7,none⟩ = some (.int .i64 0) := (blk_cell XQw6.out 7).trans rfl
  have q8w6 : w6.cell? ⟨bq,8,none⟩ = some (.string ⟨#[]⟩) := (blk_cell XQw6.out 8).trans rfl
  have q9w6 : w6.cell? ⟨bq,9,none⟩ = some (.int .i64 0) := (blk_cell XQw6.out 9).trans rfl
  have q10w6 : w6.cell? ⟨bq,10,none⟩ = some (.int .i64 0) := (blk_cell XQw6.out 10).trans rfl
  have q11w6 : w6.cell? ⟨bq,11,none⟩ = some (.string ⟨#[]⟩) := (blk_cell XQw6.out 11).trans rfl
  have zq0w6 := blk_frozen XQw6.out 0
  have zq1w6 := blk_frozen XQw6.out 1
  have zq2w6 := blk_frozen XQw6.out 2
  have zq3w6 := blk_frozen XQw6.out 3
  have zq4w6 := blk_frozen XQw6.out 4
  have zq5w6 := blk_frozen XQw6.out 5
  have zq6w6 := blk_frozen XQw6.out 6
  have zq7w6 := blk_frozen XQw6.out 7
  have zq8w6 := blk_frozen XQw6.out 8
  have zq9w6 := blk_frozen XQw6.out 9
  have zq10w6 := blk_frozen XQw6.out 10
  have zq11w6 := blk_frozen XQw6.out 11
  have ltdw6 := blk_lt XDw6.out
  have ltpw6 := blk_lt XPw6.out
  have ltrw6 := blk_lt XRw6.out
  have ltqw6 := blk_lt XQw6.out
  have o0w6 : w6.cell? ⟨bo,0,none⟩ = some (.int .i64 4) := (blk_cell BO6.out 0).trans rfl
  have o1w6 : w6.cell? ⟨bo,1,none⟩ = some (.int .i64 self) := (blk_cell BO6.out 1).trans rfl
  have o2w6 : w6.cell? ⟨bo,2,none⟩ = some (.int .i64 home) := (blk_cell BO6.out 2).trans rfl
  have o3w6 : w6.cell? ⟨bo,3,none⟩ = some (.int .i64 p.f1) := (blk_cell BO6.out 3).trans rfl
  have o4w6 : w6.cell? ⟨bo,4,none⟩ = some (.int .i64 p.f2) := (blk_cell BO6.out 4).trans rfl
  have o5w6 : w6.cell? ⟨bo,5,none⟩ = some (.int .i64 hops) := (blk_cell BO6.out 5).trans rfl
  have o6w6 : w6.cell? ⟨bo,6,none⟩ = some (.int .u64 p.f6) := (blk_cell BO6.out 6).trans rfl
  have o7w6 : w6.cell? ⟨bo,7,none⟩ = some (.int .i64 0) := (blk_cell BO6.out 7).trans rfl
  have o8w6 : w6.cell? ⟨bo,8,none⟩ = some (.string p.f8) := (blk_cell BO6.out 8).trans rfl
  have o9w6 : w6.cell? ⟨bo,9,none⟩ = some (.int .i64 a.f1) := (blk_cell BO6.out 9).trans rfl
  have o10w6 : w6.cell? ⟨bo,10,none⟩ = some (.int .i64 a.f2) := (blk_cell BO6.out 10).trans rfl
  have o11w6 : w6.cell? ⟨bo,11,none⟩ = some (.string ⟨#[]⟩) := (blk_cell BO6.out 11).trans rfl
  have zo0w6 := blk_frozen BO6.out 0
  have zo1w6 := blk_frozen BO6.out 1
  have zo2w6 := blk_frozen BO6.out 2
  have zo3w6 := blk_frozen BO6.out 3
  have zo4w6 := blk_frozen BO6.out 4
  have zo5w6 := blk_frozen BO6.out 5
  have zo6w6 := blk_frozen BO6.out 6
  have zo7w6 := blk_frozen BO6.out 7
  have zo8w6 := blk_frozen BO6.out 8
  have zo9w6 := blk_frozen BO6.out 9
  have zo10w6 := blk_frozen BO6.out 10
  have zo11w6 := blk_frozen BO6.out 11
  have lto6 := blk_lt BO6.out
  go_region
  all_goals go_wp2_with fail
  obtain ⟨W,hW⟩ : ∃ W,W = ((((((((((((((w6.setCell ⟨br,0,none⟩ (.int .i64 life)).setCell ⟨br,1,none⟩ (.slice A M.length c)).setCell ⟨bq,0,none⟩ (.int .i64 4)).setCell ⟨bq,1,none⟩ (.int .i64 self)).setCell ⟨bq,2,none⟩ (.int .i64 home)).setCell ⟨bq,3,none⟩ (.int .i64 p.f1)).setCell ⟨bq,4,none⟩ (.int .i64 p.f2)).setCell ⟨bq,5,none⟩ (.int .i64 hops)).setCell ⟨bq,6,none⟩ (.int .u64 p.f6)).setCell ⟨bq,7,none⟩ (.int .i64 0)).setCell ⟨bq,8,none⟩ (.string p.f8)).setCell ⟨bq,9,none⟩ (.int .i64 a.f1)).setCell ⟨bq,10,none⟩ (.int .i64 a.f2)).setCell ⟨bq,11,none⟩ (.string ⟨#[]⟩)).drew := ⟨_,rfl⟩
  have b1 : W.heap[br]? = some (.cells #[.int .i64 life,.slice A M.length c] 42 (0,0)) := by rw [hW];exact blk_drew (rs_end (q := ⟨4,self,home,p.f1,p.f2,hops,p.f6,0,p.f8,a.f1,a.f2,⟨#[]⟩⟩) I6.out XR.out).1
  have b2 : W.heap[bq]? = some (.cells #[.int .i64 4,.int .i64 self,.int .i64 home,.int .i64 p.f1,.int .i64 p.f2,.int .i64 hops,.int .u64 p.f6,.int .i64 0,.string p.f8,.int .i64 a.f1,.int .i64 a.f2,.string ⟨#[]⟩] 30 (0,0)) := by rw [hW];exact blk_drew (rs_end (q := ⟨4,self,home,p.f1,p.f2,hops,p.f6,0,p.f8,a.f1,a.f2,⟨#[]⟩⟩) I6.out XR.out).2.1
  have b3 : Below w.heap.size w W := by rw [hW];exact below_then (rs_end (q := ⟨4,self,home,p.f1,p.f2,hops,p.f6,0,p.f8,a.f1,a.f2,⟨#[]⟩⟩) I6.out XR.out).2.2.1 (rs_end (q := ⟨4,self,home,p.f1,p.f2,hops,p.f6,0,p.f8,a.f1,a.f2,⟨#[]⟩⟩) I6.out XR.out).2.2.1.size (below_drew (Below.refl _ _))
  rw [← hW]
  clear hW
  have h0 : W.cell? ⟨br,0,none⟩ = some (.int .i64 life) := (blk_cell b1 0).trans rfl
  have h1 : W.cell? ⟨br,1,none⟩ = some (.slice A M.length c) := (blk_cell b1 1).trans rfl
  have g0 : W.cell? ⟨bq,0,none⟩ = some (.int .i64 4) := (blk_cell b2 0).trans rfl
  have g1 : W.cell? ⟨bq,1,none⟩ = some (.int .i64 self) := (blk_cell b2 1).trans rfl
  have g2 : W.cell? ⟨bq,2,none⟩ = some (.int .i64 home) := (blk_cell b2 2).trans rfl
  have g3 : W.cell? ⟨bq,3,none⟩ = some (.int .i64 p.f1) := (blk_cell b2 3).trans rfl
  have g4 : W.cell? ⟨bq,4,none⟩ = some (.int .i64 p.f2) := (blk_cell b2 4).trans rfl
  have g5 : W.cell? ⟨bq,5,none⟩ = some (.int .i64 hops) := (blk_cell b2 5).trans rfl
  have g6 : W.cell? ⟨bq,6,none⟩ = some (.int .u64 p.f6) := (blk_cell b2 6).trans rfl
  have g7 : W.cell? ⟨bq,7,none⟩ = some (.int .i64 0) := (blk_cell b2 7).trans rfl
  have g8 : W.cell? ⟨bq,8,none⟩ = some (.string p.f8) := (blk_cell b2 8).trans rfl
  have g9 : W.cell? ⟨bq,9,none⟩ = some (.int .i64 a.f1) := (blk_cell b2 9).trans rfl
  have g10 : W.cell? ⟨bq,10,none⟩ = some (.int .i64 a.f2) := (blk_cell b2 10).trans rfl
  have g11 : W.cell? ⟨bq,11,none⟩ = some (.string ⟨#[]⟩) := (blk_cell b2 11).trans rfl
  exact bodyPost_ret (v := .tuple #[.agg #[.int .i64 life,.slice A M.length c],pkV ⟨4,self,home,p.f1,p.f2,hops,p.f6,0,p.f8,a.f1,a.f2,⟨#[]⟩⟩,.bool true,.int .i64 0]) (by simp [results,Try.results23,go_sem,pkV,h0,h1,g0,g1,g2,g3,g4,g5,g6,g7,g8,g9,g10,g11]) rfl (rserve_ans b3 HR.out HC.out ES.out TS.out PS.out LS.out)
theorem rserve_any (w : World) (life : Int) (A : Option Addr) (c : Nat) (M : List S57) (hr : Kd.C k57 w A M.length M) (hc : M.length ≤ c) (self home hops : Int) (p : S30) (hl : M.length ≤ 4096) (hby : ByName M) (hnd : (M.map (·.f0)).Nodup) :
    Calls Try.prog 23 #[.agg #[.int .i64 life,.slice A M.length c],.int .i64 self,.int .i64 home,.int .i64 hops,.agg #[.int .i64 p.f0,.int .i64 p.f1,.int .i64 p.f2,.int .i64 p.f3,.int .i64 p.f4,.int .i64 p.f5,.int .u64 p.f6,.int .i64 p.f7,.string p.f8,.int .i64 p.f9,.int .i64 p.f10,.string p.f11]] w fun e w' => RServeOut w life A M self home hops p e w' := by
  by_cases hn : askedV self home hops = 0
  · cases hs : servable self p
    · exact rserve_not w life A c M hr hc self home hops p hn hs
    · by_cases hk : p.f0 = 2
      · exact rserve_put w life A c M hr hc self home hops p hl hby hnd hn hs hk
      · have hk3 : p.f0 = 3 := by
          unfold servable at hs
          cases h3 : (p.f0 == 3)
          · have h2 : (p.f0 == 2) = false := by simp [hk]
            rw [h2,h3] at hs
            simp at hs
          · simpa using h3
        cases hg : adGet p.f8 M with
        | none => exact rserve_none w life A c M hr hc self home hops p hl hn hs hk3 hg
        | some a => exact rserve_some w life A c M hr hc self home hops p hl hn hs hk3 a hg
  · exact rserve_asked w life A c M hr hc self home hops p _ rfl hn
end Go.Proofs.Ytlpmblcdafdfdaa.PA
