/- DirectoryAnswers walked. No condition. -/
import Derived.Test.YtlpmblcdafdfdaaAnGv
import Derived.Test.YtlpmblcdafdfdaaAnKe
namespace Go.Proofs.Ytlpmblcdafdfdaa.PA
open Go.RowKit Go.Proofs.YtlpmblcdafdfdaaW.PrintWords Go.Proofs.YtlpmblcdafdfdaaW.PrintLast Go.Proofs.YtlpmblcdafdfdaaW.PrintMore
set_option linter.unusedVariables false
set_option linter.unusedSimpArgs false
open Classical
theorem new_any (life : Int) (w : World) : Calls Try.prog 16 #[.int .i64 life] w fun e w' => ∃ p n,e = .returned (.tuple #[.pointer p,.int .i64 n]) ∧ Below w.heap.size w w' ∧ (n = 0 ∨ (n = 1 ∧ ¬ (1 ≤ life ∧ life ≤ 1048576))) := by
  by_cases h : 1 ≤ life ∧ life ≤ 1048576
  · exact (new_yes life w h.1 h.2).mono fun e w' ⟨g,b,he,_,_,_,hb⟩ => ⟨_,0,he,hb,.inl rfl⟩
  · exact (new_no life w (by omega)).mono fun e w' ⟨he,hw⟩ => ⟨_,1,he,by rw [← hw];exact Below.refl _ _,.inr ⟨rfl,h⟩⟩
theorem blk_ne_map {w : World} {g b x : Nat} {life : Int} {L : List S57} {o : Array Value} {t : TypeId} (h : DirAt w g b life L) (hx : w.heap[x]? = some (.cells o t (0,0))) : x ≠ b := by
  rintro rfl
  obtain ⟨es,clock,h1,_⟩ := h.2
  rw [h1] at hx
  cases hx
set_option maxHeartbeats 4000000 in
set_option maxRecDepth 100000 in
theorem answers_no (s0 s1 s2 s3 t0 t1 t2 t3 : Int) (name : ByteArray) (A : Option Addr) (c : Nat) (marks : List Int) (life ticks : Int) (w : World) (hr : Kd.C (Kd.int .i64) w A marks.length marks) (hc : marks.length ≤ c) (n1 n2 : Int) (h1 : toE s0 s1 name marks s2 = n1) (h2 : toE t0 t1 name marks t2 = n2) (h : ¬ (n1 = 0 ∧ n2 = 0 ∧ 1 ≤ life ∧ life ≤ 1048576)) :
    Calls Try.prog 7 #[.agg #[.int .i64 s0,.int .i64 s1,.int .i64 s2,.int .u64 s3,.int .i64 t0,.int .i64 t1,.int .i64 t2,.int .u64 t3],.string name,.agg #[.slice A marks.length c,.int .i64 life,.int .i64 ticks]] w fun e w' => e = .returned (.bool true) ∧ Below w.heap.size w w' := by
  have hu30 := Try.underlying30
  have hu24 := Try.underlying24
  have hu72 := Try.underlying72
  have hu74 := Try.underlying74
  have HR := Aside0.mk hr
  have HC := Aside0.mk hc
  clear hr hc
  obtain ⟨w0,hw0⟩ : ∃ w0,w0 = (((w.alloc (Obj.cells #[.int .i64 s0,.int .i64 s1,.int .i64 s2,.int .u64 s3,.int .i64 t0,.int .i64 t1,.int .i64 t2,.int .u64 t3] 72)).alloc (Obj.cells #[.slice A marks.length c,.int .i64 life,.int .i64 ticks] 74)).alloc (Obj.cells #[.int .i64 s0,.int .i64 s1,.int .i64 s2,.int .u64 s3] 24)).alloc (Obj.cells #[.int .i64 t0,.int .i64 t1,.int .i64 t2,.int .u64 t3] 24) := ⟨_,rfl⟩
  obtain ⟨b5,hb5⟩ : ∃ b,b = w.heap.size + 1 := ⟨_,rfl⟩
  obtain ⟨b7,hb7⟩ : ∃ b,b = w.heap.size + 1 + 1 := ⟨_,rfl⟩
  obtain ⟨b8,hb8⟩ : ∃ b,b = w.heap.size + 1 + 1 + 1 := ⟨_,rfl⟩
  have W0 := Aside0.mk (And.intro hw0 (And.intro hb5 (And.intro hb7 hb8)))
  have H0 : Aside0 (Below w.heap.size w w0) := ⟨by rw [hw0];exact (below_alloc (below_alloc (below_alloc (below_alloc (Below.refl _ w) (.cells #[.int .i64 s0,.int .i64 s1,.int .i64 s2,.int .u64 s3,.int .i64 t0,.int .i64 t1,.int .i64 t2,.int .u64 t3] 72)) (.cells #[.slice A marks.length c,.int .i64 life,.int .i64 ticks] 74)) (.cells #[.int .i64 s0,.int .i64 s1,.int .i64 s2,.int .u64 s3] 24)) (.cells #[.int .i64 t0,.int .i64 t1,.int .i64 t2,.int .u64 t3] 24))⟩
  have K50 : Aside0 (w0.heap[b5]? = some (.cells #[.slice A marks.length c,.int .i64 life,.int .i64 ticks] 74 (0,0))) := ⟨by rw [hw0,hb5];exact blk_alloc (blk_alloc (by have := blk_new (w.alloc (Obj.cells #[.int .i64 s0,.int .i64 s1,.int .i64 s2,.int .u64 s3,.int .i64 t0,.int .i64 t1,.int .i64 t2,.int .u64 t3] 72)) (Obj.cells #[.slice A marks.length c,.int .i64 life,.int .i64 ticks] 74);rwa [World.size_alloc] at this) _) _⟩
  have K70 : Aside0 (w0.heap[b7]? = some (.cells #[.int .i64 s0,.int .i64 s1,.int .i64 s2,.int .u64 s3] 24 (0,0))) := ⟨by rw [hw0,hb7];exact blk_alloc (by have := blk_new ((w.alloc (Obj.cells #[.int .i64 s0,.int .i64 s1,.int .i64 s2,.int .u64 s3,.int .i64 t0,.int .i64 t1,.int .i64 t2,.int .u64 t3] 72)).alloc (Obj.cells #[.slice A marks.length c,.int .i64 life,.int .i64 ticks] 74)) (Obj.cells #[.int .i64 s0,.int .i64 s1,.int .i64 s2,.int .u64 s3] 24);rwa [World.size_alloc,World.size_alloc] at this) _⟩
  have K80 : Aside0 (w0.heap[b8]? = some (.cells #[.int .i64 t0,.int .i64 t1,.int .i64 t2,.int .u64 t3] 24 (0,0))) := ⟨by rw [hw0,hb8];have := blk_new (((w.alloc (Obj.cells #[.int .i64 s0,.int .i64 s1,.int .i64 s2,.int .u64 s3,.int .i64 t0,.int .i64 t1,.int .i64 t2,.int .u64 t3] 72)).alloc (Obj.cells #[.slice A marks.length c,.int .i64 life,.int .i64 ticks] 74)).alloc (Obj.cells #[.int .i64 s0,.int .i64 s1,.int .i64 s2,.int .u64 s3] 24)) (Obj.cells #[.int .i64 t0,.int .i64 t1,.int .i64 t2,.int .u64 t3] 24);rwa [World.size_alloc,World.size_alloc,World.size_alloc] at this⟩
  clear hw0 hb5 hb7 hb8
  obtain ⟨p,hp⟩ : ∃ p,toP 2 s0 s1 name marks s2 s3 s0 s1 = p := ⟨_,rfl⟩
  obtain ⟨q,hq⟩ : ∃ q,toP 3 t0 t1 name marks t2 t3 0 0 = q := ⟨_,rfl⟩
  have N1 := Aside0.mk h1
  have N2 := Aside0.mk h2
  have HP := Aside0.mk hp
  have HQ := Aside0.mk hq
  clear h1 h2 hp hq
  by_cases e1 : n1 = 0
  · by_cases e2 : n2 = 0
    · have hlf : ¬ (1 ≤ life ∧ life ≤ 1048576) := fun hl => h ⟨e1,e2,hl⟩
      have LF : Aside0 (life < 1 ∨ 1048576 < life) := ⟨by omega⟩
      subst e1
      subst e2
      clear h hlf
      go_enter Try.func7,Try.ntmps7
      go_upto_region 3 with fail
      rw [← W0.out.2.2.2,← W0.out.2.2.1,← W0.out.2.1,← W0.out.1]
      have k0_w0 : w0.cell? ⟨b5,0,none⟩ = some (.slice A marks.length c) := (blk_cell K50.out 0).trans rfl
      have k1_w0 : w0.cell? ⟨b5,1,none⟩ = some (.int .i64 life) := (blk_cell K50.out 1).trans rfl
      have k2_w0 : w0.cell? ⟨b5,2,none⟩ = some (.int .i64 ticks) := (blk_cell K50.out 2).trans rfl
      have ltk_w0 := blk_lt K50.out
      have a0_w0 : w0.cell? ⟨b7,0,none⟩ = some (.int .i64 s0) := (blk_cell K70.out 0).trans rfl
      have a1_w0 : w0.cell? ⟨b7,1,none⟩ = some (.int .i64 s1) := (blk_cell K70.out 1).trans rfl
      have a2_w0 : w0.cell? ⟨b7,2,none⟩ = some (.int .i64 s2) := (blk_cell K70.out 2).trans rfl
      have a3_w0 : w0.cell? ⟨b7,3,none⟩ = some (.int .u64 s3) := (blk_cell K70.out 3).trans rfl
      have lta_w0 := blk_lt K70.out
      go_wp2_with (first | (go_at_call 10;refine (announce_any s0 s1 name A c marks s2 s3 _ (Kd.C_below HR.out H0.out) HC.out).mono ?_;rintro e w1 ⟨rfl,hb⟩;rw [N1.out,HP.out];simp only [pkV];have H1 := Aside0.mk (below_then H0.out H0.out.size hb);have K51 := Aside0.mk (blk_below K50.out hb);have K71 := Aside0.mk (blk_below K70.out hb);have K81 := Aside0.mk (blk_below K80.out hb);clear hb;have b0_w1 : w1.cell? ⟨b8,0,none⟩ = some (.int .i64 t0) := (blk_cell K81.out 0).trans rfl;have b1_w1 : w1.cell? ⟨b8,1,none⟩ = some (.int .i64 t1) := (blk_cell K81.out 1).trans rfl;have b2_w1 : w1.cell? ⟨b8,2,none⟩ = some (.int .i64 t2) := (blk_cell K81.out 2).trans rfl;have b3_w1 : w1.cell? ⟨b8,3,none⟩ = some (.int .u64 t3) := (blk_cell K81.out 3).trans rfl;have ltb_w1 := blk_lt K81.out) | (go_at_call 12;refine (ask_any t0 t1 name A c marks t2 t3 _ (Kd.C_below HR.out (below_alloc H1.out _)) HC.out).mono ?_;rintro e w2 ⟨rfl,hb⟩;rw [N2.out,HQ.out];simp only [pkV];have H2 := Aside0.mk (below_then (below_alloc H1.out (.cells #[.int .i64 p.f0,.int .i64 p.f1,.int .i64 p.f2,.int .i64 p.f3,.int .i64 p.f4,.int .i64 p.f5,.int .u64 p.f6,.int .i64 p.f7,.string p.f8,.int .i64 p.f9,.int .i64 p.f10,.string p.f11] 30)) (below_alloc H1.out (.cells #[.int .i64 p.f0,.int .i64 p.f1,.int .i64 p.f2,.int .i64 p.f3,.int .i64 p.f4,.int .i64 p.f5,.int .u64 p.f6,.int .i64 p.f7,.string p.f8,.int .i64 p.f9,.int .i64 p.f10,.string p.f11] 30)).size hb);have K52 := Aside0.mk (blk_below (blk_alloc K51.out _) hb);have K72 := Aside0.mk (blk_below (blk_alloc K71.out _) hb);have K82 := Aside0.mk (blk_below (blk_alloc K81.out _) hb);have KP2 := Aside0.mk (blk_below (blk_new w1 (.cells #[.int .i64 p.f0,.int .i64 p.f1,.int .i64 p.f2,.int .i64 p.f3,.int .i64 p.f4,.int .i64 p.f5,.int .u64 p.f6,.int .i64 p.f7,.string p.f8,.int .i64 p.f9,.int .i64 p.f10,.string p.f11] 30)) hb);clear hb;have k0_w2 : w2.cell? ⟨b5,0,none⟩ = some (.slice A marks.length c) := (blk_cell K52.out 0).trans rfl;have k1_w2 : w2.cell? ⟨b5,1,none⟩ = some (.int .i64 life) := (blk_cell K52.out 1).trans rfl;have k2_w2 : w2.cell? ⟨b5,2,none⟩ = some (.int .i64 ticks) := (blk_cell K52.out 2).trans rfl;have ltk_w2 := blk_lt K52.out) | (go_at_call 16;refine (new_no life _ LF.out).mono ?_;rintro e w3 ⟨rfl,rfl⟩) | (go_at_call 15;refine (beaconlaw20_awake.calls true _ rfl).mono ?_;rintro e w9 ⟨rfl,hb⟩;have H9 := Aside0.mk (below_then (below_alloc H2.out (.cells #[.int .i64 q.f0,.int .i64 q.f1,.int .i64 q.f2,.int .i64 q.f3,.int .i64 q.f4,.int .i64 q.f5,.int .u64 q.f6,.int .i64 q.f7,.string q.f8,.int .i64 q.f9,.int .i64 q.f10,.string q.f11] 30)) (below_alloc H2.out (.cells #[.int .i64 q.f0,.int .i64 q.f1,.int .i64 q.f2,.int .i64 q.f3,.int .i64 q.f4,.int .i64 q.f5,.int .u64 q.f6,.int .i64 q.f7,.string q.f8,.int .i64 q.f9,.int .i64 q.f10,.string q.f11] 30)).size hb);clear hb))
      go_ret
      exact ⟨rfl,H9.out⟩
    · have hb2 : (n2 != 0) = true := by simpa using e2
      subst e1
      clear h e2
      go_enter Try.func7,Try.ntmps7
      go_upto_region 3 with fail
      rw [← W0.out.2.2.2,← W0.out.2.2.1,← W0.out.2.1,← W0.out.1]
      have k0_w0 : w0.cell? ⟨b5,0,none⟩ = some (.slice A marks.length c) := (blk_cell K50.out 0).trans rfl
      have k1_w0 : w0.cell? ⟨b5,1,none⟩ = some (.int .i64 life) := (blk_cell K50.out 1).trans rfl
      have k2_w0 : w0.cell? ⟨b5,2,none⟩ = some (.int .i64 ticks) := (blk_cell K50.out 2).trans rfl
      have ltk_w0 := blk_lt K50.out
      have a0_w0 : w0.cell? ⟨b7,0,none⟩ = some (.int .i64 s0) := (blk_cell K70.out 0).trans rfl
      have a1_w0 : w0.cell? ⟨b7,1,none⟩ = some (.int .i64 s1) := (blk_cell K70.out 1).trans rfl
      have a2_w0 : w0.cell? ⟨b7,2,none⟩ = some (.int .i64 s2) := (blk_cell K70.out 2).trans rfl
      have a3_w0 : w0.cell? ⟨b7,3,none⟩ = some (.int .u64 s3) := (blk_cell K70.out 3).trans rfl
      have lta_w0 := blk_lt K70.out
      go_wp2_with (first | (go_at_call 10;refine (announce_any s0 s1 name A c marks s2 s3 _ (Kd.C_below HR.out H0.out) HC.out).mono ?_;rintro e w1 ⟨rfl,hb⟩;rw [N1.out,HP.out];simp only [pkV];have H1 := Aside0.mk (below_then H0.out H0.out.size hb);have K51 := Aside0.mk (blk_below K50.out hb);have K71 := Aside0.mk (blk_below K70.out hb);have K81 := Aside0.mk (blk_below K80.out hb);clear hb;have b0_w1 : w1.cell? ⟨b8,0,none⟩ = some (.int .i64 t0) := (blk_cell K81.out 0).trans rfl;have b1_w1 : w1.cell? ⟨b8,1,none⟩ = some (.int .i64 t1) := (blk_cell K81.out 1).trans rfl;have b2_w1 : w1.cell? ⟨b8,2,none⟩ = some (.int .i64 t2) := (blk_cell K81.out 2).trans rfl;have b3_w1 : w1.cell? ⟨b8,3,none⟩ = some (.int .u64 t3) := (blk_cell K81.out 3).trans rfl;have ltb_w1 := blk_lt K81.out) | (go_at_call 12;refine (ask_any t0 t1 name A c marks t2 t3 _ (Kd.C_below HR.out (below_alloc H1.out _)) HC.out).mono ?_;rintro e w2 ⟨rfl,hb⟩;rw [N2.out,HQ.out];simp only [pkV];have H2 := Aside0.mk (below_then (below_alloc H1.out (.cells #[.int .i64 p.f0,.int .i64 p.f1,.int .i64 p.f2,.int .i64 p.f3,.int .i64 p.f4,.int .i64 p.f5,.int .u64 p.f6,.int .i64 p.f7,.string p.f8,.int .i64 p.f9,.int .i64 p.f10,.string p.f11] 30)) (below_alloc H1.out (.cells #[.int .i64 p.f0,.int .i64 p.f1,.int .i64 p.f2,.int .i64 p.f3,.int .i64 p.f4,.int .i64 p.f5,.int .u64 p.f6,.int .i64 p.f7,.string p.f8,.int .i64 p.f9,.int .i64 p.f10,.string p.f11] 30)).size hb);have K52 := Aside0.mk (blk_below (blk_alloc K51.out _) hb);have K72 := Aside0.mk (blk_below (blk_alloc K71.out _) hb);have K82 := Aside0.mk (blk_below (blk_alloc K81.out _) hb);have KP2 := Aside0.mk (blk_below (blk_new w1 (.cells #[.int .i64 p.f0,.int .i64 p.f1,.int .i64 p.f2,.int .i64 p.f3,.int .i64 p.f4,.int .i64 p.f5,.int .u64 p.f6,.int .i64 p.f7,.string p.f8,.int .i64 p.f9,.int .i64 p.f10,.string p.f11] 30)) hb);clear hb;have k0_w2 : w2.cell? ⟨b5,0,none⟩ = some (.slice A marks.length c) := (blk_cell K52.out 0).trans rfl;have k1_w2 : w2.cell? ⟨b5,1,none⟩ = some (.int .i64 life) := (blk_cell K52.out 1).trans rfl;have k2_w2 : w2.cell? ⟨b5,2,none⟩ = some (.int .i64 ticks) := (blk_cell K52.out 2).trans rfl;have ltk_w2 := blk_lt K52.out) | (go_at_call 16;refine (new_any life _).mono ?_;rintro e w3 ⟨pp,n,rfl,hb,hn⟩;have H3 := Aside0.mk (below_then (below_alloc H2.out (.cells #[.int .i64 q.f0,.int .i64 q.f1,.int .i64 q.f2,.int .i64 q.f3,.int .i64 q.f4,.int .i64 q.f5,.int .u64 q.f6,.int .i64 q.f7,.string q.f8,.int .i64 q.f9,.int .i64 q.f10,.string q.f11] 30)) (below_alloc H2.out (.cells #[.int .i64 q.f0,.int .i64 q.f1,.int .i64 q.f2,.int .i64 q.f3,.int .i64 q.f4,.int .i64 q.f5,.int .u64 q.f6,.int .i64 q.f7,.string q.f8,.int .i64 q.f9,.int .i64 q.f10,.string q.f11] 30)).size hb);have NN := Aside0.mk hn;clear hb hn) | (go_at_call 15;refine (beaconlaw20_awake.calls true _ rfl).mono ?_;rintro e w9 ⟨rfl,hb⟩;have H9 := Aside0.mk (below_then H3.out H3.out.size hb);clear hb))
      go_ret
      exact ⟨rfl,H9.out⟩
  · have hb1 : (n1 != 0) = true := by simpa using e1
    clear h e1
    go_enter Try.func7,Try.ntmps7
    go_upto_region 3 with fail
    rw [← W0.out.2.2.2,← W0.out.2.2.1,← W0.out.2.1,← W0.out.1]
    have k0_w0 : w0.cell? ⟨b5,0,none⟩ = some (.slice A marks.length c) := (blk_cell K50.out 0).trans rfl
    have k1_w0 : w0.cell? ⟨b5,1,none⟩ = some (.int .i64 life) := (blk_cell K50.out 1).trans rfl
    have k2_w0 : w0.cell? ⟨b5,2,none⟩ = some (.int .i64 ticks) := (blk_cell K50.out 2).trans rfl
    have ltk_w0 := blk_lt K50.out
    have a0_w0 : w0.cell? ⟨b7,0,none⟩ = some (.int .i64 s0) := (blk_cell K70.out 0).trans rfl
    have a1_w0 : w0.cell? ⟨b7,1,none⟩ = some (.int .i64 s1) := (blk_cell K70.out 1).trans rfl
    have a2_w0 : w0.cell? ⟨b7,2,none⟩ = some (.int .i64 s2) := (blk_cell K70.out 2).trans rfl
    have a3_w0 : w0.cell? ⟨b7,3,none⟩ = some (.int .u64 s3) := (blk_cell K70.out 3).trans rfl
    have lta_w0 := blk_lt K70.out
    go_wp2_with (first | (go_at_call 10;refine (announce_any s0 s1 name A c marks s2 s3 _ (Kd.C_below HR.out H0.out) HC.out).mono ?_;rintro e w1 ⟨rfl,hb⟩;rw [N1.out,HP.out];simp only [pkV];have H1 := Aside0.mk (below_then H0.out H0.out.size hb);have K51 := Aside0.mk (blk_below K50.out hb);have K71 := Aside0.mk (blk_below K70.out hb);have K81 := Aside0.mk (blk_below K80.out hb);clear hb;have b0_w1 : w1.cell? ⟨b8,0,none⟩ = some (.int .i64 t0) := (blk_cell K81.out 0).trans rfl;have b1_w1 : w1.cell? ⟨b8,1,none⟩ = some (.int .i64 t1) := (blk_cell K81.out 1).trans rfl;have b2_w1 : w1.cell? ⟨b8,2,none⟩ = some (.int .i64 t2) := (blk_cell K81.out 2).trans rfl;have b3_w1 : w1.cell? ⟨b8,3,none⟩ = some (.int .u64 t3) := (blk_cell K81.out 3).trans rfl;have ltb_w1 := blk_lt K81.out) | (go_at_call 12;refine (ask_any t0 t1 name A c marks t2 t3 _ (Kd.C_below HR.out (below_alloc H1.out _)) HC.out).mono ?_;rintro e w2 ⟨rfl,hb⟩;rw [N2.out,HQ.out];simp only [pkV];have H2 := Aside0.mk (below_then (below_alloc H1.out (.cells #[.int .i64 p.f0,.int .i64 p.f1,.int .i64 p.f2,.int .i64 p.f3,.int .i64 p.f4,.int .i64 p.f5,.int .u64 p.f6,.int .i64 p.f7,.string p.f8,.int .i64 p.f9,.int .i64 p.f10,.string p.f11] 30)) (below_alloc H1.out (.cells #[.int .i64 p.f0,.int .i64 p.f1,.int .i64 p.f2,.int .i64 p.f3,.int .i64 p.f4,.int .i64 p.f5,.int .u64 p.f6,.int .i64 p.f7,.string p.f8,.int .i64 p.f9,.int .i64 p.f10,.string p.f11] 30)).size hb);have K52 := Aside0.mk (blk_below (blk_alloc K51.out _) hb);have K72 := Aside0.mk (blk_below (blk_alloc K71.out _) hb);have K82 := Aside0.mk (blk_below (blk_alloc K81.out _) hb);have KP2 := Aside0.mk (blk_below (blk_new w1 (.cells #[.int .i64 p.f0,.int .i64 p.f1,.int .i64 p.f2,.int .i64 p.f3,.int .i64 p.f4,.int .i64 p.f5,.int .u64 p.f6,.int .i64 p.f7,.string p.f8,.int .i64 p.f9,.int .i64 p.f10,.string p.f11] 30)) hb);clear hb;have k0_w2 : w2.cell? ⟨b5,0,none⟩ = some (.slice A marks.length c) := (blk_cell K52.out 0).trans rfl;have k1_w2 : w2.cell? ⟨b5,1,none⟩ = some (.int .i64 life) := (blk_cell K52.out 1).trans rfl;have k2_w2 : w2.cell? ⟨b5,2,none⟩ = some (.int .i64 ticks) := (blk_cell K52.out 2).trans rfl;have ltk_w2 := blk_lt K52.out) | (go_at_call 16;refine (new_any life _).mono ?_;rintro e w3 ⟨pp,n,rfl,hb,hn⟩;have H3 := Aside0.mk (below_then (below_alloc H2.out (.cells #[.int .i64 q.f0,.int .i64 q.f1,.int .i64 q.f2,.int .i64 q.f3,.int .i64 q.f4,.int .i64 q.f5,.int .u64 q.f6,.int .i64 q.f7,.string q.f8,.int .i64 q.f9,.int .i64 q.f10,.string q.f11] 30)) (below_alloc H2.out (.cells #[.int .i64 q.f0,.int .i64 q.f1,.int .i64 q.f2,.int .i64 q.f3,.int .i64 q.f4,.int .i64 q.f5,.int .u64 q.f6,.int .i64 q.f7,.string q.f8,.int .i64 q.f9,.int .i64 q.f10,.string q.f11] 30)).size hb);have NN := Aside0.mk hn;clear hb hn) | (go_at_call 15;refine (beaconlaw20_awake.calls true _ rfl).mono ?_;rintro e w9 ⟨rfl,hb⟩;have H9 := Aside0.mk (below_then H3.out H3.out.size hb);clear hb))
    go_ret
    exact ⟨rfl,H9.out⟩
def AnsAt (w wr : World) (g b : Nat) (life : Int) (name : ByteArray) (L : List S57) (b5 b7 b8 bq : Nat) (o5 o7 o8 oq : Array Value) (id at_ ago : Int) : Prop :=
  DirAt wr g b life L ∧ Known life name L true id at_ ago ∧ Below w.heap.size w wr ∧ wr.heap[b5]? = some (.cells o5 74 (0,0)) ∧ wr.heap[b7]? = some (.cells o7 24 (0,0)) ∧ wr.heap[b8]? = some (.cells o8 24 (0,0)) ∧ wr.heap[bq]? = some (.cells oq 30 (0,0))
section
variable {w wr w1 : World} {g b : Nat} {life : Int} {name : ByteArray} {L L' : List S57} {b5 b7 b8 bq : Nat} {o5 o7 o8 oq : Array Value} {id at_ ago ago' : Int}
theorem AnsAt.below (h : AnsAt w wr g b life name L b5 b7 b8 bq o5 o7 o8 oq id at_ ago) (hb : Below wr.heap.size wr w1) : AnsAt w w1 g b life name L b5 b7 b8 bq o5 o7 o8 oq id at_ ago :=
  ⟨h.1.below hb,h.2.1,below_then h.2.2.1 h.2.2.1.size hb,blk_below h.2.2.2.1 hb,blk_below h.2.2.2.2.1 hb,blk_below h.2.2.2.2.2.1 hb,blk_below h.2.2.2.2.2.2 hb⟩
theorem AnsAt.turn (h : AnsAt w wr g b life name L b5 b7 b8 bq o5 o7 o8 oq id at_ ago) (hd : DirAt w1 g b life L') (hk : Known life name L' true id at_ ago') (hg : wr.grownBy w1 (some b)) (hb : w.heap.size ≤ b) : AnsAt w w1 g b life name L' b5 b7 b8 bq o5 o7 o8 oq id at_ ago' :=
  ⟨hd,hk,pw_below_grown h.2.2.1 _ h.2.2.1.size hg (fun k e => by cases e;exact hb),blk_grown h.2.2.2.1 hg (fun e => blk_ne_map h.1 h.2.2.2.1 (Option.some.inj e)),blk_grown h.2.2.2.2.1 hg (fun e => blk_ne_map h.1 h.2.2.2.2.1 (Option.some.inj e)),blk_grown h.2.2.2.2.2.1 hg (fun e => blk_ne_map h.1 h.2.2.2.2.2.1 (Option.some.inj e)),blk_grown h.2.2.2.2.2.2 hg (fun e => blk_ne_map h.1 h.2.2.2.2.2.2 (Option.some.inj e))⟩
end
set_option maxHeartbeats 8000000 in
set_option maxRecDepth 100000 in
theorem answers_yes (s0 s1 s2 s3 t0 t1 t2 t3 : Int) (name : ByteArray) (A : Option Addr) (c : Nat) (marks : List Int) (life ticks : Int) (w : World) (hr : Kd.C (Kd.int .i64) w A marks.length marks) (hc : marks.length ≤ c) (h1 : toE s0 s1 name marks s2 = 0) (h2 : toE t0 t1 name marks t2 = 0) (hl1 : 1 ≤ life) (hl2 : life ≤ 1048576) (ht1 : 0 ≤ ticks) (ht2 : ticks ≤ 2000) :
    Calls Try.prog 7 #[.agg #[.int .i64 s0,.int .i64 s1,.int .i64 s2,.int .u64 s3,.int .i64 t0,.int .i64 t1,.int .i64 t2,.int .u64 t3],.string name,.agg #[.slice A marks.length c,.int .i64 life,.int .i64 ticks]] w fun e w' => e = .returned (.bool true) ∧ Below w.heap.size w w' := by
  have hu30 := Try.underlying30
  have hu24 := Try.underlying24
  have hu72 := Try.underlying72
  have hu74 := Try.underlying74
  have HR := Aside0.mk hr
  have HC := Aside0.mk hc
  clear hr hc
  obtain ⟨w0,hw0⟩ : ∃ w0,w0 = (((w.alloc (Obj.cells #[.int .i64 s0,.int .i64 s1,.int .i64 s2,.int .u64 s3,.int .i64 t0,.int .i64 t1,.int .i64 t2,.int .u64 t3] 72)).alloc (Obj.cells #[.slice A marks.length c,.int .i64 life,.int .i64 ticks] 74)).alloc (Obj.cells #[.int .i64 s0,.int .i64 s1,.int .i64 s2,.int .u64 s3] 24)).alloc (Obj.cells #[.int .i64 t0,.int .i64 t1,.int .i64 t2,.int .u64 t3] 24) := ⟨_,rfl⟩
  obtain ⟨b5,hb5⟩ : ∃ b,b = w.heap.size + 1 := ⟨_,rfl⟩
  obtain ⟨b7,hb7⟩ : ∃ b,b = w.heap.size + 1 + 1 := ⟨_,rfl⟩
  obtain ⟨b8,hb8⟩ : ∃ b,b = w.heap.size + 1 + 1 + 1 := ⟨_,rfl⟩
  have W0 := Aside0.mk (And.intro hw0 (And.intro hb5 (And.intro hb7 hb8)))
  have H0 : Aside0 (Below w.heap.size w w0) := ⟨by rw [hw0];exact (below_alloc (below_alloc (below_alloc (below_alloc (Below.refl _ w) (.cells #[.int .i64 s0,.int .i64 s1,.int .i64 s2,.int .u64 s3,.int .i64 t0,.int .i64 t1,.int .i64 t2,.int .u64 t3] 72)) (.cells #[.slice A marks.length c,.int .i64 life,.int .i64 ticks] 74)) (.cells #[.int .i64 s0,.int .i64 s1,.int .i64 s2,.int .u64 s3] 24)) (.cells #[.int .i64 t0,.int .i64 t1,.int .i64 t2,.int .u64 t3] 24))⟩
  have K50 : Aside0 (w0.heap[b5]? = some (.cells #[.slice A marks.length c,.int .i64 life,.int .i64 ticks] 74 (0,0))) := ⟨by rw [hw0,hb5];exact blk_alloc (blk_alloc (by have := blk_new (w.alloc (Obj.cells #[.int .i64 s0,.int .i64 s1,.int .i64 s2,.int .u64 s3,.int .i64 t0,.int .i64 t1,.int .i64 t2,.int .u64 t3] 72)) (Obj.cells #[.slice A marks.length c,.int .i64 life,.int .i64 ticks] 74);rwa [World.size_alloc] at this) _) _⟩
  have K70 : Aside0 (w0.heap[b7]? = some (.cells #[.int .i64 s0,.int .i64 s1,.int .i64 s2,.int .u64 s3] 24 (0,0))) := ⟨by rw [hw0,hb7];exact blk_alloc (by have := blk_new ((w.alloc (Obj.cells #[.int .i64 s0,.int .i64 s1,.int .i64 s2,.int .u64 s3,.int .i64 t0,.int .i64 t1,.int .i64 t2,.int .u64 t3] 72)).alloc (Obj.cells #[.slice A marks.length c,.int .i64 life,.int .i64 ticks] 74)) (Obj.cells #[.int .i64 s0,.int .i64 s1,.int .i64 s2,.int .u64 s3] 24);rwa [World.size_alloc,World.size_alloc] at this) _⟩
  have K80 : Aside0 (w0.heap[b8]? = some (.cells #[.int .i64 t0,.int .i64 t1,.int .i64 t2,.int .u64 t3] 24 (0,0))) := ⟨by rw [hw0,hb8];have := blk_new (((w.alloc (Obj.cells #[.int .i64 s0,.int .i64 s1,.int .i64 s2,.int .u64 s3,.int .i64 t0,.int .i64 t1,.int .i64 t2,.int .u64 t3] 72)).alloc (Obj.cells #[.slice A marks.length c,.int .i64 life,.int .i64 ticks] 74)).alloc (Obj.cells #[.int .i64 s0,.int .i64 s1,.int .i64 s2,.int .u64 s3] 24)) (Obj.cells #[.int .i64 t0,.int .i64 t1,.int .i64 t2,.int .u64 t3] 24);rwa [World.size_alloc,World.size_alloc,World.size_alloc] at this⟩
  clear hw0 hb5 hb7 hb8
  obtain ⟨r1,r2,hv⟩ : ∃ r1 r2,drawV marks name = (r1,r2) := ⟨_,_,rfl⟩
  obtain ⟨ha1,hd2⟩ := toE_zero h1
  obtain ⟨ha2,_⟩ := toE_zero h2
  obtain ⟨hnm,hbad⟩ := draw_ok hd2
  rw [hv] at hd2 hbad
  simp only at hd2 hbad
  subst hd2
  obtain ⟨p,hp⟩ : ∃ p,p = (⟨2,s0,s1,r1,r1,s2,s3,0,name,s0,s1,⟨#[]⟩⟩ : S30) := ⟨_,rfl⟩
  obtain ⟨q,hq⟩ : ∃ q,q = (⟨3,t0,t1,r1,r1,t2,t3,0,name,0,0,⟨#[]⟩⟩ : S30) := ⟨_,rfl⟩
  have HP : Aside0 (toP 2 s0 s1 name marks s2 s3 s0 s1 = p) := ⟨by rw [hp];exact toP_ok h1 hv⟩
  have HQ : Aside0 (toP 3 t0 t1 name marks t2 t3 0 0 = q) := ⟨by rw [hq];exact toP_ok h2 hv⟩
  have N1 := Aside0.mk h1
  have N2 := Aside0.mk h2
  have p3 : p.f3 = r1 := by rw [hp]
  have q3 : q.f3 = r1 := by rw [hq]
  have KP : Aside0 (serveE [] p.f3 p.f3 9 p = 0 ∧ serveT p.f3 p.f3 9 p = false ∧ serveP [] p.f3 p.f3 9 p = z30 ∧ Known life name (serveL life [] p.f3 p.f3 9 p) true s0 s1 0) := ⟨by rw [p3];exact keeper_put (serial := s3) (hops := s2) hl1 hnm hbad ha1 p hp⟩
  have KA : Aside0 (∀ L,serveE L q.f3 q.f3 9 q = 0 ∧ serveT q.f3 q.f3 9 q = true ∧ serveP L q.f3 q.f3 9 q = answerP q.f3 q.f3 9 q (adGet name L) ∧ serveL life L q.f3 q.f3 9 q = L) := ⟨fun L => by rw [q3];exact keeper_ask (L := L) (life := life) (serial := t3) (hops := t2) hnm hbad ha2 q hq⟩
  have hpq : (p.f3 != q.f3) = false := by rw [p3,q3];simp
  have qs : Aside0 (q.f1 = t0 ∧ q.f2 = t1 ∧ q.f6 = t3 ∧ q.f8 = name) := ⟨by rw [hq];exact ⟨rfl,rfl,rfl,rfl⟩⟩
  clear h1 h2 hv hnm hbad ha1 ha2 hp hq p3 q3
  go_enter Try.func7,Try.ntmps7
  go_upto_region 3 with fail
  rw [← W0.out.2.2.2,← W0.out.2.2.1,← W0.out.2.1,← W0.out.1]
  have k0_w0 : w0.cell? ⟨b5,0,none⟩ = some (.slice A marks.length c) := (blk_cell K50.out 0).trans rfl
  have k1_w0 : w0.cell? ⟨b5,1,none⟩ = some (.int .i64 life) := (blk_cell K50.out 1).trans rfl
  have k2_w0 : w0.cell? ⟨b5,2,none⟩ = some (.int .i64 ticks) := (blk_cell K50.out 2).trans rfl
  have ltk_w0 := blk_lt K50.out
  have a0_w0 : w0.cell? ⟨b7,0,none⟩ = some (.int .i64 s0) := (blk_cell K70.out 0).trans rfl
  have a1_w0 : w0.cell? ⟨b7,1,none⟩ = some (.int .i64 s1) := (blk_cell K70.out 1).trans rfl
  have a2_w0 : w0.cell? ⟨b7,2,none⟩ = some (.int .i64 s2) := (blk_cell K70.out 2).trans rfl
  have a3_w0 : w0.cell? ⟨b7,3,none⟩ = some (.int .u64 s3) := (blk_cell K70.out 3).trans rfl
  have lta_w0 := blk_lt K70.out
  go_wp2_with (first | (go_at_call 10;refine (announce_any s0 s1 name A c marks s2 s3 _ (Kd.C_below HR.out H0.out) HC.out).mono ?_;rintro e w1 ⟨rfl,hb⟩;rw [N1.out,HP.out];simp only [pkV];have H1 := Aside0.mk (below_then H0.out H0.out.size hb);have K51 := Aside0.mk (blk_below K50.out hb);have K71 := Aside0.mk (blk_below K70.out hb);have K81 := Aside0.mk (blk_below K80.out hb);clear hb;have b0_w1 : w1.cell? ⟨b8,0,none⟩ = some (.int .i64 t0) := (blk_cell K81.out 0).trans rfl;have b1_w1 : w1.cell? ⟨b8,1,none⟩ = some (.int .i64 t1) := (blk_cell K81.out 1).trans rfl;have b2_w1 : w1.cell? ⟨b8,2,none⟩ = some (.int .i64 t2) := (blk_cell K81.out 2).trans rfl;have b3_w1 : w1.cell? ⟨b8,3,none⟩ = some (.int .u64 t3) := (blk_cell K81.out 3).trans rfl;have ltb_w1 := blk_lt K81.out) | (go_at_call 12;refine (ask_any t0 t1 name A c marks t2 t3 _ (Kd.C_below HR.out (below_alloc H1.out _)) HC.out).mono ?_;rintro e w2 ⟨rfl,hb⟩;rw [N2.out,HQ.out];simp only [pkV];have H2 := Aside0.mk (below_then (below_alloc H1.out (.cells #[.int .i64 p.f0,.int .i64 p.f1,.int .i64 p.f2,.int .i64 p.f3,.int .i64 p.f4,.int .i64 p.f5,.int .u64 p.f6,.int .i64 p.f7,.string p.f8,.int .i64 p.f9,.int .i64 p.f10,.string p.f11] 30)) (below_alloc H1.out (.cells #[.int .i64 p.f0,.int .i64 p.f1,.int .i64 p.f2,.int .i64 p.f3,.int .i64 p.f4,.int .i64 p.f5,.int .u64 p.f6,.int .i64 p.f7,.string p.f8,.int .i64 p.f9,.int .i64 p.f10,.string p.f11] 30)).size hb);have K52 := Aside0.mk (blk_below (blk_alloc K51.out _) hb);have K72 := Aside0.mk (blk_below (blk_alloc K71.out _) hb);have K82 := Aside0.mk (blk_below (blk_alloc K81.out _) hb);have KP2 := Aside0.mk (blk_below (blk_new w1 (.cells #[.int .i64 p.f0,.int .i64 p.f1,.int .i64 p.f2,.int .i64 p.f3,.int .i64 p.f4,.int .i64 p.f5,.int .u64 p.f6,.int .i64 p.f7,.string p.f8,.int .i64 p.f9,.int .i64 p.f10,.string p.f11] 30)) hb);clear hb;have k0_w2 : w2.cell? ⟨b5,0,none⟩ = some (.slice A marks.length c) := (blk_cell K52.out 0).trans rfl;have k1_w2 : w2.cell? ⟨b5,1,none⟩ = some (.int .i64 life) := (blk_cell K52.out 1).trans rfl;have k2_w2 : w2.cell? ⟨b5,2,none⟩ = some (.int .i64 ticks) := (blk_cell K52.out 2).trans rfl;have ltk_w2 := blk_lt K52.out) | (go_at_call 16;refine (new_yes life _ hl1 hl2).mono ?_;rintro e w3 ⟨g,b,rfl,hg,hb,hd,hbl⟩;have H3 := Aside0.mk (below_then (below_alloc H2.out (.cells #[.int .i64 q.f0,.int .i64 q.f1,.int .i64 q.f2,.int .i64 q.f3,.int .i64 q.f4,.int .i64 q.f5,.int .u64 q.f6,.int .i64 q.f7,.string q.f8,.int .i64 q.f9,.int .i64 q.f10,.string q.f11] 30)) (below_alloc H2.out (.cells #[.int .i64 q.f0,.int .i64 q.f1,.int .i64 q.f2,.int .i64 q.f3,.int .i64 q.f4,.int .i64 q.f5,.int .u64 q.f6,.int .i64 q.f7,.string q.f8,.int .i64 q.f9,.int .i64 q.f10,.string q.f11] 30)).size hbl);have D3 := Aside0.mk (show DirAt w3 g b life [] from hd);have GB : Aside0 (w.heap.size ≤ b) := ⟨by have := (below_alloc H2.out (.cells #[.int .i64 q.f0,.int .i64 q.f1,.int .i64 q.f2,.int .i64 q.f3,.int .i64 q.f4,.int .i64 q.f5,.int .u64 q.f6,.int .i64 q.f7,.string q.f8,.int .i64 q.f9,.int .i64 q.f10,.string q.f11] 30)).size;omega⟩;have K53 := Aside0.mk (blk_below (blk_alloc K52.out _) hbl);have K73 := Aside0.mk (blk_below (blk_alloc K72.out _) hbl);have K83 := Aside0.mk (blk_below (blk_alloc K82.out _) hbl);have KP3 := Aside0.mk (blk_below (blk_alloc KP2.out _) hbl);have KQ3 := Aside0.mk (blk_below (blk_new w2 (.cells #[.int .i64 q.f0,.int .i64 q.f1,.int .i64 q.f2,.int .i64 q.f3,.int .i64 q.f4,.int .i64 q.f5,.int .u64 q.f6,.int .i64 q.f7,.string q.f8,.int .i64 q.f9,.int .i64 q.f10,.string q.f11] 30)) hbl);clear hg hb hd hbl;have p0_w3 : w3.cell? ⟨w1.heap.size,0,none⟩ = some (.int .i64 p.f0) := (blk_cell KP3.out 0).trans rfl;have p1_w3 : w3.cell? ⟨w1.heap.size,1,none⟩ = some (.int .i64 p.f1) := (blk_cell KP3.out 1).trans rfl;have p2_w3 : w3.cell? ⟨w1.heap.size,2,none⟩ = some (.int .i64 p.f2) := (blk_cell KP3.out 2).trans rfl;have p3_w3 : w3.cell? ⟨w1.heap.size,3,none⟩ = some (.int .i64 p.f3) := (blk_cell KP3.out 3).trans rfl;have p4_w3 : w3.cell? ⟨w1.heap.size,4,none⟩ = some (.int .i64 p.f4) := (blk_cell KP3.out 4).trans rfl;have p5_w3 : w3.cell? ⟨w1.heap.size,5,none⟩ = some (.int .i64 p.f5) := (blk_cell KP3.out 5).trans rfl;have p6_w3 : w3.cell? ⟨w1.heap.size,6,none⟩ = some (.int .u64 p.f6) := (blk_cell KP3.out 6).trans rfl;have p7_w3 : w3.cell? ⟨w1.heap.size,7,none⟩ = some (.int .i64 p.f7) := (blk_cell KP3.out 7).trans rfl;have p8_w3 : w3.cell? ⟨w1.heap.size,8,none⟩ = some (.string p.f8) := (blk_cell KP3.out 8).trans rfl;have p9_w3 : w3.cell? ⟨w1.heap.size,9,none⟩ = some (.int .i64 p.f9) := (blk_cell KP3.out 9).trans rfl;have p10_w3 : w3.cell? ⟨w1.heap.size,10,none⟩ = some (.int .i64 p.f10) := (blk_cell KP3.out 10).trans rfl;have p11_w3 : w3.cell? ⟨w1.heap.size,11,none⟩ = some (.string p.f11) := (blk_cell KP3.out 11).trans rfl;have ltp_w3 := blk_lt KP3.out;have q3_w3 : w3.cell? ⟨w2.heap.size,3,none⟩ = some (.int .i64 q.f3) := (blk_cell KQ3.out 3).trans rfl;have ltq_w3 := blk_lt KQ3.out) | (go_at_call 22;refine (serve_live D3.out p.f3 p.f3 9 p).mono ?_;rintro e w4 ⟨rfl,hd,hg⟩;rw [KP.out.1,KP.out.2.1,KP.out.2.2.1];simp only [pkV,z30];have H4 := Aside0.mk (pw_below_grown H3.out _ H3.out.size hg (fun k e => by cases e;exact GB.out));have D4 := Aside0.mk hd;have K54 := Aside0.mk (blk_grown K53.out hg (fun e => blk_ne_map D3.out K53.out (Option.some.inj e)));have K74 := Aside0.mk (blk_grown K73.out hg (fun e => blk_ne_map D3.out K73.out (Option.some.inj e)));have K84 := Aside0.mk (blk_grown K83.out hg (fun e => blk_ne_map D3.out K83.out (Option.some.inj e)));have KQ4 := Aside0.mk (blk_grown KQ3.out hg (fun e => blk_ne_map D3.out KQ3.out (Option.some.inj e)));clear hd hg;have k0_w4 : w4.cell? ⟨b5,0,none⟩ = some (.slice A marks.length c) := (blk_cell K54.out 0).trans rfl;have k1_w4 : w4.cell? ⟨b5,1,none⟩ = some (.int .i64 life) := (blk_cell K54.out 1).trans rfl;have k2_w4 : w4.cell? ⟨b5,2,none⟩ = some (.int .i64 ticks) := (blk_cell K54.out 2).trans rfl;have ltk_w4 := blk_lt K54.out))
  obtain ⟨w5,hw5⟩ : ∃ w5,w5 = w4.alloc (Obj.cells #[.int .i64 0,.int .i64 0,.int .i64 0,.int .i64 0,.int .i64 0,.int .i64 0,.int .u64 0,.int .i64 0,.string ⟨#[]⟩,.int .i64 0,.int .i64 0,.string ⟨#[]⟩] 30) := ⟨_,rfl⟩
  obtain ⟨bq,hbq⟩ : ∃ bq,bq = w2.heap.size := ⟨_,rfl⟩
  have A5 : Aside0 (AnsAt w w5 g b life name (serveL life [] p.f3 p.f3 9 p) b5 b7 b8 bq #[.slice A marks.length c,.int .i64 life,.int .i64 ticks] #[.int .i64 s0,.int .i64 s1,.int .i64 s2,.int .u64 s3] #[.int .i64 t0,.int .i64 t1,.int .i64 t2,.int .u64 t3] #[.int .i64 q.f0,.int .i64 q.f1,.int .i64 q.f2,.int .i64 q.f3,.int .i64 q.f4,.int .i64 q.f5,.int .u64 q.f6,.int .i64 q.f7,.string q.f8,.int .i64 q.f9,.int .i64 q.f10,.string q.f11] s0 s1 0) := ⟨by rw [hw5,hbq];exact AnsAt.below ⟨D4.out,KP.out.2.2.2,H4.out,K54.out,K74.out,K84.out,KQ4.out⟩ (below_alloc (Below.refl _ _) _)⟩
  rw [← hw5,← hbq]
  clear hw5 hbq
  go_loopg [20] ticks.toNat (fun kq vi wr => ∃ (j : Nat) (L : List S57),vi = .int .i64 (j : Int) ∧ j + kq = ticks.toNat ∧ Aside0 (AnsAt w wr g b life name L b5 b7 b8 bq #[.slice A marks.length c,.int .i64 life,.int .i64 ticks] #[.int .i64 s0,.int .i64 s1,.int .i64 s2,.int .u64 s3] #[.int .i64 t0,.int .i64 t1,.int .i64 t2,.int .u64 t3] #[.int .i64 q.f0,.int .i64 q.f1,.int .i64 q.f2,.int .i64 q.f3,.int .i64 q.f4,.int .i64 q.f5,.int .u64 q.f6,.int .i64 q.f7,.string q.f8,.int .i64 q.f9,.int .i64 q.f10,.string q.f11] s0 s1 (j : Int)))
  case atStart => exact ⟨0,_,rfl,by simp,A5⟩
  case round =>
    as_aux_lemma =>
      obtain ⟨j,L,rfl,hj,HJ⟩ := hrel
      by_cases hjl : (j : Int) < ticks
      · have hjt : (j : Int) ≤ 2000 := by omega
        go_wp2_with (go_at_call 21;refine (tick_live HJ.out.1 (HJ.out.2.1.1.kept hl2)).mono ?_;rintro e w6 ⟨rfl,hd,hg⟩;have A6 := Aside0.mk (HJ.out.turn hd (HJ.out.2.1.tick hl2 HJ.out.1.nodup (ag := ((j + 1 : Nat) : Int)) (by rw [if_pos (by omega)];omega)) hg GB.out);clear hd hg)
        go_roundg (gk - 1)
        case measure => omega
        case rel => exact ⟨j + 1,_,by go_num,by omega,A6⟩
      · have hje : (j : Int) = ticks := by omega
        have f2 := blk_cell HJ.out.2.2.2.2.2.2 2
        obtain ⟨_,hk2,hk3,hk4⟩ := HJ.out.2.1
        have K8J := Aside0.mk HJ.out.2.2.2.2.2.1
        have KQJ := Aside0.mk HJ.out.2.2.2.2.2.2
        have K5J := Aside0.mk HJ.out.2.2.2.1
        have K7J := Aside0.mk HJ.out.2.2.2.2.1
        by_cases hs : ticks < life
        · have hg : adGet name L = some ⟨name,s0,s1,life - (j : Int)⟩ := by rw [hk2,if_pos ⟨rfl,by omega⟩]
          have SE : Aside0 (serveP L q.f3 q.f3 9 q = ⟨4,q.f3,q.f3,t0,t1,9,t3,0,name,s0,s1,⟨#[]⟩⟩) := ⟨by rw [(KA.out L).2.2.1,hg,← qs.out.1,← qs.out.2.1,← qs.out.2.2.1,← qs.out.2.2.2];rfl⟩
          clear hg hk2 f2
          have q0_wr : wr.cell? ⟨bq,0,none⟩ = some (.int .i64 q.f0) := (blk_cell KQJ.out 0).trans rfl
          have q1_wr : wr.cell? ⟨bq,1,none⟩ = some (.int .i64 q.f1) := (blk_cell KQJ.out 1).trans rfl
          have q2_wr : wr.cell? ⟨bq,2,none⟩ = some (.int .i64 q.f2) := (blk_cell KQJ.out 2).trans rfl
          have q3_wr : wr.cell? ⟨bq,3,none⟩ = some (.int .i64 q.f3) := (blk_cell KQJ.out 3).trans rfl
          have q4_wr : wr.cell? ⟨bq,4,none⟩ = some (.int .i64 q.f4) := (blk_cell KQJ.out 4).trans rfl
          have q5_wr : wr.cell? ⟨bq,5,none⟩ = some (.int .i64 q.f5) := (blk_cell KQJ.out 5).trans rfl
          have q6_wr : wr.cell? ⟨bq,6,none⟩ = some (.int .u64 q.f6) := (blk_cell KQJ.out 6).trans rfl
          have q7_wr : wr.cell? ⟨bq,7,none⟩ = some (.int .i64 q.f7) := (blk_cell KQJ.out 7).trans rfl
          have q8_wr : wr.cell? ⟨bq,8,none⟩ = some (.string q.f8) := (blk_cell KQJ.out 8).trans rfl
          have q9_wr : wr.cell? ⟨bq,9,none⟩ = some (.int .i64 q.f9) := (blk_cell KQJ.out 9).trans rfl
          have q10_wr : wr.cell? ⟨bq,10,none⟩ = some (.int .i64 q.f10) := (blk_cell KQJ.out 10).trans rfl
          have q11_wr : wr.cell? ⟨bq,11,none⟩ = some (.string q.f11) := (blk_cell KQJ.out 11).trans rfl
          have ltq_wr := blk_lt KQJ.out
          go_wp2_with (first | (go_at_call 22;refine (serve_live HJ.out.1 q.f3 q.f3 9 q).mono ?_;rintro e w6 ⟨rfl,hd,hg⟩;rw [(KA.out L).1,(KA.out L).2.1,SE.out];simp only [pkV];have A6 := Aside0.mk (HJ.out.turn hd (by rw [(KA.out L).2.2.2];exact HJ.out.2.1) hg GB.out);have K86 := Aside0.mk A6.out.2.2.2.2.2.1;have K56 := Aside0.mk A6.out.2.2.2.1;have K76 := Aside0.mk A6.out.2.2.2.2.1;clear hd hg;have h0_w6 : w6.cell? ⟨b8,0,none⟩ = some (.int .i64 t0) := (blk_cell K86.out 0).trans rfl;have h1_w6 : w6.cell? ⟨b8,1,none⟩ = some (.int .i64 t1) := (blk_cell K86.out 1).trans rfl;have h2_w6 : w6.cell? ⟨b8,2,none⟩ = some (.int .i64 t2) := (blk_cell K86.out 2).trans rfl;have h3_w6 : w6.cell? ⟨b8,3,none⟩ = some (.int .u64 t3) := (blk_cell K86.out 3).trans rfl;have lth_w6 := blk_lt K86.out;have m0_w6 : w6.cell? ⟨b5,0,none⟩ = some (.slice A marks.length c) := (blk_cell K56.out 0).trans rfl;have m1_w6 : w6.cell? ⟨b5,1,none⟩ = some (.int .i64 life) := (blk_cell K56.out 1).trans rfl;have m2_w6 : w6.cell? ⟨b5,2,none⟩ = some (.int .i64 ticks) := (blk_cell K56.out 2).trans rfl;have ltm_w6 := blk_lt K56.out;have n0_w6 : w6.cell? ⟨b7,0,none⟩ = some (.int .i64 s0) := (blk_cell K76.out 0).trans rfl;have n1_w6 : w6.cell? ⟨b7,1,none⟩ = some (.int .i64 s1) := (blk_cell K76.out 1).trans rfl;have n2_w6 : w6.cell? ⟨b7,2,none⟩ = some (.int .i64 s2) := (blk_cell K76.out 2).trans rfl;have n3_w6 : w6.cell? ⟨b7,3,none⟩ = some (.int .u64 s3) := (blk_cell K76.out 3).trans rfl;have ltn_w6 := blk_lt K76.out) | (go_at_call 15;refine (beaconlaw20_awake.calls true _ rfl).mono ?_;rintro e w9 ⟨rfl,hb⟩;have H9 := Aside0.mk (below_then (below_alloc A6.out.2.2.1 _) (Nat.le_trans A6.out.2.2.1.size (by simp)) hb);clear hb))
          go_ret
          exact ⟨rfl,H9.out⟩
        · have hg : adGet name L = none := by rw [hk2,if_neg (fun h => hs (by omega))]
          have SE : Aside0 (serveP L q.f3 q.f3 9 q = ⟨4,q.f3,q.f3,t0,t1,9,t3,1,name,0,0,⟨#[]⟩⟩) := ⟨by rw [(KA.out L).2.2.1,hg,← qs.out.1,← qs.out.2.1,← qs.out.2.2.1,← qs.out.2.2.2];rfl⟩
          clear hg hk2 f2
          have q0_wr : wr.cell? ⟨bq,0,none⟩ = some (.int .i64 q.f0) := (blk_cell KQJ.out 0).trans rfl
          have q1_wr : wr.cell? ⟨bq,1,none⟩ = some (.int .i64 q.f1) := (blk_cell KQJ.out 1).trans rfl
          have q2_wr : wr.cell? ⟨bq,2,none⟩ = some (.int .i64 q.f2) := (blk_cell KQJ.out 2).trans rfl
          have q3_wr : wr.cell? ⟨bq,3,none⟩ = some (.int .i64 q.f3) := (blk_cell KQJ.out 3).trans rfl
          have q4_wr : wr.cell? ⟨bq,4,none⟩ = some (.int .i64 q.f4) := (blk_cell KQJ.out 4).trans rfl
          have q5_wr : wr.cell? ⟨bq,5,none⟩ = some (.int .i64 q.f5) := (blk_cell KQJ.out 5).trans rfl
          have q6_wr : wr.cell? ⟨bq,6,none⟩ = some (.int .u64 q.f6) := (blk_cell KQJ.out 6).trans rfl
          have q7_wr : wr.cell? ⟨bq,7,none⟩ = some (.int .i64 q.f7) := (blk_cell KQJ.out 7).trans rfl
          have q8_wr : wr.cell? ⟨bq,8,none⟩ = some (.string q.f8) := (blk_cell KQJ.out 8).trans rfl
          have q9_wr : wr.cell? ⟨bq,9,none⟩ = some (.int .i64 q.f9) := (blk_cell KQJ.out 9).trans rfl
          have q10_wr : wr.cell? ⟨bq,10,none⟩ = some (.int .i64 q.f10) := (blk_cell KQJ.out 10).trans rfl
          have q11_wr : wr.cell? ⟨bq,11,none⟩ = some (.string q.f11) := (blk_cell KQJ.out 11).trans rfl
          have ltq_wr := blk_lt KQJ.out
          go_wp2_with (first | (go_at_call 22;refine (serve_live HJ.out.1 q.f3 q.f3 9 q).mono ?_;rintro e w6 ⟨rfl,hd,hg⟩;rw [(KA.out L).1,(KA.out L).2.1,SE.out];simp only [pkV];have A6 := Aside0.mk (HJ.out.turn hd (by rw [(KA.out L).2.2.2];exact HJ.out.2.1) hg GB.out);have K86 := Aside0.mk A6.out.2.2.2.2.2.1;have K56 := Aside0.mk A6.out.2.2.2.1;have K76 := Aside0.mk A6.out.2.2.2.2.1;clear hd hg;have h0_w6 : w6.cell? ⟨b8,0,none⟩ = some (.int .i64 t0) := (blk_cell K86.out 0).trans rfl;have h1_w6 : w6.cell? ⟨b8,1,none⟩ = some (.int .i64 t1) := (blk_cell K86.out 1).trans rfl;have h2_w6 : w6.cell? ⟨b8,2,none⟩ = some (.int .i64 t2) := (blk_cell K86.out 2).trans rfl;have h3_w6 : w6.cell? ⟨b8,3,none⟩ = some (.int .u64 t3) := (blk_cell K86.out 3).trans rfl;have lth_w6 := blk_lt K86.out;have m0_w6 : w6.cell? ⟨b5,0,none⟩ = some (.slice A marks.length c) := (blk_cell K56.out 0).trans rfl;have m1_w6 : w6.cell? ⟨b5,1,none⟩ = some (.int .i64 life) := (blk_cell K56.out 1).trans rfl;have m2_w6 : w6.cell? ⟨b5,2,none⟩ = some (.int .i64 ticks) := (blk_cell K56.out 2).trans rfl;have ltm_w6 := blk_lt K56.out;have n0_w6 : w6.cell? ⟨b7,0,none⟩ = some (.int .i64 s0) := (blk_cell K76.out 0).trans rfl;have n1_w6 : w6.cell? ⟨b7,1,none⟩ = some (.int .i64 s1) := (blk_cell K76.out 1).trans rfl;have n2_w6 : w6.cell? ⟨b7,2,none⟩ = some (.int .i64 s2) := (blk_cell K76.out 2).trans rfl;have n3_w6 : w6.cell? ⟨b7,3,none⟩ = some (.int .u64 s3) := (blk_cell K76.out 3).trans rfl;have ltn_w6 := blk_lt K76.out) | (go_at_call 15;refine (beaconlaw20_awake.calls true _ rfl).mono ?_;rintro e w9 ⟨rfl,hb⟩;have H9 := Aside0.mk (below_then (below_alloc A6.out.2.2.1 _) (Nat.le_trans A6.out.2.2.1.size (by simp)) hb);clear hb))
          go_ret
          exact ⟨rfl,H9.out⟩
set_option maxHeartbeats 8000000 in
set_option maxRecDepth 100000 in
theorem answers_below (s0 s1 s2 s3 t0 t1 t2 t3 : Int) (name : ByteArray) (A : Option Addr) (c : Nat) (marks : List Int) (life ticks : Int) (w : World) (hr : Kd.C (Kd.int .i64) w A marks.length marks) (hc : marks.length ≤ c) (h1 : toE s0 s1 name marks s2 = 0) (h2 : toE t0 t1 name marks t2 = 0) (hl1 : 1 ≤ life) (hl2 : life ≤ 1048576) (ht1 : ticks < 0) :
    Calls Try.prog 7 #[.agg #[.int .i64 s0,.int .i64 s1,.int .i64 s2,.int .u64 s3,.int .i64 t0,.int .i64 t1,.int .i64 t2,.int .u64 t3],.string name,.agg #[.slice A marks.length c,.int .i64 life,.int .i64 ticks]] w fun e w' => e = .returned (.bool true) ∧ Below w.heap.size w w' := by
  have hu30 := Try.underlying30
  have hu24 := Try.underlying24
  have hu72 := Try.underlying72
  have hu74 := Try.underlying74
  have HR := Aside0.mk hr
  have HC := Aside0.mk hc
  clear hr hc
  obtain ⟨w0,hw0⟩ : ∃ w0,w0 = (((w.alloc (Obj.cells #[.int .i64 s0,.int .i64 s1,.int .i64 s2,.int .u64 s3,.int .i64 t0,.int .i64 t1,.int .i64 t2,.int .u64 t3] 72)).alloc (Obj.cells #[.slice A marks.length c,.int .i64 life,.int .i64 ticks] 74)).alloc (Obj.cells #[.int .i64 s0,.int .i64 s1,.int .i64 s2,.int .u64 s3] 24)).alloc (Obj.cells #[.int .i64 t0,.int .i64 t1,.int .i64 t2,.int .u64 t3] 24) := ⟨_,rfl⟩
  obtain ⟨b5,hb5⟩ : ∃ b,b = w.heap.size + 1 := ⟨_,rfl⟩
  obtain ⟨b7,hb7⟩ : ∃ b,b = w.heap.size + 1 + 1 := ⟨_,rfl⟩
  obtain ⟨b8,hb8⟩ : ∃ b,b = w.heap.size + 1 + 1 + 1 := ⟨_,rfl⟩
  have W0 := Aside0.mk (And.intro hw0 (And.intro hb5 (And.intro hb7 hb8)))
  have H0 : Aside0 (Below w.heap.size w w0) := ⟨by rw [hw0];exact (below_alloc (below_alloc (below_alloc (below_alloc (Below.refl _ w) (.cells #[.int .i64 s0,.int .i64 s1,.int .i64 s2,.int .u64 s3,.int .i64 t0,.int .i64 t1,.int .i64 t2,.int .u64 t3] 72)) (.cells #[.slice A marks.length c,.int .i64 life,.int .i64 ticks] 74)) (.cells #[.int .i64 s0,.int .i64 s1,.int .i64 s2,.int .u64 s3] 24)) (.cells #[.int .i64 t0,.int .i64 t1,.int .i64 t2,.int .u64 t3] 24))⟩
  have K50 : Aside0 (w0.heap[b5]? = some (.cells #[.slice A marks.length c,.int .i64 life,.int .i64 ticks] 74 (0,0))) := ⟨by rw [hw0,hb5];exact blk_alloc (blk_alloc (by have := blk_new (w.alloc (Obj.cells #[.int .i64 s0,.int .i64 s1,.int .i64 s2,.int .u64 s3,.int .i64 t0,.int .i64 t1,.int .i64 t2,.int .u64 t3] 72)) (Obj.cells #[.slice A marks.length c,.int .i64 life,.int .i64 ticks] 74);rwa [World.size_alloc] at this) _) _⟩
  have K70 : Aside0 (w0.heap[b7]? = some (.cells #[.int .i64 s0,.int .i64 s1,.int .i64 s2,.int .u64 s3] 24 (0,0))) := ⟨by rw [hw0,hb7];exact blk_alloc (by have := blk_new ((w.alloc (Obj.cells #[.int .i64 s0,.int .i64 s1,.int .i64 s2,.int .u64 s3,.int .i64 t0,.int .i64 t1,.int .i64 t2,.int .u64 t3] 72)).alloc (Obj.cells #[.slice A marks.length c,.int .i64 life,.int .i64 ticks] 74)) (Obj.cells #[.int .i64 s0,.int .i64 s1,.int .i64 s2,.int .u64 s3] 24);rwa [World.size_alloc,World.size_alloc] at this) _⟩
  have K80 : Aside0 (w0.heap[b8]? = some (.cells #[.int .i64 t0,.int .i64 t1,.int .i64 t2,.int .u64 t3] 24 (0,0))) := ⟨by rw [hw0,hb8];have := blk_new (((w.alloc (Obj.cells #[.int .i64 s0,.int .i64 s1,.int .i64 s2,.int .u64 s3,.int .i64 t0,.int .i64 t1,.int .i64 t2,.int .u64 t3] 72)).alloc (Obj.cells #[.slice A marks.length c,.int .i64 life,.int .i64 ticks] 74)).alloc (Obj.cells #[.int .i64 s0,.int .i64 s1,.int .i64 s2,.int .u64 s3] 24)) (Obj.cells #[.int .i64 t0,.int .i64 t1,.int .i64 t2,.int .u64 t3] 24);rwa [World.size_alloc,World.size_alloc,World.size_alloc] at this⟩
  clear hw0 hb5 hb7 hb8
  obtain ⟨r1,r2,hv⟩ : ∃ r1 r2,drawV marks name = (r1,r2) := ⟨_,_,rfl⟩
  obtain ⟨ha1,hd2⟩ := toE_zero h1
  obtain ⟨ha2,_⟩ := toE_zero h2
  obtain ⟨hnm,hbad⟩ := draw_ok hd2
  rw [hv] at hd2 hbad
  simp only at hd2 hbad
  subst hd2
  obtain ⟨p,hp⟩ : ∃ p,p = (⟨2,s0,s1,r1,r1,s2,s3,0,name,s0,s1,⟨#[]⟩⟩ : S30) := ⟨_,rfl⟩
  obtain ⟨q,hq⟩ : ∃ q,q = (⟨3,t0,t1,r1,r1,t2,t3,0,name,0,0,⟨#[]⟩⟩ : S30) := ⟨_,rfl⟩
  have HP : Aside0 (toP 2 s0 s1 name marks s2 s3 s0 s1 = p) := ⟨by rw [hp];exact toP_ok h1 hv⟩
  have HQ : Aside0 (toP 3 t0 t1 name marks t2 t3 0 0 = q) := ⟨by rw [hq];exact toP_ok h2 hv⟩
  have N1 := Aside0.mk h1
  have N2 := Aside0.mk h2
  have p3 : p.f3 = r1 := by rw [hp]
  have q3 : q.f3 = r1 := by rw [hq]
  have KP : Aside0 (serveE [] p.f3 p.f3 9 p = 0 ∧ serveT p.f3 p.f3 9 p = false ∧ serveP [] p.f3 p.f3 9 p = z30 ∧ Known life name (serveL life [] p.f3 p.f3 9 p) true s0 s1 0) := ⟨by rw [p3];exact keeper_put (serial := s3) (hops := s2) hl1 hnm hbad ha1 p hp⟩
  have KA : Aside0 (∀ L,serveE L q.f3 q.f3 9 q = 0 ∧ serveT q.f3 q.f3 9 q = true ∧ serveP L q.f3 q.f3 9 q = answerP q.f3 q.f3 9 q (adGet name L) ∧ serveL life L q.f3 q.f3 9 q = L) := ⟨fun L => by rw [q3];exact keeper_ask (L := L) (life := life) (serial := t3) (hops := t2) hnm hbad ha2 q hq⟩
  have hpq : (p.f3 != q.f3) = false := by rw [p3,q3];simp
  have qs : Aside0 (q.f1 = t0 ∧ q.f2 = t1 ∧ q.f6 = t3 ∧ q.f8 = name) := ⟨by rw [hq];exact ⟨rfl,rfl,rfl,rfl⟩⟩
  clear h1 h2 hv hnm hbad ha1 ha2 hp hq p3 q3
  go_enter Try.func7,Try.ntmps7
  go_upto_region 3 with fail
  rw [← W0.out.2.2.2,← W0.out.2.2.1,← W0.out.2.1,← W0.out.1]
  have k0_w0 : w0.cell? ⟨b5,0,none⟩ = some (.slice A marks.length c) := (blk_cell K50.out 0).trans rfl
  have k1_w0 : w0.cell? ⟨b5,1,none⟩ = some (.int .i64 life) := (blk_cell K50.out 1).trans rfl
  have k2_w0 : w0.cell? ⟨b5,2,none⟩ = some (.int .i64 ticks) := (blk_cell K50.out 2).trans rfl
  have ltk_w0 := blk_lt K50.out
  have a0_w0 : w0.cell? ⟨b7,0,none⟩ = some (.int .i64 s0) := (blk_cell K70.out 0).trans rfl
  have a1_w0 : w0.cell? ⟨b7,1,none⟩ = some (.int .i64 s1) := (blk_cell K70.out 1).trans rfl
  have a2_w0 : w0.cell? ⟨b7,2,none⟩ = some (.int .i64 s2) := (blk_cell K70.out 2).trans rfl
  have a3_w0 : w0.cell? ⟨b7,3,none⟩ = some (.int .u64 s3) := (blk_cell K70.out 3).trans rfl
  have lta_w0 := blk_lt K70.out
  go_wp2_with (first | (go_at_call 10;refine (announce_any s0 s1 name A c marks s2 s3 _ (Kd.C_below HR.out H0.out) HC.out).mono ?_;rintro e w1 ⟨rfl,hb⟩;rw [N1.out,HP.out];simp only [pkV];have H1 := Aside0.mk (below_then H0.out H0.out.size hb);have K51 := Aside0.mk (blk_below K50.out hb);have K71 := Aside0.mk (blk_below K70.out hb);have K81 := Aside0.mk (blk_below K80.out hb);clear hb;have b0_w1 : w1.cell? ⟨b8,0,none⟩ = some (.int .i64 t0) := (blk_cell K81.out 0).trans rfl;have b1_w1 : w1.cell? ⟨b8,1,none⟩ = some (.int .i64 t1) := (blk_cell K81.out 1).trans rfl;have b2_w1 : w1.cell? ⟨b8,2,none⟩ = some (.int .i64 t2) := (blk_cell K81.out 2).trans rfl;have b3_w1 : w1.cell? ⟨b8,3,none⟩ = some (.int .u64 t3) := (blk_cell K81.out 3).trans rfl;have ltb_w1 := blk_lt K81.out) | (go_at_call 12;refine (ask_any t0 t1 name A c marks t2 t3 _ (Kd.C_below HR.out (below_alloc H1.out _)) HC.out).mono ?_;rintro e w2 ⟨rfl,hb⟩;rw [N2.out,HQ.out];simp only [pkV];have H2 := Aside0.mk (below_then (below_alloc H1.out (.cells #[.int .i64 p.f0,.int .i64 p.f1,.int .i64 p.f2,.int .i64 p.f3,.int .i64 p.f4,.int .i64 p.f5,.int .u64 p.f6,.int .i64 p.f7,.string p.f8,.int .i64 p.f9,.int .i64 p.f10,.string p.f11] 30)) (below_alloc H1.out (.cells #[.int .i64 p.f0,.int .i64 p.f1,.int .i64 p.f2,.int .i64 p.f3,.int .i64 p.f4,.int .i64 p.f5,.int .u64 p.f6,.int .i64 p.f7,.string p.f8,.int .i64 p.f9,.int .i64 p.f10,.string p.f11] 30)).size hb);have K52 := Aside0.mk (blk_below (blk_alloc K51.out _) hb);have K72 := Aside0.mk (blk_below (blk_alloc K71.out _) hb);have K82 := Aside0.mk (blk_below (blk_alloc K81.out _) hb);have KP2 := Aside0.mk (blk_below (blk_new w1 (.cells #[.int .i64 p.f0,.int .i64 p.f1,.int .i64 p.f2,.int .i64 p.f3,.int .i64 p.f4,.int .i64 p.f5,.int .u64 p.f6,.int .i64 p.f7,.string p.f8,.int .i64 p.f9,.int .i64 p.f10,.string p.f11] 30)) hb);clear hb;have k0_w2 : w2.cell? ⟨b5,0,none⟩ = some (.slice A marks.length c) := (blk_cell K52.out 0).trans rfl;have k1_w2 : w2.cell? ⟨b5,1,none⟩ = some (.int .i64 life) := (blk_cell K52.out 1).trans rfl;have k2_w2 : w2.cell? ⟨b5,2,none⟩ = some (.int .i64 ticks) := (blk_cell K52.out 2).trans rfl;have ltk_w2 := blk_lt K52.out) | (go_at_call 16;refine (new_yes life _ hl1 hl2).mono ?_;rintro e w3 ⟨g,b,rfl,hg,hb,hd,hbl⟩;have H3 := Aside0.mk (below_then (below_alloc H2.out (.cells #[.int .i64 q.f0,.int .i64 q.f1,.int .i64 q.f2,.int .i64 q.f3,.int .i64 q.f4,.int .i64 q.f5,.int .u64 q.f6,.int .i64 q.f7,.string q.f8,.int .i64 q.f9,.int .i64 q.f10,.string q.f11] 30)) (below_alloc H2.out (.cells #[.int .i64 q.f0,.int .i64 q.f1,.int .i64 q.f2,.int .i64 q.f3,.int .i64 q.f4,.int .i64 q.f5,.int .u64 q.f6,.int .i64 q.f7,.string q.f8,.int .i64 q.f9,.int .i64 q.f10,.string q.f11] 30)).size hbl);have D3 := Aside0.mk (show DirAt w3 g b life [] from hd);have GB : Aside0 (w.heap.size ≤ b) := ⟨by have := (below_alloc H2.out (.cells #[.int .i64 q.f0,.int .i64 q.f1,.int .i64 q.f2,.int .i64 q.f3,.int .i64 q.f4,.int .i64 q.f5,.int .u64 q.f6,.int .i64 q.f7,.string q.f8,.int .i64 q.f9,.int .i64 q.f10,.string q.f11] 30)).size;omega⟩;have K53 := Aside0.mk (blk_below (blk_alloc K52.out _) hbl);have K73 := Aside0.mk (blk_below (blk_alloc K72.out _) hbl);have K83 := Aside0.mk (blk_below (blk_alloc K82.out _) hbl);have KP3 := Aside0.mk (blk_below (blk_alloc KP2.out _) hbl);have KQ3 := Aside0.mk (blk_below (blk_new w2 (.cells #[.int .i64 q.f0,.int .i64 q.f1,.int .i64 q.f2,.int .i64 q.f3,.int .i64 q.f4,.int .i64 q.f5,.int .u64 q.f6,.int .i64 q.f7,.string q.f8,.int .i64 q.f9,.int .i64 q.f10,.string q.f11] 30)) hbl);clear hg hb hd hbl;have p0_w3 : w3.cell? ⟨w1.heap.size,0,none⟩ = some (.int .i64 p.f0) := (blk_cell KP3.out 0).trans rfl;have p1_w3 : w3.cell? ⟨w1.heap.size,1,none⟩ = some (.int .i64 p.f1) := (blk_cell KP3.out 1).trans rfl;have p2_w3 : w3.cell? ⟨w1.heap.size,2,none⟩ = some (.int .i64 p.f2) := (blk_cell KP3.out 2).trans rfl;have p3_w3 : w3.cell? ⟨w1.heap.size,3,none⟩ = some (.int .i64 p.f3) := (blk_cell KP3.out 3).trans rfl;have p4_w3 : w3.cell? ⟨w1.heap.size,4,none⟩ = some (.int .i64 p.f4) := (blk_cell KP3.out 4).trans rfl;have p5_w3 : w3.cell? ⟨w1.heap.size,5,none⟩ = some (.int .i64 p.f5) := (blk_cell KP3.out 5).trans rfl;have p6_w3 : w3.cell? ⟨w1.heap.size,6,none⟩ = some (.int .u64 p.f6) := (blk_cell KP3.out 6).trans rfl;have p7_w3 : w3.cell? ⟨w1.heap.size,7,none⟩ = some (.int .i64 p.f7) := (blk_cell KP3.out 7).trans rfl;have p8_w3 : w3.cell? ⟨w1.heap.size,8,none⟩ = some (.string p.f8) := (blk_cell KP3.out 8).trans rfl;have p9_w3 : w3.cell? ⟨w1.heap.size,9,none⟩ = some (.int .i64 p.f9) := (blk_cell KP3.out 9).trans rfl;have p10_w3 : w3.cell? ⟨w1.heap.size,10,none⟩ = some (.int .i64 p.f10) := (blk_cell KP3.out 10).trans rfl;have p11_w3 : w3.cell? ⟨w1.heap.size,11,none⟩ = some (.string p.f11) := (blk_cell KP3.out 11).trans rfl;have ltp_w3 := blk_lt KP3.out;have q3_w3 : w3.cell? ⟨w2.heap.size,3,none⟩ = some (.int .i64 q.f3) := (blk_cell KQ3.out 3).trans rfl;have ltq_w3 := blk_lt KQ3.out) | (go_at_call 22;refine (serve_live D3.out p.f3 p.f3 9 p).mono ?_;rintro e w4 ⟨rfl,hd,hg⟩;rw [KP.out.1,KP.out.2.1,KP.out.2.2.1];simp only [pkV,z30];have H4 := Aside0.mk (pw_below_grown H3.out _ H3.out.size hg (fun k e => by cases e;exact GB.out));have D4 := Aside0.mk hd;have K54 := Aside0.mk (blk_grown K53.out hg (fun e => blk_ne_map D3.out K53.out (Option.some.inj e)));have K74 := Aside0.mk (blk_grown K73.out hg (fun e => blk_ne_map D3.out K73.out (Option.some.inj e)));have K84 := Aside0.mk (blk_grown K83.out hg (fun e => blk_ne_map D3.out K83.out (Option.some.inj e)));have KQ4 := Aside0.mk (blk_grown KQ3.out hg (fun e => blk_ne_map D3.out KQ3.out (Option.some.inj e)));clear hd hg;have k0_w4 : w4.cell? ⟨b5,0,none⟩ = some (.slice A marks.length c) := (blk_cell K54.out 0).trans rfl;have k1_w4 : w4.cell? ⟨b5,1,none⟩ = some (.int .i64 life) := (blk_cell K54.out 1).trans rfl;have k2_w4 : w4.cell? ⟨b5,2,none⟩ = some (.int .i64 ticks) := (blk_cell K54.out 2).trans rfl;have ltk_w4 := blk_lt K54.out))
  obtain ⟨w5,hw5⟩ : ∃ w5,w5 = w4.alloc (Obj.cells #[.int .i64 0,.int .i64 0,.int .i64 0,.int .i64 0,.int .i64 0,.int .i64 0,.int .u64 0,.int .i64 0,.string ⟨#[]⟩,.int .i64 0,.int .i64 0,.string ⟨#[]⟩] 30) := ⟨_,rfl⟩
  obtain ⟨bq,hbq⟩ : ∃ bq,bq = w2.heap.size := ⟨_,rfl⟩
  have A5 : Aside0 (AnsAt w w5 g b life name (serveL life [] p.f3 p.f3 9 p) b5 b7 b8 bq #[.slice A marks.length c,.int .i64 life,.int .i64 ticks] #[.int .i64 s0,.int .i64 s1,.int .i64 s2,.int .u64 s3] #[.int .i64 t0,.int .i64 t1,.int .i64 t2,.int .u64 t3] #[.int .i64 q.f0,.int .i64 q.f1,.int .i64 q.f2,.int .i64 q.f3,.int .i64 q.f4,.int .i64 q.f5,.int .u64 q.f6,.int .i64 q.f7,.string q.f8,.int .i64 q.f9,.int .i64 q.f10,.string q.f11] s0 s1 0) := ⟨by rw [hw5,hbq];exact AnsAt.below ⟨D4.out,KP.out.2.2.2,H4.out,K54.out,K74.out,K84.out,KQ4.out⟩ (below_alloc (Below.refl _ _) _)⟩
  rw [← hw5,← hbq]
  clear hw5 hbq
  go_loopg [20] 0 (fun kq vi wr => ∃ (j : Nat) (L : List S57),vi = .int .i64 (j : Int) ∧ j + kq = 0 ∧ Aside0 (AnsAt w wr g b life name L b5 b7 b8 bq #[.slice A marks.length c,.int .i64 life,.int .i64 ticks] #[.int .i64 s0,.int .i64 s1,.int .i64 s2,.int .u64 s3] #[.int .i64 t0,.int .i64 t1,.int .i64 t2,.int .u64 t3] #[.int .i64 q.f0,.int .i64 q.f1,.int .i64 q.f2,.int .i64 q.f3,.int .i64 q.f4,.int .i64 q.f5,.int .u64 q.f6,.int .i64 q.f7,.string q.f8,.int .i64 q.f9,.int .i64 q.f10,.string q.f11] s0 s1 (j : Int)))
  case atStart => exact ⟨0,_,rfl,by simp,A5⟩
  case round =>
    as_aux_lemma =>
      obtain ⟨j,L,rfl,hj,HJ⟩ := hrel
      by_cases hjl : (j : Int) < 0
      · exact absurd hjl (by omega)
      · have hje : (j : Int) = 0 := by omega
        have f2 := blk_cell HJ.out.2.2.2.2.2.2 2
        obtain ⟨_,hk2,hk3,hk4⟩ := HJ.out.2.1
        have K8J := Aside0.mk HJ.out.2.2.2.2.2.1
        have KQJ := Aside0.mk HJ.out.2.2.2.2.2.2
        have K5J := Aside0.mk HJ.out.2.2.2.1
        have K7J := Aside0.mk HJ.out.2.2.2.2.1
        by_cases hs : 0 < life
        · have hg : adGet name L = some ⟨name,s0,s1,life - (j : Int)⟩ := by rw [hk2,if_pos ⟨rfl,by omega⟩]
          have SE : Aside0 (serveP L q.f3 q.f3 9 q = ⟨4,q.f3,q.f3,t0,t1,9,t3,0,name,s0,s1,⟨#[]⟩⟩) := ⟨by rw [(KA.out L).2.2.1,hg,← qs.out.1,← qs.out.2.1,← qs.out.2.2.1,← qs.out.2.2.2];rfl⟩
          clear hg hk2 f2
          have q0_wr : wr.cell? ⟨bq,0,none⟩ = some (.int .i64 q.f0) := (blk_cell KQJ.out 0).trans rfl
          have q1_wr : wr.cell? ⟨bq,1,none⟩ = some (.int .i64 q.f1) := (blk_cell KQJ.out 1).trans rfl
          have q2_wr : wr.cell? ⟨bq,2,none⟩ = some (.int .i64 q.f2) := (blk_cell KQJ.out 2).trans rfl
          have q3_wr : wr.cell? ⟨bq,3,none⟩ = some (.int .i64 q.f3) := (blk_cell KQJ.out 3).trans rfl
          have q4_wr : wr.cell? ⟨bq,4,none⟩ = some (.int .i64 q.f4) := (blk_cell KQJ.out 4).trans rfl
          have q5_wr : wr.cell? ⟨bq,5,none⟩ = some (.int .i64 q.f5) := (blk_cell KQJ.out 5).trans rfl
          have q6_wr : wr.cell? ⟨bq,6,none⟩ = some (.int .u64 q.f6) := (blk_cell KQJ.out 6).trans rfl
          have q7_wr : wr.cell? ⟨bq,7,none⟩ = some (.int .i64 q.f7) := (blk_cell KQJ.out 7).trans rfl
          have q8_wr : wr.cell? ⟨bq,8,none⟩ = some (.string q.f8) := (blk_cell KQJ.out 8).trans rfl
          have q9_wr : wr.cell? ⟨bq,9,none⟩ = some (.int .i64 q.f9) := (blk_cell KQJ.out 9).trans rfl
          have q10_wr : wr.cell? ⟨bq,10,none⟩ = some (.int .i64 q.f10) := (blk_cell KQJ.out 10).trans rfl
          have q11_wr : wr.cell? ⟨bq,11,none⟩ = some (.string q.f11) := (blk_cell KQJ.out 11).trans rfl
          have ltq_wr := blk_lt KQJ.out
          go_wp2_with (first | (go_at_call 22;refine (serve_live HJ.out.1 q.f3 q.f3 9 q).mono ?_;rintro e w6 ⟨rfl,hd,hg⟩;rw [(KA.out L).1,(KA.out L).2.1,SE.out];simp only [pkV];have A6 := Aside0.mk (HJ.out.turn hd (by rw [(KA.out L).2.2.2];exact HJ.out.2.1) hg GB.out);have K86 := Aside0.mk A6.out.2.2.2.2.2.1;have K56 := Aside0.mk A6.out.2.2.2.1;have K76 := Aside0.mk A6.out.2.2.2.2.1;clear hd hg;have h0_w6 : w6.cell? ⟨b8,0,none⟩ = some (.int .i64 t0) := (blk_cell K86.out 0).trans rfl;have h1_w6 : w6.cell? ⟨b8,1,none⟩ = some (.int .i64 t1) := (blk_cell K86.out 1).trans rfl;have h2_w6 : w6.cell? ⟨b8,2,none⟩ = some (.int .i64 t2) := (blk_cell K86.out 2).trans rfl;have h3_w6 : w6.cell? ⟨b8,3,none⟩ = some (.int .u64 t3) := (blk_cell K86.out 3).trans rfl;have lth_w6 := blk_lt K86.out;have m0_w6 : w6.cell? ⟨b5,0,none⟩ = some (.slice A marks.length c) := (blk_cell K56.out 0).trans rfl;have m1_w6 : w6.cell? ⟨b5,1,none⟩ = some (.int .i64 life) := (blk_cell K56.out 1).trans rfl;have m2_w6 : w6.cell? ⟨b5,2,none⟩ = some (.int .i64 ticks) := (blk_cell K56.out 2).trans rfl;have ltm_w6 := blk_lt K56.out;have n0_w6 : w6.cell? ⟨b7,0,none⟩ = some (.int .i64 s0) := (blk_cell K76.out 0).trans rfl;have n1_w6 : w6.cell? ⟨b7,1,none⟩ = some (.int .i64 s1) := (blk_cell K76.out 1).trans rfl;have n2_w6 : w6.cell? ⟨b7,2,none⟩ = some (.int .i64 s2) := (blk_cell K76.out 2).trans rfl;have n3_w6 : w6.cell? ⟨b7,3,none⟩ = some (.int .u64 s3) := (blk_cell K76.out 3).trans rfl;have ltn_w6 := blk_lt K76.out) | (go_at_call 15;refine (beaconlaw20_awake.calls true _ rfl).mono ?_;rintro e w9 ⟨rfl,hb⟩;have H9 := Aside0.mk (below_then (below_alloc A6.out.2.2.1 _) (Nat.le_trans A6.out.2.2.1.size (by simp)) hb);clear hb))
          go_ret
          exact ⟨rfl,H9.out⟩
        · exact absurd (show (0 : Int) < life by omega) hs
set_option maxHeartbeats 8000000 in
set_option maxRecDepth 100000 in
theorem answers_above (s0 s1 s2 s3 t0 t1 t2 t3 : Int) (name : ByteArray) (A : Option Addr) (c : Nat) (marks : List Int) (life ticks : Int) (w : World) (hr : Kd.C (Kd.int .i64) w A marks.length marks) (hc : marks.length ≤ c) (h1 : toE s0 s1 name marks s2 = 0) (h2 : toE t0 t1 name marks t2 = 0) (hl1 : 1 ≤ life) (hl2 : life ≤ 1048576) (ht1 : ¬ ticks < 0) (ht2 : 2000 < ticks) :
    Calls Try.prog 7 #[.agg #[.int .i64 s0,.int .i64 s1,.int .i64 s2,.int .u64 s3,.int .i64 t0,.int .i64 t1,.int .i64 t2,.int .u64 t3],.string name,.agg #[.slice A marks.length c,.int .i64 life,.int .i64 ticks]] w fun e w' => e = .returned (.bool true) ∧ Below w.heap.size w w' := by
  have hu30 := Try.underlying30
  have hu24 := Try.underlying24
  have hu72 := Try.underlying72
  have hu74 := Try.underlying74
  have HR := Aside0.mk hr
  have HC := Aside0.mk hc
  clear hr hc
  obtain ⟨w0,hw0⟩ : ∃ w0,w0 = (((w.alloc (Obj.cells #[.int .i64 s0,.int .i64 s1,.int .i64 s2,.int .u64 s3,.int .i64 t0,.int .i64 t1,.int .i64 t2,.int .u64 t3] 72)).alloc (Obj.cells #[.slice A marks.length c,.int .i64 life,.int .i64 ticks] 74)).alloc (Obj.cells #[.int .i64 s0,.int .i64 s1,.int .i64 s2,.int .u64 s3] 24)).alloc (Obj.cells #[.int .i64 t0,.int .i64 t1,.int .i64 t2,.int .u64 t3] 24) := ⟨_,rfl⟩
  obtain ⟨b5,hb5⟩ : ∃ b,b = w.heap.size + 1 := ⟨_,rfl⟩
  obtain ⟨b7,hb7⟩ : ∃ b,b = w.heap.size + 1 + 1 := ⟨_,rfl⟩
  obtain ⟨b8,hb8⟩ : ∃ b,b = w.heap.size + 1 + 1 + 1 := ⟨_,rfl⟩
  have W0 := Aside0.mk (And.intro hw0 (And.intro hb5 (And.intro hb7 hb8)))
  have H0 : Aside0 (Below w.heap.size w w0) := ⟨by rw [hw0];exact (below_alloc (below_alloc (below_alloc (below_alloc (Below.refl _ w) (.cells #[.int .i64 s0,.int .i64 s1,.int .i64 s2,.int .u64 s3,.int .i64 t0,.int .i64 t1,.int .i64 t2,.int .u64 t3] 72)) (.cells #[.slice A marks.length c,.int .i64 life,.int .i64 ticks] 74)) (.cells #[.int .i64 s0,.int .i64 s1,.int .i64 s2,.int .u64 s3] 24)) (.cells #[.int .i64 t0,.int .i64 t1,.int .i64 t2,.int .u64 t3] 24))⟩
  have K50 : Aside0 (w0.heap[b5]? = some (.cells #[.slice A marks.length c,.int .i64 life,.int .i64 ticks] 74 (0,0))) := ⟨by rw [hw0,hb5];exact blk_alloc (blk_alloc (by have := blk_new (w.alloc (Obj.cells #[.int .i64 s0,.int .i64 s1,.int .i64 s2,.int .u64 s3,.int .i64 t0,.int .i64 t1,.int .i64 t2,.int .u64 t3] 72)) (Obj.cells #[.slice A marks.length c,.int .i64 life,.int .i64 ticks] 74);rwa [World.size_alloc] at this) _) _⟩
  have K70 : Aside0 (w0.heap[b7]? = some (.cells #[.int .i64 s0,.int .i64 s1,.int .i64 s2,.int .u64 s3] 24 (0,0))) := ⟨by rw [hw0,hb7];exact blk_alloc (by have := blk_new ((w.alloc (Obj.cells #[.int .i64 s0,.int .i64 s1,.int .i64 s2,.int .u64 s3,.int .i64 t0,.int .i64 t1,.int .i64 t2,.int .u64 t3] 72)).alloc (Obj.cells #[.slice A marks.length c,.int .i64 life,.int .i64 ticks] 74)) (Obj.cells #[.int .i64 s0,.int .i64 s1,.int .i64 s2,.int .u64 s3] 24);rwa [World.size_alloc,World.size_alloc] at this) _⟩
  have K80 : Aside0 (w0.heap[b8]? = some (.cells #[.int .i64 t0,.int .i64 t1,.int .i64 t2,.int .u64 t3] 24 (0,0))) := ⟨by rw [hw0,hb8];have := blk_new (((w.alloc (Obj.cells #[.int .i64 s0,.int .i64 s1,.int .i64 s2,.int .u64 s3,.int .i64 t0,.int .i64 t1,.int .i64 t2,.int .u64 t3] 72)).alloc (Obj.cells #[.slice A marks.length c,.int .i64 life,.int .i64 ticks] 74)).alloc (Obj.cells #[.int .i64 s0,.int .i64 s1,.int .i64 s2,.int .u64 s3] 24)) (Obj.cells #[.int .i64 t0,.int .i64 t1,.int .i64 t2,.int .u64 t3] 24);rwa [World.size_alloc,World.size_alloc,World.size_alloc] at this⟩
  clear hw0 hb5 hb7 hb8
  obtain ⟨r1,r2,hv⟩ : ∃ r1 r2,drawV marks name = (r1,r2) := ⟨_,_,rfl⟩
  obtain ⟨ha1,hd2⟩ := toE_zero h1
  obtain ⟨ha2,_⟩ := toE_zero h2
  obtain ⟨hnm,hbad⟩ := draw_ok hd2
  rw [hv] at hd2 hbad
  simp only at hd2 hbad
  subst hd2
  obtain ⟨p,hp⟩ : ∃ p,p = (⟨2,s0,s1,r1,r1,s2,s3,0,name,s0,s1,⟨#[]⟩⟩ : S30) := ⟨_,rfl⟩
  obtain ⟨q,hq⟩ : ∃ q,q = (⟨3,t0,t1,r1,r1,t2,t3,0,name,0,0,⟨#[]⟩⟩ : S30) := ⟨_,rfl⟩
  have HP : Aside0 (toP 2 s0 s1 name marks s2 s3 s0 s1 = p) := ⟨by rw [hp];exact toP_ok h1 hv⟩
  have HQ : Aside0 (toP 3 t0 t1 name marks t2 t3 0 0 = q) := ⟨by rw [hq];exact toP_ok h2 hv⟩
  have N1 := Aside0.mk h1
  have N2 := Aside0.mk h2
  have p3 : p.f3 = r1 := by rw [hp]
  have q3 : q.f3 = r1 := by rw [hq]
  have KP : Aside0 (serveE [] p.f3 p.f3 9 p = 0 ∧ serveT p.f3 p.f3 9 p = false ∧ serveP [] p.f3 p.f3 9 p = z30 ∧ Known life name (serveL life [] p.f3 p.f3 9 p) true s0 s1 0) := ⟨by rw [p3];exact keeper_put (serial := s3) (hops := s2) hl1 hnm hbad ha1 p hp⟩
  have KA : Aside0 (∀ L,serveE L q.f3 q.f3 9 q = 0 ∧ serveT q.f3 q.f3 9 q = true ∧ serveP L q.f3 q.f3 9 q = answerP q.f3 q.f3 9 q (adGet name L) ∧ serveL life L q.f3 q.f3 9 q = L) := ⟨fun L => by rw [q3];exact keeper_ask (L := L) (life := life) (serial := t3) (hops := t2) hnm hbad ha2 q hq⟩
  have hpq : (p.f3 != q.f3) = false := by rw [p3,q3];simp
  have qs : Aside0 (q.f1 = t0 ∧ q.f2 = t1 ∧ q.f6 = t3 ∧ q.f8 = name) := ⟨by rw [hq];exact ⟨rfl,rfl,rfl,rfl⟩⟩
  clear h1 h2 hv hnm hbad ha1 ha2 hp hq p3 q3
  go_enter Try.func7,Try.ntmps7
  go_upto_region 3 with fail
  rw [← W0.out.2.2.2,← W0.out.2.2.1,← W0.out.2.1,← W0.out.1]
  have k0_w0 : w0.cell? ⟨b5,0,none⟩ = some (.slice A marks.length c) := (blk_cell K50.out 0).trans rfl
  have k1_w0 : w0.cell? ⟨b5,1,none⟩ = some (.int .i64 life) := (blk_cell K50.out 1).trans rfl
  have k2_w0 : w0.cell? ⟨b5,2,none⟩ = some (.int .i64 ticks) := (blk_cell K50.out 2).trans rfl
  have ltk_w0 := blk_lt K50.out
  have a0_w0 : w0.cell? ⟨b7,0,none⟩ = some (.int .i64 s0) := (blk_cell K70.out 0).trans rfl
  have a1_w0 : w0.cell? ⟨b7,1,none⟩ = some (.int .i64 s1) := (blk_cell K70.out 1).trans rfl
  have a2_w0 : w0.cell? ⟨b7,2,none⟩ = some (.int .i64 s2) := (blk_cell K70.out 2).trans rfl
  have a3_w0 : w0.cell? ⟨b7,3,none⟩ = some (.int .u64 s3) := (blk_cell K70.out 3).trans rfl
  have lta_w0 := blk_lt K70.out
  go_wp2_with (first | (go_at_call 10;refine (announce_any s0 s1 name A c marks s2 s3 _ (Kd.C_below HR.out H0.out) HC.out).mono ?_;rintro e w1 ⟨rfl,hb⟩;rw [N1.out,HP.out];simp only [pkV];have H1 := Aside0.mk (below_then H0.out H0.out.size hb);have K51 := Aside0.mk (blk_below K50.out hb);have K71 := Aside0.mk (blk_below K70.out hb);have K81 := Aside0.mk (blk_below K80.out hb);clear hb;have b0_w1 : w1.cell? ⟨b8,0,none⟩ = some (.int .i64 t0) := (blk_cell K81.out 0).trans rfl;have b1_w1 : w1.cell? ⟨b8,1,none⟩ = some (.int .i64 t1) := (blk_cell K81.out 1).trans rfl;have b2_w1 : w1.cell? ⟨b8,2,none⟩ = some (.int .i64 t2) := (blk_cell K81.out 2).trans rfl;have b3_w1 : w1.cell? ⟨b8,3,none⟩ = some (.int .u64 t3) := (blk_cell K81.out 3).trans rfl;have ltb_w1 := blk_lt K81.out) | (go_at_call 12;refine (ask_any t0 t1 name A c marks t2 t3 _ (Kd.C_below HR.out (below_alloc H1.out _)) HC.out).mono ?_;rintro e w2 ⟨rfl,hb⟩;rw [N2.out,HQ.out];simp only [pkV];have H2 := Aside0.mk (below_then (below_alloc H1.out (.cells #[.int .i64 p.f0,.int .i64 p.f1,.int .i64 p.f2,.int .i64 p.f3,.int .i64 p.f4,.int .i64 p.f5,.int .u64 p.f6,.int .i64 p.f7,.string p.f8,.int .i64 p.f9,.int .i64 p.f10,.string p.f11] 30)) (below_alloc H1.out (.cells #[.int .i64 p.f0,.int .i64 p.f1,.int .i64 p.f2,.int .i64 p.f3,.int .i64 p.f4,.int .i64 p.f5,.int .u64 p.f6,.int .i64 p.f7,.string p.f8,.int .i64 p.f9,.int .i64 p.f10,.string p.f11] 30)).size hb);have K52 := Aside0.mk (blk_below (blk_alloc K51.out _) hb);have K72 := Aside0.mk (blk_below (blk_alloc K71.out _) hb);have K82 := Aside0.mk (blk_below (blk_alloc K81.out _) hb);have KP2 := Aside0.mk (blk_below (blk_new w1 (.cells #[.int .i64 p.f0,.int .i64 p.f1,.int .i64 p.f2,.int .i64 p.f3,.int .i64 p.f4,.int .i64 p.f5,.int .u64 p.f6,.int .i64 p.f7,.string p.f8,.int .i64 p.f9,.int .i64 p.f10,.string p.f11] 30)) hb);clear hb;have k0_w2 : w2.cell? ⟨b5,0,none⟩ = some (.slice A marks.length c) := (blk_cell K52.out 0).trans rfl;have k1_w2 : w2.cell? ⟨b5,1,none⟩ = some (.int .i64 life) := (blk_cell K52.out 1).trans rfl;have k2_w2 : w2.cell? ⟨b5,2,none⟩ = some (.int .i64 ticks) := (blk_cell K52.out 2).trans rfl;have ltk_w2 := blk_lt K52.out) | (go_at_call 16;refine (new_yes life _ hl1 hl2).mono ?_;rintro e w3 ⟨g,b,rfl,hg,hb,hd,hbl⟩;have H3 := Aside0.mk (below_then (below_alloc H2.out (.cells #[.int .i64 q.f0,.int .i64 q.f1,.int .i64 q.f2,.int .i64 q.f3,.int .i64 q.f4,.int .i64 q.f5,.int .u64 q.f6,.int .i64 q.f7,.string q.f8,.int .i64 q.f9,.int .i64 q.f10,.string q.f11] 30)) (below_alloc H2.out (.cells #[.int .i64 q.f0,.int .i64 q.f1,.int .i64 q.f2,.int .i64 q.f3,.int .i64 q.f4,.int .i64 q.f5,.int .u64 q.f6,.int .i64 q.f7,.string q.f8,.int .i64 q.f9,.int .i64 q.f10,.string q.f11] 30)).size hbl);have D3 := Aside0.mk (show DirAt w3 g b life [] from hd);have GB : Aside0 (w.heap.size ≤ b) := ⟨by have := (below_alloc H2.out (.cells #[.int .i64 q.f0,.int .i64 q.f1,.int .i64 q.f2,.int .i64 q.f3,.int .i64 q.f4,.int .i64 q.f5,.int .u64 q.f6,.int .i64 q.f7,.string q.f8,.int .i64 q.f9,.int .i64 q.f10,.string q.f11] 30)).size;omega⟩;have K53 := Aside0.mk (blk_below (blk_alloc K52.out _) hbl);have K73 := Aside0.mk (blk_below (blk_alloc K72.out _) hbl);have K83 := Aside0.mk (blk_below (blk_alloc K82.out _) hbl);have KP3 := Aside0.mk (blk_below (blk_alloc KP2.out _) hbl);have KQ3 := Aside0.mk (blk_below (blk_new w2 (.cells #[.int .i64 q.f0,.int .i64 q.f1,.int .i64 q.f2,.int .i64 q.f3,.int .i64 q.f4,.int .i64 q.f5,.int .u64 q.f6,.int .i64 q.f7,.string q.f8,.int .i64 q.f9,.int .i64 q.f10,.string q.f11] 30)) hbl);clear hg hb hd hbl;have p0_w3 : w3.cell? ⟨w1.heap.size,0,none⟩ = some (.int .i64 p.f0) := (blk_cell KP3.out 0).trans rfl;have p1_w3 : w3.cell? ⟨w1.heap.size,1,none⟩ = some (.int .i64 p.f1) := (blk_cell KP3.out 1).trans rfl;have p2_w3 : w3.cell? ⟨w1.heap.size,2,none⟩ = some (.int .i64 p.f2) := (blk_cell KP3.out 2).trans rfl;have p3_w3 : w3.cell? ⟨w1.heap.size,3,none⟩ = some (.int .i64 p.f3) := (blk_cell KP3.out 3).trans rfl;have p4_w3 : w3.cell? ⟨w1.heap.size,4,none⟩ = some (.int .i64 p.f4) := (blk_cell KP3.out 4).trans rfl;have p5_w3 : w3.cell? ⟨w1.heap.size,5,none⟩ = some (.int .i64 p.f5) := (blk_cell KP3.out 5).trans rfl;have p6_w3 : w3.cell? ⟨w1.heap.size,6,none⟩ = some (.int .u64 p.f6) := (blk_cell KP3.out 6).trans rfl;have p7_w3 : w3.cell? ⟨w1.heap.size,7,none⟩ = some (.int .i64 p.f7) := (blk_cell KP3.out 7).trans rfl;have p8_w3 : w3.cell? ⟨w1.heap.size,8,none⟩ = some (.string p.f8) := (blk_cell KP3.out 8).trans rfl;have p9_w3 : w3.cell? ⟨w1.heap.size,9,none⟩ = some (.int .i64 p.f9) := (blk_cell KP3.out 9).trans rfl;have p10_w3 : w3.cell? ⟨w1.heap.size,10,none⟩ = some (.int .i64 p.f10) := (blk_cell KP3.out 10).trans rfl;have p11_w3 : w3.cell? ⟨w1.heap.size,11,none⟩ = some (.string p.f11) := (blk_cell KP3.out 11).trans rfl;have ltp_w3 := blk_lt KP3.out;have q3_w3 : w3.cell? ⟨w2.heap.size,3,none⟩ = some (.int .i64 q.f3) := (blk_cell KQ3.out 3).trans rfl;have ltq_w3 := blk_lt KQ3.out) | (go_at_call 22;refine (serve_live D3.out p.f3 p.f3 9 p).mono ?_;rintro e w4 ⟨rfl,hd,hg⟩;rw [KP.out.1,KP.out.2.1,KP.out.2.2.1];simp only [pkV,z30];have H4 := Aside0.mk (pw_below_grown H3.out _ H3.out.size hg (fun k e => by cases e;exact GB.out));have D4 := Aside0.mk hd;have K54 := Aside0.mk (blk_grown K53.out hg (fun e => blk_ne_map D3.out K53.out (Option.some.inj e)));have K74 := Aside0.mk (blk_grown K73.out hg (fun e => blk_ne_map D3.out K73.out (Option.some.inj e)));have K84 := Aside0.mk (blk_grown K83.out hg (fun e => blk_ne_map D3.out K83.out (Option.some.inj e)));have KQ4 := Aside0.mk (blk_grown KQ3.out hg (fun e => blk_ne_map D3.out KQ3.out (Option.some.inj e)));clear hd hg;have k0_w4 : w4.cell? ⟨b5,0,none⟩ = some (.slice A marks.length c) := (blk_cell K54.out 0).trans rfl;have k1_w4 : w4.cell? ⟨b5,1,none⟩ = some (.int .i64 life) := (blk_cell K54.out 1).trans rfl;have k2_w4 : w4.cell? ⟨b5,2,none⟩ = some (.int .i64 ticks) := (blk_cell K54.out 2).trans rfl;have ltk_w4 := blk_lt K54.out))
  obtain ⟨w5,hw5⟩ : ∃ w5,w5 = w4.alloc (Obj.cells #[.int .i64 0,.int .i64 0,.int .i64 0,.int .i64 0,.int .i64 0,.int .i64 0,.int .u64 0,.int .i64 0,.string ⟨#[]⟩,.int .i64 0,.int .i64 0,.string ⟨#[]⟩] 30) := ⟨_,rfl⟩
  obtain ⟨bq,hbq⟩ : ∃ bq,bq = w2.heap.size := ⟨_,rfl⟩
  have A5 : Aside0 (AnsAt w w5 g b life name (serveL life [] p.f3 p.f3 9 p) b5 b7 b8 bq #[.slice A marks.length c,.int .i64 life,.int .i64 ticks] #[.int .i64 s0,.int .i64 s1,.int .i64 s2,.int .u64 s3] #[.int .i64 t0,.int .i64 t1,.int .i64 t2,.int .u64 t3] #[.int .i64 q.f0,.int .i64 q.f1,.int .i64 q.f2,.int .i64 q.f3,.int .i64 q.f4,.int .i64 q.f5,.int .u64 q.f6,.int .i64 q.f7,.string q.f8,.int .i64 q.f9,.int .i64 q.f10,.string q.f11] s0 s1 0) := ⟨by rw [hw5,hbq];exact AnsAt.below ⟨D4.out,KP.out.2.2.2,H4.out,K54.out,K74.out,K84.out,KQ4.out⟩ (below_alloc (Below.refl _ _) _)⟩
  rw [← hw5,← hbq]
  clear hw5 hbq
  go_loopg [20] 0 (fun kq vi wr => ∃ (j : Nat) (L : List S57),vi = .int .i64 (j : Int) ∧ j + kq = 0 ∧ Aside0 (AnsAt w wr g b life name L b5 b7 b8 bq #[.slice A marks.length c,.int .i64 life,.int .i64 ticks] #[.int .i64 s0,.int .i64 s1,.int .i64 s2,.int .u64 s3] #[.int .i64 t0,.int .i64 t1,.int .i64 t2,.int .u64 t3] #[.int .i64 q.f0,.int .i64 q.f1,.int .i64 q.f2,.int .i64 q.f3,.int .i64 q.f4,.int .i64 q.f5,.int .u64 q.f6,.int .i64 q.f7,.string q.f8,.int .i64 q.f9,.int .i64 q.f10,.string q.f11] s0 s1 (j : Int)))
  case atStart => exact ⟨0,_,rfl,by simp,A5⟩
  case round =>
    as_aux_lemma =>
      obtain ⟨j,L,rfl,hj,HJ⟩ := hrel
      by_cases hjl : (j : Int) < 0
      · exact absurd hjl (by omega)
      · have hje : (j : Int) = 0 := by omega
        have f2 := blk_cell HJ.out.2.2.2.2.2.2 2
        obtain ⟨_,hk2,hk3,hk4⟩ := HJ.out.2.1
        have K8J := Aside0.mk HJ.out.2.2.2.2.2.1
        have KQJ := Aside0.mk HJ.out.2.2.2.2.2.2
        have K5J := Aside0.mk HJ.out.2.2.2.1
        have K7J := Aside0.mk HJ.out.2.2.2.2.1
        by_cases hs : 0 < life
        · have hg : adGet name L = some ⟨name,s0,s1,life - (j : Int)⟩ := by rw [hk2,if_pos ⟨rfl,by omega⟩]
          have SE : Aside0 (serveP L q.f3 q.f3 9 q = ⟨4,q.f3,q.f3,t0,t1,9,t3,0,name,s0,s1,⟨#[]⟩⟩) := ⟨by rw [(KA.out L).2.2.1,hg,← qs.out.1,← qs.out.2.1,← qs.out.2.2.1,← qs.out.2.2.2];rfl⟩
          clear hg hk2 f2
          have q0_wr : wr.cell? ⟨bq,0,none⟩ = some (.int .i64 q.f0) := (blk_cell KQJ.out 0).trans rfl
          have q1_wr : wr.cell? ⟨bq,1,none⟩ = some (.int .i64 q.f1) := (blk_cell KQJ.out 1).trans rfl
          have q2_wr : wr.cell? ⟨bq,2,none⟩ = some (.int .i64 q.f2) := (blk_cell KQJ.out 2).trans rfl
          have q3_wr : wr.cell? ⟨bq,3,none⟩ = some (.int .i64 q.f3) := (blk_cell KQJ.out 3).trans rfl
          have q4_wr : wr.cell? ⟨bq,4,none⟩ = some (.int .i64 q.f4) := (blk_cell KQJ.out 4).trans rfl
          have q5_wr : wr.cell? ⟨bq,5,none⟩ = some (.int .i64 q.f5) := (blk_cell KQJ.out 5).trans rfl
          have q6_wr : wr.cell? ⟨bq,6,none⟩ = some (.int .u64 q.f6) := (blk_cell KQJ.out 6).trans rfl
          have q7_wr : wr.cell? ⟨bq,7,none⟩ = some (.int .i64 q.f7) := (blk_cell KQJ.out 7).trans rfl
          have q8_wr : wr.cell? ⟨bq,8,none⟩ = some (.string q.f8) := (blk_cell KQJ.out 8).trans rfl
          have q9_wr : wr.cell? ⟨bq,9,none⟩ = some (.int .i64 q.f9) := (blk_cell KQJ.out 9).trans rfl
          have q10_wr : wr.cell? ⟨bq,10,none⟩ = some (.int .i64 q.f10) := (blk_cell KQJ.out 10).trans rfl
          have q11_wr : wr.cell? ⟨bq,11,none⟩ = some (.string q.f11) := (blk_cell KQJ.out 11).trans rfl
          have ltq_wr := blk_lt KQJ.out
          go_wp2_with (first | (go_at_call 22;refine (serve_live HJ.out.1 q.f3 q.f3 9 q).mono ?_;rintro e w6 ⟨rfl,hd,hg⟩;rw [(KA.out L).1,(KA.out L).2.1,SE.out];simp only [pkV];have A6 := Aside0.mk (HJ.out.turn hd (by rw [(KA.out L).2.2.2];exact HJ.out.2.1) hg GB.out);have K86 := Aside0.mk A6.out.2.2.2.2.2.1;have K56 := Aside0.mk A6.out.2.2.2.1;have K76 := Aside0.mk A6.out.2.2.2.2.1;clear hd hg;have h0_w6 : w6.cell? ⟨b8,0,none⟩ = some (.int .i64 t0) := (blk_cell K86.out 0).trans rfl;have h1_w6 : w6.cell? ⟨b8,1,none⟩ = some (.int .i64 t1) := (blk_cell K86.out 1).trans rfl;have h2_w6 : w6.cell? ⟨b8,2,none⟩ = some (.int .i64 t2) := (blk_cell K86.out 2).trans rfl;have h3_w6 : w6.cell? ⟨b8,3,none⟩ = some (.int .u64 t3) := (blk_cell K86.out 3).trans rfl;have lth_w6 := blk_lt K86.out;have m0_w6 : w6.cell? ⟨b5,0,none⟩ = some (.slice A marks.length c) := (blk_cell K56.out 0).trans rfl;have m1_w6 : w6.cell? ⟨b5,1,none⟩ = some (.int .i64 life) := (blk_cell K56.out 1).trans rfl;have m2_w6 : w6.cell? ⟨b5,2,none⟩ = some (.int .i64 ticks) := (blk_cell K56.out 2).trans rfl;have ltm_w6 := blk_lt K56.out;have n0_w6 : w6.cell? ⟨b7,0,none⟩ = some (.int .i64 s0) := (blk_cell K76.out 0).trans rfl;have n1_w6 : w6.cell? ⟨b7,1,none⟩ = some (.int .i64 s1) := (blk_cell K76.out 1).trans rfl;have n2_w6 : w6.cell? ⟨b7,2,none⟩ = some (.int .i64 s2) := (blk_cell K76.out 2).trans rfl;have n3_w6 : w6.cell? ⟨b7,3,none⟩ = some (.int .u64 s3) := (blk_cell K76.out 3).trans rfl;have ltn_w6 := blk_lt K76.out) | (go_at_call 15;refine (beaconlaw20_awake.calls true _ rfl).mono ?_;rintro e w9 ⟨rfl,hb⟩;have H9 := Aside0.mk (below_then (below_alloc A6.out.2.2.1 _) (Nat.le_trans A6.out.2.2.1.size (by simp)) hb);clear hb))
          go_ret
          exact ⟨rfl,H9.out⟩
        · exact absurd (show (0 : Int) < life by omega) hs
def beaconlaw20_DirectoryAnswers.f (s0 s1 s2 s3 t0 t1 t2 t3 : Int) (name : ByteArray) (marks : List Int) (life ticks : Int) : Option Bool := some true
theorem beaconlaw20_DirectoryAnswers.calls (s0 s1 s2 s3 t0 t1 t2 t3 : Int) (name : ByteArray) (A : Option Addr) (c : Nat) (marks : List Int) (life ticks : Int) (r : Bool) (w : World) (hr : Kd.C (Kd.int .i64) w A marks.length marks) (hc : marks.length ≤ c) (h : beaconlaw20_DirectoryAnswers.f s0 s1 s2 s3 t0 t1 t2 t3 name marks life ticks = some r) :
    Calls Try.prog 7 #[.agg #[.int .i64 s0,.int .i64 s1,.int .i64 s2,.int .u64 s3,.int .i64 t0,.int .i64 t1,.int .i64 t2,.int .u64 t3],.string name,.agg #[.slice A marks.length c,.int .i64 life,.int .i64 ticks]] w fun e w' => e = .returned (.bool r) ∧ Below w.heap.size w w' := by
  obtain rfl : true = r := Option.some.inj h
  by_cases hok : toE s0 s1 name marks s2 = 0 ∧ toE t0 t1 name marks t2 = 0 ∧ 1 ≤ life ∧ life ≤ 1048576
  · obtain ⟨h1,h2,hl1,hl2⟩ := hok
    by_cases ht1 : ticks < 0
    · exact answers_below s0 s1 s2 s3 t0 t1 t2 t3 name A c marks life ticks w hr hc h1 h2 hl1 hl2 ht1
    · by_cases ht2 : 2000 < ticks
      · exact answers_above s0 s1 s2 s3 t0 t1 t2 t3 name A c marks life ticks w hr hc h1 h2 hl1 hl2 ht1 ht2
      · exact answers_yes s0 s1 s2 s3 t0 t1 t2 t3 name A c marks life ticks w hr hc h1 h2 hl1 hl2 (by omega) (by omega)
  · exact answers_no s0 s1 s2 s3 t0 t1 t2 t3 name A c marks life ticks w hr hc _ _ rfl rfl hok
end Go.Proofs.Ytlpmblcdafdfdaa.PA
