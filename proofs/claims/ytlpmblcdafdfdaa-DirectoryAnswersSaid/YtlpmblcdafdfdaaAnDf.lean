/- directory.to, Announce, Ask and the document's: the packets in plain terms. Conditions: those that each theorem names. -/
import Derived.Test.YtlpmblcdafdfdaaAnGk
import Derived.Test.YtlpmblcdafdfdaaAnDw
import Derived.Test.YtlpmblcdafdfdaaAnKd
namespace Go.Proofs.Ytlpmblcdafdfdaa.PA
open Go.RowKit Go.Proofs.YtlpmblcdafdfdaaW.PrintWords Go.Proofs.YtlpmblcdafdfdaaW.PrintLast Go.Proofs.YtlpmblcdafdfdaaW.PrintMore
set_option linter.unusedVariables false
set_option linter.unusedSimpArgs false
def askedV (a b c : Int) : Int := if (badId a || (b != 0 && badId b)) = true then 20 else if (decide (c < 0) || decide (65536 < c)) = true then 1 else 0
theorem asked_f (a b c : Int) : directory_asked.f 1 a b c = some (askedV a b c) := by
  unfold directory_asked.f askedV
  rw [num_f,num_f,Option.bind_some,Option.bind_some]
  by_cases h1 : badId a = true <;> by_cases h2 : badId b = true <;> by_cases h3 : b = 0 <;> by_cases h4 : c < 0 <;> by_cases h5 : 65536 < c <;> simp [h1,h2,h3,h4,h5,directory_asked.j0,bne]
theorem of_drawn {v : Value} {f : Nat} {args : Array Value} {W : World} (h : Calls Try.prog f args W fun e w' => e = .returned v ∧ Drawn0 W w') : Calls Try.prog f args W fun e w' => e = .returned v ∧ Below W.heap.size W w' :=
  h.mono fun e w' h => ⟨h.1,by obtain ⟨q,hq⟩ := h.2.out;rw [hq];exact pw_below_drewN (Below.refl _ _) q⟩
theorem asked_any (a b c n : Int) (h : askedV a b c = n) (W : World) : Calls Try.prog 41 #[.int .i64 a,.int .i64 b,.int .i64 c] W fun e w' => e = .returned (.int .i64 n) ∧ Below W.heap.size W w' := of_drawn (directory_asked.calls 1 a b c n W (by rw [asked_f,h]))
theorem keeper_any (A : Option Addr) (c : Nat) (l : List Int) (s : ByteArray) (r1 r2 : Int) (hv : drawV l s = (r1,r2)) (W : World) (h : Kd.C (Kd.int .i64) W A l.length l) (hc : l.length ≤ c) :
    Calls Try.prog 8 #[.slice A l.length c,.string s] W fun e w' => e = .returned (.tuple #[.int .i64 r1,.int .i64 r2]) ∧ Below W.heap.size W w' :=
  directory_Keeper.calls A c l s r1 r2 W h hc (by unfold directory_Keeper.f ident_Draw.f;rw [hv,Option.bind_some])
theorem blk_set12 {w : World} {g : Nat} {t : TypeId} {a0 a1 a2 a3 a4 a5 a6 a7 a8 a9 a10 a11 : Value} (h : w.heap[g]? = some (.cells #[a0,a1,a2,a3,a4,a5,a6,a7,a8,a9,a10,a11] t (0,0))) (v0 v1 v2 v3 v4 v5 v6 v7 v8 v9 v10 v11 : Value) :
    ((((((((((((w.setCell ⟨g,0,none⟩ v0).setCell ⟨g,1,none⟩ v1).setCell ⟨g,2,none⟩ v2).setCell ⟨g,3,none⟩ v3).setCell ⟨g,4,none⟩ v4).setCell ⟨g,5,none⟩ v5).setCell ⟨g,6,none⟩ v6).setCell ⟨g,7,none⟩ v7).setCell ⟨g,8,none⟩ v8).setCell ⟨g,9,none⟩ v9).setCell ⟨g,10,none⟩ v10).setCell ⟨g,11,none⟩ v11).heap[g]? = some (.cells #[v0,v1,v2,v3,v4,v5,v6,v7,v8,v9,v10,v11] t (0,0)) := by
  have h := blk_set (blk_set (blk_set (blk_set (blk_set (blk_set (blk_set (blk_set (blk_set (blk_set (blk_set (blk_set h 0 v0) 1 v1) 2 v2) 3 v3) 4 v4) 5 v5) 6 v6) 7 v7) 8 v8) 9 v9) 10 v10) 11 v11
  simpa using h
theorem below_set12 {B : Nat} {w0 w : World} {g : Nat} (h : Below B w0 w) (hg : B ≤ g) (v0 v1 v2 v3 v4 v5 v6 v7 v8 v9 v10 v11 : Value) :
    Below B w0 ((((((((((((w.setCell ⟨g,0,none⟩ v0).setCell ⟨g,1,none⟩ v1).setCell ⟨g,2,none⟩ v2).setCell ⟨g,3,none⟩ v3).setCell ⟨g,4,none⟩ v4).setCell ⟨g,5,none⟩ v5).setCell ⟨g,6,none⟩ v6).setCell ⟨g,7,none⟩ v7).setCell ⟨g,8,none⟩ v8).setCell ⟨g,9,none⟩ v9).setCell ⟨g,10,none⟩ v10).setCell ⟨g,11,none⟩ v11) :=
  ((((((((((((h.setCell hg v0).setCell hg v1).setCell hg v2).setCell hg v3).setCell hg v4).setCell hg v5).setCell hg v6).setCell hg v7).setCell hg v8).setCell hg v9).setCell hg v10).setCell hg v11)
def toE (self home : Int) (name : ByteArray) (marks : List Int) (hops : Int) : Int := if askedV self home hops = 0 then (drawV marks name).2 else askedV self home hops
def toP (kind self home : Int) (name : ByteArray) (marks : List Int) (hops serial id at_ : Int) : S30 := if toE self home name marks hops = 0 then ⟨kind,self,home,(drawV marks name).1,(drawV marks name).1,hops,serial,0,name,id,at_,⟨#[]⟩⟩ else z30
def pkV (p : S30) : Value := .agg #[.int .i64 p.f0,.int .i64 p.f1,.int .i64 p.f2,.int .i64 p.f3,.int .i64 p.f4,.int .i64 p.f5,.int .u64 p.f6,.int .i64 p.f7,.string p.f8,.int .i64 p.f9,.int .i64 p.f10,.string p.f11]
theorem toP_no {kind self home : Int} {name : ByteArray} {marks : List Int} {hops serial id at_ : Int} (h : toE self home name marks hops ≠ 0) : toP kind self home name marks hops serial id at_ = z30 := by unfold toP;rw [if_neg h]
theorem toE_asked {self home : Int} {name : ByteArray} {marks : List Int} {hops n : Int} (h : askedV self home hops = n) (h0 : n ≠ 0) : toE self home name marks hops = n := by unfold toE;rw [h,if_neg h0]
theorem toE_draw {self home : Int} {name : ByteArray} {marks : List Int} {hops r1 r2 : Int} (h : askedV self home hops = 0) (hv : drawV marks name = (r1,r2)) : toE self home name marks hops = r2 := by unfold toE;rw [h,if_pos rfl,hv]
theorem toP_ok {kind self home : Int} {name : ByteArray} {marks : List Int} {hops serial id at_ r1 : Int} (h : toE self home name marks hops = 0) (hv : drawV marks name = (r1,0)) : toP kind self home name marks hops serial id at_ = ⟨kind,self,home,r1,r1,hops,serial,0,name,id,at_,⟨#[]⟩⟩ := by unfold toP;rw [if_pos h,hv]
set_option maxHeartbeats 2000000 in
set_option maxRecDepth 100000 in
theorem to_any (kind self home : Int) (name : ByteArray) (A : Option Addr) (c : Nat) (marks : List Int) (hops serial : Int) (w : World) (hr : Kd.C (Kd.int .i64) w A marks.length marks) (hc : marks.length ≤ c) :
    Calls Try.prog 34 #[.int .i64 kind,.int .i64 self,.int .i64 home,.string name,.slice A marks.length c,.int .i64 hops,.int .u64 serial] w fun e w' => e = .returned (.tuple #[pkV (toP kind self home name marks hops serial 0 0),.int .i64 (toE self home name marks hops)]) ∧ Below w.heap.size w w' := by
  have hu30 := Try.underlying30
  have HR := Aside0.mk hr
  have HC := Aside0.mk hc
  clear hr hc
  obtain ⟨n,hn⟩ : ∃ n,askedV self home hops = n := ⟨_,rfl⟩
  obtain ⟨r1,r2,hv⟩ : ∃ r1 r2,drawV marks name = (r1,r2) := ⟨_,_,rfl⟩
  have AS := Aside0.mk (fun W => asked_any self home hops n hn W)
  have KE := Aside0.mk (fun W h => keeper_any A c marks name r1 r2 hv W h HC.out)
  by_cases h0 : n = 0
  · by_cases h1 : r2 = 0
    · subst h0
      subst h1
      have E := Aside0.mk (toE_draw hn hv)
      have P := Aside0.mk (toP_ok (kind := kind) (serial := serial) (id := 0) (at_ := 0) E.out hv)
      clear hn hv
      go_enter Try.func34,Try.ntmps34
      go_wp2_with (first | (go_at_call 41;refine (AS.out _).mono ?_;rintro e w1 ⟨rfl,hb⟩;have HB1 := Aside0.mk (below_then (below_alloc (Below.refl _ w) (.cells #[.int .i64 0,.int .i64 0,.int .i64 0,.int .i64 0,.int .i64 0,.int .i64 0,.int .u64 0,.int .i64 0,.string ⟨#[]⟩,.int .i64 0,.int .i64 0,.string ⟨#[]⟩] 30)) (below_alloc (Below.refl _ w) (.cells #[.int .i64 0,.int .i64 0,.int .i64 0,.int .i64 0,.int .i64 0,.int .i64 0,.int .u64 0,.int .i64 0,.string ⟨#[]⟩,.int .i64 0,.int .i64 0,.string ⟨#[]⟩] 30)).size hb);have B1 := Aside0.mk (blk_below (blk_new w _) hb);clear hb;have lt1 := blk_lt B1.out;have z0_w1 : w1.cell? ⟨w.heap.size,0,none⟩ = some (.int .i64 0) := (blk_cell B1.out 0).trans rfl;have z1_w1 : w1.cell? ⟨w.heap.size,1,none⟩ = some (.int .i64 0) := (blk_cell B1.out 1).trans rfl;have z2_w1 : w1.cell? ⟨w.heap.size,2,none⟩ = some (.int .i64 0) := (blk_cell B1.out 2).trans rfl;have z3_w1 : w1.cell? ⟨w.heap.size,3,none⟩ = some (.int .i64 0) := (blk_cell B1.out 3).trans rfl;have z4_w1 : w1.cell? ⟨w.heap.size,4,none⟩ = some (.int .i64 0) := (blk_cell B1.out 4).trans rfl;have z5_w1 : w1.cell? ⟨w.heap.size,5,none⟩ = some (.int .i64 0) := (blk_cell B1.out 5).trans rfl;have z6_w1 : w1.cell? ⟨w.heap.size,6,none⟩ = some (.int .u64 0) := (blk_cell B1.out 6).trans rfl;have z7_w1 : w1.cell? ⟨w.heap.size,7,none⟩ = some (.int .i64 0) := (blk_cell B1.out 7).trans rfl;have z8_w1 : w1.cell? ⟨w.heap.size,8,none⟩ = some (.string ⟨#[]⟩) := (blk_cell B1.out 8).trans rfl;have z9_w1 : w1.cell? ⟨w.heap.size,9,none⟩ = some (.int .i64 0) := (blk_cell B1.out 9).trans rfl;have z10_w1 : w1.cell? ⟨w.heap.size,10,none⟩ = some (.int .i64 0) := (blk_cell B1.out 10).trans rfl;have z11_w1 : w1.cell? ⟨w.heap.size,11,none⟩ = some (.string ⟨#[]⟩) := (blk_cell B1.out 11).trans rfl;have y0_w1 := blk_frozen B1.out 0;have y1_w1 := blk_frozen B1.out 1;have y2_w1 := blk_frozen B1.out 2;have y3_w1 := blk_frozen B1.out 3;have y4_w1 := blk_frozen B1.out 4;have y5_w1 := blk_frozen B1.out 5;have y6_w1 := blk_frozen B1.out 6;have y7_w1 := blk_frozen B1.out 7;have y8_w1 := blk_frozen B1.out 8;have y9_w1 := blk_frozen B1.out 9;have y10_w1 := blk_frozen B1.out 10;have y11_w1 := blk_frozen B1.out 11) | (go_at_call 8;refine (KE.out _ (Kd.C_below HR.out HB1.out)).mono ?_;rintro e w2 ⟨rfl,hb⟩;have HB2 := Aside0.mk (below_then HB1.out HB1.out.size hb);have B2 := Aside0.mk (blk_below B1.out hb);clear hb;have lt2 := blk_lt B2.out;have z0_w2 : w2.cell? ⟨w.heap.size,0,none⟩ = some (.int .i64 0) := (blk_cell B2.out 0).trans rfl;have z1_w2 : w2.cell? ⟨w.heap.size,1,none⟩ = some (.int .i64 0) := (blk_cell B2.out 1).trans rfl;have z2_w2 : w2.cell? ⟨w.heap.size,2,none⟩ = some (.int .i64 0) := (blk_cell B2.out 2).trans rfl;have z3_w2 : w2.cell? ⟨w.heap.size,3,none⟩ = some (.int .i64 0) := (blk_cell B2.out 3).trans rfl;have z4_w2 : w2.cell? ⟨w.heap.size,4,none⟩ = some (.int .i64 0) := (blk_cell B2.out 4).trans rfl;have z5_w2 : w2.cell? ⟨w.heap.size,5,none⟩ = some (.int .i64 0) := (blk_cell B2.out 5).trans rfl;have z6_w2 : w2.cell? ⟨w.heap.size,6,none⟩ = some (.int .u64 0) := (blk_cell B2.out 6).trans rfl;have z7_w2 : w2.cell? ⟨w.heap.size,7,none⟩ = some (.int .i64 0) := (blk_cell B2.out 7).trans rfl;have z8_w2 : w2.cell? ⟨w.heap.size,8,none⟩ = some (.string ⟨#[]⟩) := (blk_cell B2.out 8).trans rfl;have z9_w2 : w2.cell? ⟨w.heap.size,9,none⟩ = some (.int .i64 0) := (blk_cell B2.out 9).trans rfl;have z10_w2 : w2.cell? ⟨w.heap.size,10,none⟩ = some (.int .i64 0) := (blk_cell B2.out 10).trans rfl;have z11_w2 : w2.cell? ⟨w.heap.size,11,none⟩ = some (.string ⟨#[]⟩) := (blk_cell B2.out 11).trans rfl;have y0_w2 := blk_frozen B2.out 0;have y1_w2 := blk_frozen B2.out 1;have y2_w2 := blk_frozen B2.out 2;have y3_w2 := blk_frozen B2.out 3;have y4_w2 := blk_frozen B2.out 4;have y5_w2 := blk_frozen B2.out 5;have y6_w2 := blk_frozen B2.out 6;have y7_w2 := blk_frozen B2.out 7;have y8_w2 := blk_frozen B2.out 8;have y9_w2 := blk_frozen B2.out 9;have y10_w2 := blk_frozen B2.out 10;have y11_w2 := blk_frozen B2.out 11))
      obtain ⟨W,hW⟩ : ∃ W,W = ((((((((((((w2.setCell ⟨w.heap.size,0,none⟩ (.int .i64 kind)).setCell ⟨w.heap.size,1,none⟩ (.int .i64 self)).setCell ⟨w.heap.size,2,none⟩ (.int .i64 home)).setCell ⟨w.heap.size,3,none⟩ (.int .i64 r1)).setCell ⟨w.heap.size,4,none⟩ (.int .i64 r1)).setCell ⟨w.heap.size,5,none⟩ (.int .i64 hops)).setCell ⟨w.heap.size,6,none⟩ (.int .u64 serial)).setCell ⟨w.heap.size,7,none⟩ (.int .i64 0)).setCell ⟨w.heap.size,8,none⟩ (.string name)).setCell ⟨w.heap.size,9,none⟩ (.int .i64 0)).setCell ⟨w.heap.size,10,none⟩ (.int .i64 0)).setCell ⟨w.heap.size,11,none⟩ (.string ⟨#[]⟩)) := ⟨_,rfl⟩
      have BW : W.heap[w.heap.size]? = some (.cells #[.int .i64 kind,.int .i64 self,.int .i64 home,.int .i64 r1,.int .i64 r1,.int .i64 hops,.int .u64 serial,.int .i64 0,.string name,.int .i64 0,.int .i64 0,.string ⟨#[]⟩] 30 (0,0)) := by rw [hW];exact blk_set12 B2.out _ _ _ _ _ _ _ _ _ _ _ _
      have HW : Below w.heap.size w W := by rw [hW];exact below_set12 HB2.out (Nat.le_refl _) _ _ _ _ _ _ _ _ _ _ _ _
      rw [← hW]
      clear hW
      have g0 : W.cell? ⟨w.heap.size,0,none⟩ = some (.int .i64 kind) := (blk_cell BW 0).trans rfl
      have g1 : W.cell? ⟨w.heap.size,1,none⟩ = some (.int .i64 self) := (blk_cell BW 1).trans rfl
      have g2 : W.cell? ⟨w.heap.size,2,none⟩ = some (.int .i64 home) := (blk_cell BW 2).trans rfl
      have g3 : W.cell? ⟨w.heap.size,3,none⟩ = some (.int .i64 r1) := (blk_cell BW 3).trans rfl
      have g4 : W.cell? ⟨w.heap.size,4,none⟩ = some (.int .i64 r1) := (blk_cell BW 4).trans rfl
      have g5 : W.cell? ⟨w.heap.size,5,none⟩ = some (.int .i64 hops) := (blk_cell BW 5).trans rfl
      have g6 : W.cell? ⟨w.heap.size,6,none⟩ = some (.int .u64 serial) := (blk_cell BW 6).trans rfl
      have g7 : W.cell? ⟨w.heap.size,7,none⟩ = some (.int .i64 0) := (blk_cell BW 7).trans rfl
      have g8 : W.cell? ⟨w.heap.size,8,none⟩ = some (.string name) := (blk_cell BW 8).trans rfl
      have g9 : W.cell? ⟨w.heap.size,9,none⟩ = some (.int .i64 0) := (blk_cell BW 9).trans rfl
      have g10 : W.cell? ⟨w.heap.size,10,none⟩ = some (.int .i64 0) := (blk_cell BW 10).trans rfl
      have g11 : W.cell? ⟨w.heap.size,11,none⟩ = some (.string ⟨#[]⟩) := (blk_cell BW 11).trans rfl
      refine bodyPost_ret (v := .tuple #[pkV ⟨kind,self,home,r1,r1,hops,serial,0,name,0,0,⟨#[]⟩⟩,.int .i64 0]) (by simp [results,Try.results34,go_sem,pkV,g0,g1,g2,g3,g4,g5,g6,g7,g8,g9,g10,g11]) rfl ⟨by rw [E.out,P.out],HW⟩
    · subst h0
      have hb2 : (r2 != 0) = true := by simpa using h1
      have E := Aside0.mk (toE_draw hn hv)
      have P := Aside0.mk (toP_no (kind := kind) (serial := serial) (id := 0) (at_ := 0) (by rw [E.out];exact h1))
      clear hn hv h1
      go_enter Try.func34,Try.ntmps34
      go_wp2_with (first | (go_at_call 41;refine (AS.out _).mono ?_;rintro e w1 ⟨rfl,hb⟩;have HB1 := Aside0.mk (below_then (below_alloc (Below.refl _ w) (.cells #[.int .i64 0,.int .i64 0,.int .i64 0,.int .i64 0,.int .i64 0,.int .i64 0,.int .u64 0,.int .i64 0,.string ⟨#[]⟩,.int .i64 0,.int .i64 0,.string ⟨#[]⟩] 30)) (below_alloc (Below.refl _ w) (.cells #[.int .i64 0,.int .i64 0,.int .i64 0,.int .i64 0,.int .i64 0,.int .i64 0,.int .u64 0,.int .i64 0,.string ⟨#[]⟩,.int .i64 0,.int .i64 0,.string ⟨#[]⟩] 30)).size hb);have B1 := Aside0.mk (blk_below (blk_new w _) hb);clear hb;have lt1 := blk_lt B1.out;have z0_w1 : w1.cell? ⟨w.heap.size,0,none⟩ = some (.int .i64 0) := (blk_cell B1.out 0).trans rfl;have z1_w1 : w1.cell? ⟨w.heap.size,1,none⟩ = some (.int .i64 0) := (blk_cell B1.out 1).trans rfl;have z2_w1 : w1.cell? ⟨w.heap.size,2,none⟩ = some (.int .i64 0) := (blk_cell B1.out 2).trans rfl;have z3_w1 : w1.cell? ⟨w.heap.size,3,none⟩ = some (.int .i64 0) := (blk_cell B1.out 3).trans rfl;have z4_w1 : w1.cell? ⟨w.heap.size,4,none⟩ = some (.int .i64 0) := (blk_cell B1.out 4).trans rfl;have z5_w1 : w1.cell? ⟨w.heap.size,5,none⟩ = some (.int .i64 0) := (blk_cell B1.out 5).trans rfl;have z6_w1 : w1.cell? ⟨w.heap.size,6,none⟩ = some (.int .u64 0) := (blk_cell B1.out 6).trans rfl;have z7_w1 : w1.cell? ⟨w.heap.size,7,none⟩ = some (.int .i64 0) := (blk_cell B1.out 7).trans rfl;have z8_w1 : w1.cell? ⟨w.heap.size,8,none⟩ = some (.string ⟨#[]⟩) := (blk_cell B1.out 8).trans rfl;have z9_w1 : w1.cell? ⟨w.heap.size,9,none⟩ = some (.int .i64 0) := (blk_cell B1.out 9).trans rfl;have z10_w1 : w1.cell? ⟨w.heap.size,10,none⟩ = some (.int .i64 0) := (blk_cell B1.out 10).trans rfl;have z11_w1 : w1.cell? ⟨w.heap.size,11,none⟩ = some (.string ⟨#[]⟩) := (blk_cell B1.out 11).trans rfl;have y0_w1 := blk_frozen B1.out 0;have y1_w1 := blk_frozen B1.out 1;have y2_w1 := blk_frozen B1.out 2;have y3_w1 := blk_frozen B1.out 3;have y4_w1 := blk_frozen B1.out 4;have y5_w1 := blk_frozen B1.out 5;have y6_w1 := blk_frozen B1.out 6;have y7_w1 := blk_frozen B1.out 7;have y8_w1 := blk_frozen B1.out 8;have y9_w1 := blk_frozen B1.out 9;have y10_w1 := blk_frozen B1.out 10;have y11_w1 := blk_frozen B1.out 11) | (go_at_call 8;refine (KE.out _ (Kd.C_below HR.out HB1.out)).mono ?_;rintro e w2 ⟨rfl,hb⟩;have HB2 := Aside0.mk (below_then HB1.out HB1.out.size hb);have B2 := Aside0.mk (blk_below B1.out hb);clear hb;have lt2 := blk_lt B2.out;have z0_w2 : w2.cell? ⟨w.heap.size,0,none⟩ = some (.int .i64 0) := (blk_cell B2.out 0).trans rfl;have z1_w2 : w2.cell? ⟨w.heap.size,1,none⟩ = some (.int .i64 0) := (blk_cell B2.out 1).trans rfl;have z2_w2 : w2.cell? ⟨w.heap.size,2,none⟩ = some (.int .i64 0) := (blk_cell B2.out 2).trans rfl;have z3_w2 : w2.cell? ⟨w.heap.size,3,none⟩ = some (.int .i64 0) := (blk_cell B2.out 3).trans rfl;have z4_w2 : w2.cell? ⟨w.heap.size,4,none⟩ = some (.int .i64 0) := (blk_cell B2.out 4).trans rfl;have z5_w2 : w2.cell? ⟨w.heap.size,5,none⟩ = some (.int .i64 0) := (blk_cell B2.out 5).trans rfl;have z6_w2 : w2.cell? ⟨w.heap.size,6,none⟩ = some (.int .u64 0) := (blk_cell B2.out 6).trans rfl;have z7_w2 : w2.cell? ⟨w.heap.size,7,none⟩ = some (.int .i64 0) := (blk_cell B2.out 7).trans rfl;have z8_w2 : w2.cell? ⟨w.heap.size,8,none⟩ = some (.string ⟨#[]⟩) := (blk_cell B2.out 8).trans rfl;have z9_w2 : w2.cell? ⟨w.heap.size,9,none⟩ = some (.int .i64 0) := (blk_cell B2.out 9).trans rfl;have z10_w2 : w2.cell? ⟨w.heap.size,10,none⟩ = some (.int .i64 0) := (blk_cell B2.out 10).trans rfl;have z11_w2 : w2.cell? ⟨w.heap.size,11,none⟩ = some (.string ⟨#[]⟩) := (blk_cell B2.out 11).trans rfl;have y0_w2 := blk_frozen B2.out 0;have y1_w2 := blk_frozen B2.out 1;have y2_w2 := blk_frozen B2.out 2;have y3_w2 := blk_frozen B2.out 3;have y4_w2 := blk_frozen B2.out 4;have y5_w2 := blk_frozen B2.out 5;have y6_w2 := blk_frozen B2.out 6;have y7_w2 := blk_frozen B2.out 7;have y8_w2 := blk_frozen B2.out 8;have y9_w2 := blk_frozen B2.out 9;have y10_w2 := blk_frozen B2.out 10;have y11_w2 := blk_frozen B2.out 11))
      obtain ⟨W,hW⟩ : ∃ W,W = ((((((((((((w2.setCell ⟨w.heap.size,0,none⟩ (.int .i64 0)).setCell ⟨w.heap.size,1,none⟩ (.int .i64 0)).setCell ⟨w.heap.size,2,none⟩ (.int .i64 0)).setCell ⟨w.heap.size,3,none⟩ (.int .i64 0)).setCell ⟨w.heap.size,4,none⟩ (.int .i64 0)).setCell ⟨w.heap.size,5,none⟩ (.int .i64 0)).setCell ⟨w.heap.size,6,none⟩ (.int .u64 0)).setCell ⟨w.heap.size,7,none⟩ (.int .i64 0)).setCell ⟨w.heap.size,8,none⟩ (.string ⟨#[]⟩)).setCell ⟨w.heap.size,9,none⟩ (.int .i64 0)).setCell ⟨w.heap.size,10,none⟩ (.int .i64 0)).setCell ⟨w.heap.size,11,none⟩ (.string ⟨#[]⟩)) := ⟨_,rfl⟩
      have BW : W.heap[w.heap.size]? = some (.cells #[.int .i64 0,.int .i64 0,.int .i64 0,.int .i64 0,.int .i64 0,.int .i64 0,.int .u64 0,.int .i64 0,.string ⟨#[]⟩,.int .i64 0,.int .i64 0,.string ⟨#[]⟩] 30 (0,0)) := by rw [hW];exact blk_set12 B2.out _ _ _ _ _ _ _ _ _ _ _ _
      have HW : Below w.heap.size w W := by rw [hW];exact below_set12 HB2.out (Nat.le_refl _) _ _ _ _ _ _ _ _ _ _ _ _
      rw [← hW]
      clear hW
      have g0 : W.cell? ⟨w.heap.size,0,none⟩ = some (.int .i64 0) := (blk_cell BW 0).trans rfl
      have g1 : W.cell? ⟨w.heap.size,1,none⟩ = some (.int .i64 0) := (blk_cell BW 1).trans rfl
      have g2 : W.cell? ⟨w.heap.size,2,none⟩ = some (.int .i64 0) := (blk_cell BW 2).trans rfl
      have g3 : W.cell? ⟨w.heap.size,3,none⟩ = some (.int .i64 0) := (blk_cell BW 3).trans rfl
      have g4 : W.cell? ⟨w.heap.size,4,none⟩ = some (.int .i64 0) := (blk_cell BW 4).trans rfl
      have g5 : W.cell? ⟨w.heap.size,5,none⟩ = some (.int .i64 0) := (blk_cell BW 5).trans rfl
      have g6 : W.cell? ⟨w.heap.size,6,none⟩ = some (.int .u64 0) := (blk_cell BW 6).trans rfl
      have g7 : W.cell? ⟨w.heap.size,7,none⟩ = some (.int .i64 0) := (blk_cell BW 7).trans rfl
      have g8 : W.cell? ⟨w.heap.size,8,none⟩ = some (.string ⟨#[]⟩) := (blk_cell BW 8).trans rfl
      have g9 : W.cell? ⟨w.heap.size,9,none⟩ = some (.int .i64 0) := (blk_cell BW 9).trans rfl
      have g10 : W.cell? ⟨w.heap.size,10,none⟩ = some (.int .i64 0) := (blk_cell BW 10).trans rfl
      have g11 : W.cell? ⟨w.heap.size,11,none⟩ = some (.string ⟨#[]⟩) := (blk_cell BW 11).trans rfl
      refine bodyPost_ret (v := .tuple #[pkV z30,.int .i64 r2]) (by simp [results,Try.results34,go_sem,pkV,z30,g0,g1,g2,g3,g4,g5,g6,g7,g8,g9,g10,g11]) rfl ⟨by rw [E.out,P.out],HW⟩
  · have hb1 : (n != 0) = true := by simpa using h0
    have E := Aside0.mk (toE_asked (name := name) (marks := marks) hn h0)
    have P := Aside0.mk (toP_no (kind := kind) (serial := serial) (id := 0) (at_ := 0) (by rw [E.out];exact h0))
    clear hn hv h0
    go_enter Try.func34,Try.ntmps34
    go_wp2_with (go_at_call 41;refine (AS.out _).mono ?_;rintro e w1 ⟨rfl,hb⟩;have HB1 := Aside0.mk (below_then (below_alloc (Below.refl _ w) (.cells #[.int .i64 0,.int .i64 0,.int .i64 0,.int .i64 0,.int .i64 0,.int .i64 0,.int .u64 0,.int .i64 0,.string ⟨#[]⟩,.int .i64 0,.int .i64 0,.string ⟨#[]⟩] 30)) (below_alloc (Below.refl _ w) (.cells #[.int .i64 0,.int .i64 0,.int .i64 0,.int .i64 0,.int .i64 0,.int .i64 0,.int .u64 0,.int .i64 0,.string ⟨#[]⟩,.int .i64 0,.int .i64 0,.string ⟨#[]⟩] 30)).size hb);have B1 := Aside0.mk (blk_below (blk_new w _) hb);clear hb;have lt1 := blk_lt B1.out;have z0_w1 : w1.cell? ⟨w.heap.size,0,none⟩ = some (.int .i64 0) := (blk_cell B1.out 0).trans rfl;have z1_w1 : w1.cell? ⟨w.heap.size,1,none⟩ = some (.int .i64 0) := (blk_cell B1.out 1).trans rfl;have z2_w1 : w1.cell? ⟨w.heap.size,2,none⟩ = some (.int .i64 0) := (blk_cell B1.out 2).trans rfl;have z3_w1 : w1.cell? ⟨w.heap.size,3,none⟩ = some (.int .i64 0) := (blk_cell B1.out 3).trans rfl;have z4_w1 : w1.cell? ⟨w.heap.size,4,none⟩ = some (.int .i64 0) := (blk_cell B1.out 4).trans rfl;have z5_w1 : w1.cell? ⟨w.heap.size,5,none⟩ = some (.int .i64 0) := (blk_cell B1.out 5).trans rfl;have z6_w1 : w1.cell? ⟨w.heap.size,6,none⟩ = some (.int .u64 0) := (blk_cell B1.out 6).trans rfl;have z7_w1 : w1.cell? ⟨w.heap.size,7,none⟩ = some (.int .i64 0) := (blk_cell B1.out 7).trans rfl;have z8_w1 : w1.cell? ⟨w.heap.size,8,none⟩ = some (.string ⟨#[]⟩) := (blk_cell B1.out 8).trans rfl;have z9_w1 : w1.cell? ⟨w.heap.size,9,none⟩ = some (.int .i64 0) := (blk_cell B1.out 9).trans rfl;have z10_w1 : w1.cell? ⟨w.heap.size,10,none⟩ = some (.int .i64 0) := (blk_cell B1.out 10).trans rfl;have z11_w1 : w1.cell? ⟨w.heap.size,11,none⟩ = some (.string ⟨#[]⟩) := (blk_cell B1.out 11).trans rfl;have y0_w1 := blk_frozen B1.out 0;have y1_w1 := blk_frozen B1.out 1;have y2_w1 := blk_frozen B1.out 2;have y3_w1 := blk_frozen B1.out 3;have y4_w1 := blk_frozen B1.out 4;have y5_w1 := blk_frozen B1.out 5;have y6_w1 := blk_frozen B1.out 6;have y7_w1 := blk_frozen B1.out 7;have y8_w1 := blk_frozen B1.out 8;have y9_w1 := blk_frozen B1.out 9;have y10_w1 := blk_frozen B1.out 10;have y11_w1 := blk_frozen B1.out 11)
    obtain ⟨W,hW⟩ : ∃ W,W = ((((((((((((w1.setCell ⟨w.heap.size,0,none⟩ (.int .i64 0)).setCell ⟨w.heap.size,1,none⟩ (.int .i64 0)).setCell ⟨w.heap.size,2,none⟩ (.int .i64 0)).setCell ⟨w.heap.size,3,none⟩ (.int .i64 0)).setCell ⟨w.heap.size,4,none⟩ (.int .i64 0)).setCell ⟨w.heap.size,5,none⟩ (.int .i64 0)).setCell ⟨w.heap.size,6,none⟩ (.int .u64 0)).setCell ⟨w.heap.size,7,none⟩ (.int .i64 0)).setCell ⟨w.heap.size,8,none⟩ (.string ⟨#[]⟩)).setCell ⟨w.heap.size,9,none⟩ (.int .i64 0)).setCell ⟨w.heap.size,10,none⟩ (.int .i64 0)).setCell ⟨w.heap.size,11,none⟩ (.string ⟨#[]⟩)) := ⟨_,rfl⟩
    have BW : W.heap[w.heap.size]? = some (.cells #[.int .i64 0,.int .i64 0,.int .i64 0,.int .i64 0,.int .i64 0,.int .i64 0,.int .u64 0,.int .i64 0,.string ⟨#[]⟩,.int .i64 0,.int .i64 0,.string ⟨#[]⟩] 30 (0,0)) := by rw [hW];exact blk_set12 B1.out _ _ _ _ _ _ _ _ _ _ _ _
    have HW : Below w.heap.size w W := by rw [hW];exact below_set12 HB1.out (Nat.le_refl _) _ _ _ _ _ _ _ _ _ _ _ _
    rw [← hW]
    clear hW
    have g0 : W.cell? ⟨w.heap.size,0,none⟩ = some (.int .i64 0) := (blk_cell BW 0).trans rfl
    have g1 : W.cell? ⟨w.heap.size,1,none⟩ = some (.int .i64 0) := (blk_cell BW 1).trans rfl
    have g2 : W.cell? ⟨w.heap.size,2,none⟩ = some (.int .i64 0) := (blk_cell BW 2).trans rfl
    have g3 : W.cell? ⟨w.heap.size,3,none⟩ = some (.int .i64 0) := (blk_cell BW 3).trans rfl
    have g4 : W.cell? ⟨w.heap.size,4,none⟩ = some (.int .i64 0) := (blk_cell BW 4).trans rfl
    have g5 : W.cell? ⟨w.heap.size,5,none⟩ = some (.int .i64 0) := (blk_cell BW 5).trans rfl
    have g6 : W.cell? ⟨w.heap.size,6,none⟩ = some (.int .u64 0) := (blk_cell BW 6).trans rfl
    have g7 : W.cell? ⟨w.heap.size,7,none⟩ = some (.int .i64 0) := (blk_cell BW 7).trans rfl
    have g8 : W.cell? ⟨w.heap.size,8,none⟩ = some (.string ⟨#[]⟩) := (blk_cell BW 8).trans rfl
    have g9 : W.cell? ⟨w.heap.size,9,none⟩ = some (.int .i64 0) := (blk_cell BW 9).trans rfl
    have g10 : W.cell? ⟨w.heap.size,10,none⟩ = some (.int .i64 0) := (blk_cell BW 10).trans rfl
    have g11 : W.cell? ⟨w.heap.size,11,none⟩ = some (.string ⟨#[]⟩) := (blk_cell BW 11).trans rfl
    refine bodyPost_ret (v := .tuple #[pkV z30,.int .i64 n]) (by simp [results,Try.results34,go_sem,pkV,z30,g0,g1,g2,g3,g4,g5,g6,g7,g8,g9,g10,g11]) rfl ⟨by rw [E.out,P.out],HW⟩
end Go.Proofs.Ytlpmblcdafdfdaa.PA
