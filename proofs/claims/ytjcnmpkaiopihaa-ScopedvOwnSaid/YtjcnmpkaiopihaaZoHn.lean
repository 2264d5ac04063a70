/- scopedv.Tell: an error, or the news of a home and of balls, sorted by destination. Conditions: the floats are words, the list fits in memory. -/
import Derived.Test.YtjcnmpkaiopihaaZoMn
import Derived.Test.YtjcnmpkaiopihaaZoGx
import Derived.Test.YtjcnmpkaiopihaaZoMp
namespace Go.Proofs.Ytjcnmpkaiopihaa.PA
open Go.RowKit Go.Proofs.YtjcnmpkaiopihaaW.PrintWords Go.Proofs.YtjcnmpkaiopihaaW.PrintLast Go.Proofs.YtjcnmpkaiopihaaW.PrintMore
set_option linter.unusedVariables false
set_option linter.unusedSimpArgs false
def EntsW (l : List S58) : Prop := ∀ x ∈ l,x.f2 < 18446744073709551616 ∧ x.f4 < 18446744073709551616
theorem EntsW.at {l : List S58} (h : EntsW l) (i : Nat) (hi : i < l.length) : (l.getD i z58).f2 < 18446744073709551616 ∧ (l.getD i z58).f4 < 18446744073709551616 := by
  rw [List.getD_eq_getElem?_getD,List.getElem?_eq_getElem hi]
  exact h _ (List.getElem_mem hi)
theorem order_sign {self : Int} {a b : S58} (ha : okBall self a = true) (hb : okBall self b = true) : ∃ r,scopedv_order.f a.f0 a.f1 a.f2 a.f3 a.f4 a.f5 b.f0 b.f1 b.f2 b.f3 b.f4 b.f5 = some r ∧ decide (0 ≤ r) = !(ltE a b) := by
  obtain ⟨a1,a2,_⟩ := ball_props ha
  obtain ⟨b1,b2,_⟩ := ball_props hb
  have a3 := okId_bounds a2
  have b3 := okId_bounds b2
  unfold scopedv_order.f ltE
  by_cases h : a.f1 = b.f1
  · rw [if_pos h]
    refine ⟨_,rfl,?_⟩
    rw [w64n (by omega) (by omega),h,Bool.eq_iff_iff]
    simp
  rw [if_neg h]
  refine ⟨_,rfl,?_⟩
  rw [w64n (by omega) (by omega),Bool.eq_iff_iff]
  simp [h]
  try omega
def TInv (w wr : World) (v : Value) (P : List S56) : Prop := Kd.R k56 56 wr w.heap.size (fun _ => True) v P ∧ Below w.heap.size w wr
theorem TInv.below {w wr W : World} {v : Value} {P : List S56} (h : TInv w wr v P) (hb : Below wr.heap.size wr W) : TInv w W v P := ⟨Kd.R_below h.1 hb,below_then h.2 h.2.size hb⟩
set_option maxHeartbeats 4000000 in
set_option maxRecDepth 100000 in
theorem stell_bad (self id home : Int) (r : Nat) (A : Option Addr) (c : Nat) (l : List S58) (w : World) (hx : r < 18446744073709551616) (h0 : okId self = true) (h1 : okHome self id home r = false) :
    Calls Try.prog 20 #[.int .i64 self,.agg #[.int .i64 id,.int .i64 home,.float .f64 r],.slice A l.length c] w fun e w' => e = .returned (.tuple #[.slice none 0 0,.int .i64 1]) ∧ Below w.heap.size w w' := by
  have hu34 := Try.underlying34
  have HN := Aside0.mk (numS self)
  rw [h0] at HN
  have HH := Aside0.mk (homed_all self id home r 9 hx (Nat.le_refl _))
  rw [h1] at HH
  clear h0 h1
  go_enter Try.func20,Try.ntmps20
  go_upto_region 1 with fail
  obtain ⟨w0,hw0⟩ : ∃ w0,w0 = w.alloc (.cells #[.int .i64 id,.int .i64 home,.float .f64 r] 34) := ⟨_,rfl⟩
  obtain ⟨p,hp⟩ : ∃ p,p = w.heap.size := ⟨_,rfl⟩
  have B0 : Aside0 (Below w.heap.size w w0) := ⟨by rw [hw0];exact below_alloc (Below.refl _ _) _⟩
  have P0 : Aside0 (w0.heap[p]? = some (.cells #[.int .i64 id,.int .i64 home,.float .f64 r] 34 (0,0))) := ⟨by rw [hw0,hp];exact al_new _ _⟩
  rw [← hw0,← hp]
  clear hw0 hp
  go_wp2_with (first | (go_at_call 54;refine (scopedv_number.calls _ _ _ HN.out).mono ?_;rintro e w1 ⟨rfl,hd⟩;have B1 := Aside0.mk (below_then B0.out B0.out.size hd.below);have P1 := Aside0.mk (blk_below P0.out hd.below);clear hd;have n0 : w1.cell? ⟨p,0,none⟩ = some (.int .i64 id) := (blk_cell P1.out 0).trans rfl;have n1 : w1.cell? ⟨p,1,none⟩ = some (.int .i64 home) := (blk_cell P1.out 1).trans rfl;have n2 : w1.cell? ⟨p,2,none⟩ = some (.float .f64 r) := (blk_cell P1.out 2).trans rfl) | (go_at_call 55;refine (scopedv_homed.calls _ _ _ _ _ _ _ HH.out).mono ?_;rintro e w2 ⟨rfl,hb⟩;have B2 := Aside0.mk (below_then B1.out B1.out.size hb);clear hb))
  refine bodyPost_ret (v := .tuple #[.slice none 0 0,.int .i64 1]) (by simp [results,Try.results20,go_sem]) rfl ⟨rfl,B2.out⟩
set_option maxHeartbeats 4000000 in
set_option maxRecDepth 100000 in
theorem stell_id (self id home : Int) (r : Nat) (A : Option Addr) (c : Nat) (l : List S58) (w : World) (h0 : okId self = false) :
    Calls Try.prog 20 #[.int .i64 self,.agg #[.int .i64 id,.int .i64 home,.float .f64 r],.slice A l.length c] w fun e w' => e = .returned (.tuple #[.slice none 0 0,.int .i64 20]) ∧ Below w.heap.size w w' := by
  have hu34 := Try.underlying34
  have HN := Aside0.mk (numS self)
  rw [h0] at HN
  clear h0
  go_enter Try.func20,Try.ntmps20
  go_upto_region 1 with fail
  obtain ⟨w0,hw0⟩ : ∃ w0,w0 = w.alloc (.cells #[.int .i64 id,.int .i64 home,.float .f64 r] 34) := ⟨_,rfl⟩
  have B0 : Aside0 (Below w.heap.size w w0) := ⟨by rw [hw0];exact below_alloc (Below.refl _ _) _⟩
  rw [← hw0]
  clear hw0
  go_wp2_with (go_at_call 54;refine (scopedv_number.calls _ _ _ HN.out).mono ?_;rintro e w1 ⟨rfl,hd⟩;have B1 := Aside0.mk (below_then B0.out B0.out.size hd.below);clear hd)
  refine bodyPost_ret (v := .tuple #[.slice none 0 0,.int .i64 20]) (by simp [results,Try.results20,go_sem]) rfl ⟨rfl,B1.out⟩
set_option maxHeartbeats 8000000 in
set_option maxRecDepth 100000 in
theorem stell_good (self id home : Int) (r : Nat) (A : Option Addr) (c : Nat) (l : List S58) (w : World) (hr : Kd.C k58 w A l.length l) (hc : l.length ≤ c) (hw : EntsW l) (hl : l.length < 2932031007402) (hx : r < 18446744073709551616) (h0 : okId self = true) (h1 : okHome self id home r = true) :
    Calls Try.prog 20 #[.int .i64 self,.agg #[.int .i64 id,.int .i64 home,.float .f64 r],.slice A l.length c] w fun e w' => ∃ v : Value,e = .returned (.tuple #[v,.int .i64 (bif ballsFrom self l l.length 0 then 0 else 1)]) ∧ Kd.R k56 56 w' w.heap.size (fun _ => True) v (bif ballsFrom self l l.length 0 then sortN (newsTo self home r l l.length) else []) ∧ Below w.heap.size w w' := by
  have hu34 := Try.underlying34
  have hu56 := Try.underlying56
  have hu58 := Try.underlying58
  have HR := Aside0.mk hr
  have HC := Aside0.mk hc
  have HW := Aside0.mk hw
  have LL := Aside0.mk hl
  have OKS := Aside0.mk h0
  have HN := Aside0.mk (numS self)
  rw [h0] at HN
  have HH := Aside0.mk (homed_all self id home r 9 hx (Nat.le_refl _))
  rw [h1] at HH
  clear hr hc hw h0 h1 hl hx
  go_enter Try.func20,Try.ntmps20
  go_upto_region 1 with fail
  obtain ⟨w0,hw0⟩ : ∃ w0,w0 = w.alloc (.cells #[.int .i64 id,.int .i64 home,.float .f64 r] 34) := ⟨_,rfl⟩
  obtain ⟨p,hp⟩ : ∃ p,p = w.heap.size := ⟨_,rfl⟩
  have B0 : Aside0 (Below w.heap.size w w0) := ⟨by rw [hw0];exact below_alloc (Below.refl _ _) _⟩
  have P0 : Aside0 (w0.heap[p]? = some (.cells #[.int .i64 id,.int .i64 home,.float .f64 r] 34 (0,0))) := ⟨by rw [hw0,hp];exact al_new _ _⟩
  rw [← hw0,← hp]
  clear hw0 hp
  go_upto_if 21 with (first | (go_at_call 54;refine (scopedv_number.calls _ _ _ HN.out).mono ?_;rintro e w1 ⟨rfl,hd⟩;have B1 := Aside0.mk (below_then B0.out B0.out.size hd.below);have P1 := Aside0.mk (blk_below P0.out hd.below);clear hd;have n0 : w1.cell? ⟨p,0,none⟩ = some (.int .i64 id) := (blk_cell P1.out 0).trans rfl;have n1 : w1.cell? ⟨p,1,none⟩ = some (.int .i64 home) := (blk_cell P1.out 1).trans rfl;have n2 : w1.cell? ⟨p,2,none⟩ = some (.float .f64 r) := (blk_cell P1.out 2).trans rfl) | (go_at_call 55;refine (scopedv_homed.calls _ _ _ _ _ _ _ HH.out).mono ?_;rintro e w2 ⟨rfl,hb⟩;have B2 := Aside0.mk (below_then B1.out B1.out.size hb);have P2 := Aside0.mk (blk_below P1.out hb);clear hb n0 n1 n2;have m1 : w2.cell? ⟨p,1,none⟩ = some (.int .i64 home) := (blk_cell P2.out 1).trans rfl;have m2 : w2.cell? ⟨p,2,none⟩ = some (.float .f64 r) := (blk_cell P2.out 2).trans rfl))
  go_cut [8] from 21 to 30 (fun s8 wx => Aside0 (TInv w wx s8 (newsTo self home r l 0)))
  case first =>
    by_cases hhs : home = self
    · have hb : (home != self) = false := by simp [hhs]
      have E0 : Aside0 (newsTo self home r l 0 = []) := ⟨by unfold newsTo ownN;rw [if_pos hhs];simp⟩
      clear hhs
      go_wp2_with fail
      go_meet
      exact ⟨by rw [E0.out];exact ⟨Kd.R_nil _ _ _ _ _,B2.out⟩⟩
    have hb : (home != self) = true := by simpa using hhs
    have E0 : Aside0 (newsTo self home r l 0 = [] ++ [⟨self,2,0,r,home⟩]) := ⟨by unfold newsTo ownN;rw [if_neg hhs];simp⟩
    clear hhs
    go_wp2_with ((with_reducible refine gate_builtin (b := .append) (xs := #[.tmp 22,.tmp 29]) rfl ?_);at_builtin;refine Kd.R_append k56 (w0 := w) w.heap.size rfl (.tmp 22) (.tmp 29) 35 56 (.agg #[(.int .i64 0),(.int .i64 0),(.float .f64 0),(.float .f64 0),(.int .i64 0)]) 40 rfl Try.underlying35 info56 rfl (by decide) (by omega) (.slice none 0 0) [] ⟨self,2,0,r,home⟩ [.int .i64 self,.int .i64 2,.float .f64 0,.float .f64 r,.int .i64 home] (fun _ => True) (fun _ => False) rfl (by first | rfl | (simp [Act.eval,Act.put];done)) ?aP (fun _ hk => hk.elim) ?aF ?aO ?aB ?aS ?aL ?_;(case aP => exact k56_mkM _ _ _ (⟨self,2,0,r,home⟩ : S56));(case aF => exact fun _ _ => trivial);(case aO => exact Kd.R_nil _ _ _ _ _);(case aB => exact B2.out);(case aS => exact B2.out.size);(case aL => simp);intro v3 w3 ho hb3 hg3 hat;have K3 : Aside0 (TInv w w3 v3 (newsTo self home r l 0)) := ⟨by rw [E0.out];exact ⟨ho,hb3⟩⟩;clear ho hb3 hg3 hat)
    go_meet
    exact K3
  case rest =>
  have I0 := hcut
  clear hcut m1 m2
  go_wp2_with fail
  go_loopg [8,33] l.length (fun kq v8 v33 wr => ∃ i : Nat,v33 = .int .i64 (i : Int) ∧ i + kq = l.length ∧ Aside0 (ballsFrom self l l.length 0 = ballsFrom self l (l.length - i) i) ∧ Aside0 (∀ j,j < i → ballAt self l j = true) ∧ Aside0 (TInv w wr v8 (newsTo self home r l i)))
  case atStart => exact ⟨0,rfl,by simp,⟨by simp⟩,⟨fun j hj => absurd hj (Nat.not_lt_zero _)⟩,I0⟩
  case round =>
    obtain ⟨i,rfl,hi,HE,HA,HT⟩ := hrel
    have hbl := LL.out
    by_cases hil : i < l.length
    rotate_left
    · obtain rfl : i = l.length := by omega
      have HB : Aside0 (ballsFrom self l l.length 0 = true) := ⟨by rw [HE.out,Nat.sub_self];rfl⟩
      obtain ⟨P,hP⟩ : ∃ P,newsTo self home r l l.length = P := ⟨_,rfl⟩
      have HT2 := HT.out
      have hsm := news_small (home := home) (r := r) OKS.out HB.out l.length
      have hnd := news_dests (home := home) (r := r) HB.out
      have hln := newsTo_len self home r l l.length
      rw [hP] at HT2 hsm hnd hln
      have HP := Aside0.mk hP
      obtain ⟨A',c',rfl⟩ := Kd.R_slice HT2.1
      have HT3 := Aside0.mk HT2
      have HSM := Aside0.mk hsm
      have HND := Aside0.mk hnd
      have HLN := Aside0.mk hln
      clear HT HT2 hsm hnd hln hP
      go_wp2_with (go_at_call 57;refine (sort_news (fn := 58) (fun args w => enters_ Try.func58 (by kernel_rfl) rfl args w) orderN_58 HT3.out.1 HT3.out.2.size HSM.out (List.Perm.refl _) HND.out (by have := HLN.out;omega)).mono ?_;rintro e w5 ⟨rfl,hb,hc⟩;have B5 := Aside0.mk (HT3.out.2.trans hb);have C5 := Aside0.mk hc;clear hb hc)
      refine bodyPost_ret (v := .tuple #[.slice A' P.length c',.int .i64 0]) (by simp [results,Try.results20,go_sem]) rfl ?_
      exact ⟨.slice A' (sortN P).length c',by rw [HB.out,sortN_len];rfl,by rw [HB.out,HP.out];exact C5.out,B5.out⟩
    have hiz : (i : Int) < (l.length : Int) := by omega
    obtain ⟨ad,e0,x0,x1,x2,x3,x4,x5⟩ := at_T58 (Kd.C_below HR.out HT.out.2) (i : Int) (by omega) hiz
    rw [rde,Int.toNat_natCast] at x0 x1 x2 x3 x4 x5
    obtain ⟨x,hxe⟩ : ∃ x,l.getD i z58 = x := ⟨_,rfl⟩
    rw [hxe] at x0 x1 x2 x3 x4 x5
    have hwx := HW.out.at i hil
    rw [hxe] at hwx
    have XE := Aside0.mk hxe
    have HWX := Aside0.mk hwx
    clear hxe hwx
    have hAe := e0
    subst e0
    obtain ⟨q,hq⟩ : ∃ q,q = wr.heap.size := ⟨_,rfl⟩
    obtain ⟨w6,hw6⟩ : ∃ w6,w6 = wr.alloc (.cells #[.int .i64 x.f0,.int .i64 x.f1,.float .f64 x.f2,.int .i64 x.f3,.float .f64 x.f4,.int .i64 x.f5] 58) := ⟨_,rfl⟩
    have B6 : Below wr.heap.size wr w6 := by rw [hw6];exact below_alloc (Below.refl _ _) _
    have T6 := Aside0.mk (HT.out.below B6)
    have Q6 : Aside0 (w6.heap[q]? = some (.cells #[.int .i64 x.f0,.int .i64 x.f1,.float .f64 x.f2,.int .i64 x.f3,.float .f64 x.f4,.int .i64 x.f5] 58 (0,0))) := ⟨by rw [hw6,hq];exact al_new _ _⟩
    clear B6
    go_upto_region 11 with fail
    rw [← hw6,← hq]
    clear hw6 hq x0 x1 x2 x3 x4 x5
    have y0 : w6.cell? ⟨q,0,none⟩ = some (.int .i64 x.f0) := (blk_cell Q6.out 0).trans rfl
    have y1 : w6.cell? ⟨q,1,none⟩ = some (.int .i64 x.f1) := (blk_cell Q6.out 1).trans rfl
    have y2 : w6.cell? ⟨q,2,none⟩ = some (.float .f64 x.f2) := (blk_cell Q6.out 2).trans rfl
    have y3 : w6.cell? ⟨q,3,none⟩ = some (.int .i64 x.f3) := (blk_cell Q6.out 3).trans rfl
    have y4 : w6.cell? ⟨q,4,none⟩ = some (.float .f64 x.f4) := (blk_cell Q6.out 4).trans rfl
    have y5 : w6.cell? ⟨q,5,none⟩ = some (.int .i64 x.f5) := (blk_cell Q6.out 5).trans rfl
    go_cut [55] from 38 to 55 (fun s55 wx => s55 = .bool (!(ballAt self l i)) ∧ Aside0 (TInv w wx u8 (newsTo self home r l i) ∧ wx.heap[q]? = some (.cells #[.int .i64 x.f0,.int .i64 x.f1,.float .f64 x.f2,.int .i64 x.f3,.float .f64 x.f4,.int .i64 x.f5] 58 (0,0))))
    case first =>
      obtain ⟨bo,hbo⟩ : ∃ bo,okBall self x = bo := ⟨_,rfl⟩
      have HBL := Aside0.mk (ball_all self x 11 HWX.out.1 HWX.out.2 (Nat.le_refl _))
      rw [hbo] at HBL
      cases bo with
      | false =>
        have BA : Aside0 (ballAt self l i = false) := ⟨by unfold ballAt;rw [XE.out,hbo];rfl⟩
        clear hbo
        skip
        refine start_ (n := 18) (S := fun w' => w'.cell? ⟨q,0,none⟩ = some (.int .i64 x.f0) ∧ w'.cell? ⟨q,1,none⟩ = some (.int .i64 x.f1) ∧ w'.cell? ⟨q,2,none⟩ = some (.float .f64 x.f2) ∧ w'.cell? ⟨q,3,none⟩ = some (.int .i64 x.f3) ∧ w'.cell? ⟨q,4,none⟩ = some (.float .f64 x.f4) ∧ w'.cell? ⟨q,5,none⟩ = some (.int .i64 x.f5)) (ds := []) #[false,false,false,false,false,false,false,false,false,false,false,false,false,false,false,false,false,false] (by kernel_rfl) rfl rfl ⟨y0,y1,y2,y3,y4,y5⟩ (fun hHeld => ?_)
        refine manyD_ (fuel := 16) (a' := ?_) ((0,0) :: (1,2) :: []) #[true,true,false,false,false,false,false,false,false,false,false,false,false,false,false,false,false,false] rfl (by kernel_rfl) (fun _ _ _ _ _ h => h) (fun _ => hHeld) ?_ ?_
        rotate_left
        · repeat (first | exact Chain.nil _ | (apply Chain.on;rfl;rfl;(focus intro w';go_simp;with_reducible rfl);(focus simp only [Act.put,List.setIfInBounds_toArray,List.set_cons_zero,List.set_cons_succ,i64_w,i32_w];rfl)) | (apply Chain.take;rfl;rfl;(focus rintro w' ⟨s0,s1,s2,s3,s4,s5⟩;go_simp;with_reducible rfl);(focus simp only [Act.put,List.setIfInBounds_toArray,List.set_cons_zero,List.set_cons_succ,i64_w,i32_w];rfl)))
        refine one_ (i := 2) (N := some 40) #[true,true,true,false,false,false,false,false,false,false,false,false,false,false,false,false,false,false] rfl rfl (by kernel_rfl) (by decide) (fun K hK => ?_)
        refine goes_ Try.func56 (by kernel_rfl) rfl #[.int .i64 self,.agg #[.int .i64 x.f0,.int .i64 x.f1,.float .f64 x.f2,.int .i64 x.f3,.float .f64 x.f4,.int .i64 x.f5]] (by rfl) rfl rfl (by simp only [List.map_toArray,List.map_cons,List.map_nil];rfl) ?_
        with_reducible refine (scopedv_ball.calls 11 _ _ _ _ _ _ _ _ _ HBL.out).mono ?_
        rintro e w7 ⟨rfl,hb⟩
        refine ⟨_,rfl,?_⟩
        have hb6 := below_then (below_drew (Below.refl w6.heap.size w6)) (Nat.le_refl _) hb
        have T7 := Aside0.mk (T6.out.below hb6)
        have Q7 := Aside0.mk (blk_below Q6.out hb6)
        have HB7 := Aside0.mk hb6
        clear hb hb6
        refine hK.out _ _ ⟨((blk_cell Q7.out 0).trans rfl),((blk_cell Q7.out 1).trans rfl),((blk_cell Q7.out 2).trans rfl),((blk_cell Q7.out 3).trans rfl),((blk_cell Q7.out 4).trans rfl),((blk_cell Q7.out 5).trans rfl)⟩ (fun hHeld => ?_)
        clear hK K
        refine norm_ (a' := ?_) ?_ ?_
        rotate_left
        · show Act.put _ (some 40) _ = _
          simp only [Act.put,List.setIfInBounds_toArray,List.set_cons_zero,List.set_cons_succ,i64_w,i32_w]
          rfl
        refine manyD_ (fuel := 0) (a' := ?_) ((3,0) :: (4,0) :: (5,1) :: (6,1) :: (7,1) :: (8,1) :: (9,1) :: (10,1) :: (11,1) :: (12,1) :: (13,1) :: (14,1) :: (15,1) :: (16,1) :: (17,0) :: []) #[true,true,true,true,true,true,true,true,true,true,true,true,true,true,true,true,true,true] rfl (by kernel_rfl) (fun _ _ _ _ _ h => h) (fun h => absurd h (by decide)) ?_ ?_
        rotate_left
        · repeat (first | exact Chain.nil _ | (apply Chain.on;rfl;rfl;(focus intro w';go_simp;with_reducible rfl);(focus simp only [Act.put,List.setIfInBounds_toArray,List.set_cons_zero,List.set_cons_succ,i64_w,i32_w];rfl)) | (apply Chain.off;rfl;rfl;(focus simp only [Act.put,List.setIfInBounds_toArray,List.set_cons_zero,List.set_cons_succ,i64_w,i32_w];rfl)))
        refine done_ (by kernel_rfl) ?_
        go_wp2_with fail
        go_meet
        exact ⟨by rw [BA.out];rfl,⟨T7.out,Q7.out⟩⟩
      | true =>
        by_cases hi0 : i = 0
        · have BA : Aside0 (ballAt self l i = true) := ⟨by unfold ballAt;rw [XE.out,hbo,hi0];rfl⟩
          have hd0 : decide ((i : Int) > 0) = false := decide_eq_false (by omega)
          have hd1 : decide ((0 : Int) < (i : Int)) = false := decide_eq_false (by omega)
          have hd2 : (0 < i) = False := eq_false (by omega)
          clear hbo hi0
          refine start_ (n := 18) (S := fun w' => w'.cell? ⟨q,0,none⟩ = some (.int .i64 x.f0) ∧ w'.cell? ⟨q,1,none⟩ = some (.int .i64 x.f1) ∧ w'.cell? ⟨q,2,none⟩ = some (.float .f64 x.f2) ∧ w'.cell? ⟨q,3,none⟩ = some (.int .i64 x.f3) ∧ w'.cell? ⟨q,4,none⟩ = some (.float .f64 x.f4) ∧ w'.cell? ⟨q,5,none⟩ = some (.int .i64 x.f5)) (ds := []) #[false,false,false,false,false,false,false,false,false,false,false,false,false,false,false,false,false,false] (by kernel_rfl) rfl rfl ⟨y0,y1,y2,y3,y4,y5⟩ (fun hHeld => ?_)
          refine manyD_ (fuel := 16) (a' := ?_) ((0,0) :: (1,2) :: []) #[true,true,false,false,false,false,false,false,false,false,false,false,false,false,false,false,false,false] rfl (by kernel_rfl) (fun _ _ _ _ _ h => h) (fun _ => hHeld) ?_ ?_
          rotate_left
          · repeat (first | exact Chain.nil _ | (apply Chain.on;rfl;rfl;(focus intro w';go_simp;with_reducible rfl);(focus simp only [Act.put,List.setIfInBounds_toArray,List.set_cons_zero,List.set_cons_succ,i64_w,i32_w];rfl)) | (apply Chain.take;rfl;rfl;(focus rintro w' ⟨s0,s1,s2,s3,s4,s5⟩;go_simp;with_reducible rfl);(focus simp only [Act.put,List.setIfInBounds_toArray,List.set_cons_zero,List.set_cons_succ,i64_w,i32_w];rfl)))
          refine one_ (i := 2) (N := some 40) #[true,true,true,false,false,false,false,false,false,false,false,false,false,false,false,false,false,false] rfl rfl (by kernel_rfl) (by decide) (fun K hK => ?_)
          refine goes_ Try.func56 (by kernel_rfl) rfl #[.int .i64 self,.agg #[.int .i64 x.f0,.int .i64 x.f1,.float .f64 x.f2,.int .i64 x.f3,.float .f64 x.f4,.int .i64 x.f5]] (by rfl) rfl rfl (by simp only [List.map_toArray,List.map_cons,List.map_nil];rfl) ?_
          with_reducible refine (scopedv_ball.calls 11 _ _ _ _ _ _ _ _ _ HBL.out).mono ?_
          rintro e w7 ⟨rfl,hb⟩
          refine ⟨_,rfl,?_⟩
          have hb6 := below_then (below_drew (Below.refl w6.heap.size w6)) (Nat.le_refl _) hb
          have T7 := Aside0.mk (T6.out.below hb6)
          have Q7 := Aside0.mk (blk_below Q6.out hb6)
          have HB7 := Aside0.mk hb6
          clear hb hb6
          refine hK.out _ _ ⟨((blk_cell Q7.out 0).trans rfl),((blk_cell Q7.out 1).trans rfl),((blk_cell Q7.out 2).trans rfl),((blk_cell Q7.out 3).trans rfl),((blk_cell Q7.out 4).trans rfl),((blk_cell Q7.out 5).trans rfl)⟩ (fun hHeld => ?_)
          clear hK K
          refine norm_ (a' := ?_) ?_ ?_
          rotate_left
          · show Act.put _ (some 40) _ = _
            simp only [Act.put,List.setIfInBounds_toArray,List.set_cons_zero,List.set_cons_succ,i64_w,i32_w]
            rfl
          refine manyD_ (fuel := 0) (a' := ?_) ((3,0) :: (4,0) :: (5,0) :: (6,0) :: (7,0) :: (8,1) :: (9,1) :: (10,1) :: (11,1) :: (12,1) :: (13,1) :: (14,1) :: (15,1) :: (16,0) :: (17,0) :: []) #[true,true,true,true,true,true,true,true,true,true,true,true,true,true,true,true,true,true] rfl (by kernel_rfl) (fun _ _ _ _ _ h => h) (fun h => absurd h (by decide)) ?_ ?_
          rotate_left
          · repeat (first | exact Chain.nil _ | (apply Chain.on;rfl;rfl;(focus intro w';go_simp;with_reducible rfl);(focus simp only [Act.put,List.setIfInBounds_toArray,List.set_cons_zero,List.set_cons_succ,i64_w,i32_w];rfl)) | (apply Chain.off;rfl;rfl;(focus simp only [Act.put,List.setIfInBounds_toArray,List.set_cons_zero,List.set_cons_succ,i64_w,i32_w];rfl)))
          refine done_ (by kernel_rfl) ?_
          go_wp2_with fail
          go_meet
          exact ⟨by rw [BA.out];rfl,⟨T7.out,Q7.out⟩⟩
        have hd0 : decide ((0 : Int) < (i : Int)) = true := decide_eq_true (by omega)
        have hd2 : (0 < i) = True := eq_true (by omega)
        obtain ⟨z,hz⟩ : ∃ z,l.getD (i - 1) z58 = z := ⟨_,rfl⟩
        have hzb : okBall self z = true := by
          have := HA.out (i - 1) (by omega)
          unfold ballAt at this
          rw [Bool.and_eq_true,hz] at this
          exact this.1
        obtain ⟨ro,hro,hsg⟩ := order_sign hzb hbo
        have BA : Aside0 (decide (0 ≤ ro) = !(ballAt self l i)) := ⟨by rw [hsg];unfold ballAt;rw [XE.out,hbo,hz];simp [hi0]⟩
        have HRO := Aside0.mk hro
        obtain ⟨k,hk⟩ : ∃ k : Nat,k = i - 1 := ⟨_,rfl⟩
        have hpw : IntKind.i64.wrap ((i : Int) - 1) = (k : Int) := by rw [i64_w,w64n (by omega) (by omega)];omega
        have hpw2 : wrap64 ((i : Int) - 1) = (k : Int) := by rw [← i64_w];exact hpw
        have hkl : k < l.length := by omega
        obtain ⟨ad2,e1,zz0,zz1,zz2,zz3,zz4,zz5⟩ := at_T58 (Kd.C_below HR.out T6.out.2) (k : Int) (by omega) (by omega)
        cases e1
        rw [rde,Int.toNat_natCast,show l.getD k z58 = z by rw [hk];exact hz] at zz0 zz1 zz2 zz3 zz4 zz5
        have hkz : (k : Int) < (l.length : Int) := by omega
        clear hbo hzb hro hsg hz hi0 hk
        refine start_ (n := 18) (S := fun w' => w'.cell? ⟨q,0,none⟩ = some (.int .i64 x.f0) ∧ w'.cell? ⟨q,1,none⟩ = some (.int .i64 x.f1) ∧ w'.cell? ⟨q,2,none⟩ = some (.float .f64 x.f2) ∧ w'.cell? ⟨q,3,none⟩ = some (.int .i64 x.f3) ∧ w'.cell? ⟨q,4,none⟩ = some (.float .f64 x.f4) ∧ w'.cell? ⟨q,5,none⟩ = some (.int .i64 x.f5) ∧ w'.cell? (ad.add (k * 6)) = some (.int .i64 z.f0) ∧ w'.cell? ⟨(ad.add (k * 6)).block,(ad.add (k * 6)).off + 1,none⟩ = some (.int .i64 z.f1) ∧ w'.cell? ⟨(ad.add (k * 6)).block,(ad.add (k * 6)).off + 2,none⟩ = some (.float .f64 z.f2) ∧ w'.cell? ⟨(ad.add (k * 6)).block,(ad.add (k * 6)).off + 3,none⟩ = some (.int .i64 z.f3) ∧ w'.cell? ⟨(ad.add (k * 6)).block,(ad.add (k * 6)).off + 4,none⟩ = some (.float .f64 z.f4) ∧ w'.cell? ⟨(ad.add (k * 6)).block,(ad.add (k * 6)).off + 5,none⟩ = some (.int .i64 z.f5)) (ds := []) #[false,false,false,false,false,false,false,false,false,false,false,false,false,false,false,false,false,false] (by kernel_rfl) rfl rfl ⟨y0,y1,y2,y3,y4,y5,zz0,zz1,zz2,zz3,zz4,zz5⟩ (fun hHeld => ?_)
        refine manyD_ (fuel := 16) (a' := ?_) ((0,0) :: (1,2) :: []) #[true,true,false,false,false,false,false,false,false,false,false,false,false,false,false,false,false,false] rfl (by kernel_rfl) (fun _ _ _ _ _ h => h) (fun _ => hHeld) ?_ ?_
        rotate_left
        · repeat (first | exact Chain.nil _ | (apply Chain.on;rfl;rfl;(focus intro w';go_simp;with_reducible rfl);(focus simp only [Act.put,List.setIfInBounds_toArray,List.set_cons_zero,List.set_cons_succ,i64_w,i32_w];rfl)) | (apply Chain.take;rfl;rfl;(focus rintro w' ⟨s0,s1,s2,s3,s4,s5,s6,s7,s8,s9,s10,s11⟩;go_simp;with_reducible rfl);(focus simp only [Act.put,List.setIfInBounds_toArray,List.set_cons_zero,List.set_cons_succ,i64_w,i32_w];rfl)))
        refine one_ (i := 2) (N := some 40) #[true,true,true,false,false,false,false,false,false,false,false,false,false,false,false,false,false,false] rfl rfl (by kernel_rfl) (by decide) (fun K hK => ?_)
        refine goes_ Try.func56 (by kernel_rfl) rfl #[.int .i64 self,.agg #[.int .i64 x.f0,.int .i64 x.f1,.float .f64 x.f2,.int .i64 x.f3,.float .f64 x.f4,.int .i64 x.f5]] (by rfl) rfl rfl (by simp only [List.map_toArray,List.map_cons,List.map_nil];rfl) ?_
        with_reducible refine (scopedv_ball.calls 11 _ _ _ _ _ _ _ _ _ HBL.out).mono ?_
        rintro e w7 ⟨rfl,hb⟩
        refine ⟨_,rfl,?_⟩
        have hb6 := below_then (below_drew (Below.refl w6.heap.size w6)) (Nat.le_refl _) hb
        have T7 := Aside0.mk (T6.out.below hb6)
        have Q7 := Aside0.mk (blk_below Q6.out hb6)
        have HB7 := Aside0.mk hb6
        clear hb hb6
        refine hK.out _ _ ⟨((blk_cell Q7.out 0).trans rfl),((blk_cell Q7.out 1).trans rfl),((blk_cell Q7.out 2).trans rfl),((blk_cell Q7.out 3).trans rfl),((blk_cell Q7.out 4).trans rfl),((blk_cell Q7.out 5).trans rfl),(pw_cell_below HB7.out zz0),(pw_cell_below HB7.out zz1),(pw_cell_below HB7.out zz2),(pw_cell_below HB7.out zz3),(pw_cell_below HB7.out zz4),(pw_cell_below HB7.out zz5)⟩ (fun hHeld => ?_)
        clear hK K
        refine norm_ (a' := ?_) ?_ ?_
        rotate_left
        · show Act.put _ (some 40) _ = _
          simp only [Act.put,List.setIfInBounds_toArray,List.set_cons_zero,List.set_cons_succ,i64_w,i32_w]
          rfl
        refine manyD_ (fuel := 4) (a' := ?_) ((3,0) :: (4,0) :: (5,0) :: (6,0) :: (7,0) :: (8,0) :: (9,0) :: (10,0) :: (11,0) :: (12,2) :: (13,2) :: []) #[true,true,true,true,true,true,true,true,true,true,true,true,true,true,false,false,false,false] rfl (by kernel_rfl) (fun _ _ _ _ _ h => h) (fun _ => hHeld) ?_ ?_
        rotate_left
        · repeat (first | exact Chain.nil _ | (apply Chain.on;rfl;rfl;(focus intro w';go_simp;with_reducible rfl);(focus simp only [Act.put,List.setIfInBounds_toArray,List.set_cons_zero,List.set_cons_succ,i64_w,i32_w];rfl)) | (apply Chain.take;rfl;rfl;(focus rintro w' ⟨s0,s1,s2,s3,s4,s5,s6,s7,s8,s9,s10,s11⟩;go_simp;with_reducible rfl);(focus simp only [Act.put,List.setIfInBounds_toArray,List.set_cons_zero,List.set_cons_succ,i64_w,i32_w];rfl)))
        refine one_ (i := 14) (N := some 52) #[true,true,true,true,true,true,true,true,true,true,true,true,true,true,true,false,false,false] rfl rfl (by kernel_rfl) (by decide) (fun K hK => ?_)
        refine goes_ Try.func35 (by kernel_rfl) rfl #[.agg #[.int .i64 z.f0,.int .i64 z.f1,.float .f64 z.f2,.int .i64 z.f3,.float .f64 z.f4,.int .i64 z.f5],.agg #[.int .i64 x.f0,.int .i64 x.f1,.float .f64 x.f2,.int .i64 x.f3,.float .f64 x.f4,.int .i64 x.f5]] (by rfl) rfl rfl (by simp only [List.map_toArray,List.map_cons,List.map_nil];rfl) ?_
        with_reducible refine (scopedv_order.calls _ _ _ _ _ _ _ _ _ _ _ _ _ _ HRO.out).mono ?_
        rintro e w8 ⟨rfl,hb⟩
        refine ⟨_,rfl,?_⟩
        have HB8 := Aside0.mk (below_then HB7.out HB7.out.size hb)
        have T8 := Aside0.mk (T7.out.below hb)
        have Q8 := Aside0.mk (blk_below Q7.out hb)
        clear hb
        refine hK.out _ _ ⟨((blk_cell Q8.out 0).trans rfl),((blk_cell Q8.out 1).trans rfl),((blk_cell Q8.out 2).trans rfl),((blk_cell Q8.out 3).trans rfl),((blk_cell Q8.out 4).trans rfl),((blk_cell Q8.out 5).trans rfl),(pw_cell_below HB8.out zz0),(pw_cell_below HB8.out zz1),(pw_cell_below HB8.out zz2),(pw_cell_below HB8.out zz3),(pw_cell_below HB8.out zz4),(pw_cell_below HB8.out zz5)⟩ (fun hHeld => ?_)
        clear hK K
        refine norm_ (a' := ?_) ?_ ?_
        rotate_left
        · show Act.put _ (some 52) _ = _
          simp only [Act.put,List.setIfInBounds_toArray,List.set_cons_zero,List.set_cons_succ,i64_w,i32_w]
          rfl
        refine manyD_ (fuel := 0) (a' := ?_) ((15,0) :: (16,0) :: (17,0) :: []) #[true,true,true,true,true,true,true,true,true,true,true,true,true,true,true,true,true,true] rfl (by kernel_rfl) (fun _ _ _ _ _ h => h) (fun h => absurd h (by decide)) ?_ ?_
        rotate_left
        · repeat (first | exact Chain.nil _ | (apply Chain.on;rfl;rfl;(focus intro w';go_simp;with_reducible rfl);(focus simp only [Act.put,List.setIfInBounds_toArray,List.set_cons_zero,List.set_cons_succ,i64_w,i32_w];rfl)))
        refine done_ (by kernel_rfl) ?_
        go_wp2_with fail
        go_meet
        exact ⟨by first | rw [BA.out] | simp [BA.out],⟨T8.out,Q8.out⟩⟩
    case rest =>
      obtain ⟨rfl,I6⟩ := hcut
      clear y0 y1 y2 y3 y4 y5
      obtain ⟨ba,hba⟩ : ∃ ba,ballAt self l i = ba := ⟨_,rfl⟩
      have HE2 : Aside0 (ballsFrom self l l.length 0 = (ba && ballsFrom self l (l.length - (i + 1)) (i + 1))) := ⟨by rw [HE.out,show l.length - i = (l.length - (i + 1)) + 1 by omega,ballsFrom,hba]⟩
      rw [hba]
      have HBA := Aside0.mk hba
      clear hba
      cases ba with
      | false =>
        have HE3 := Aside0.mk (HE2.out.trans (Bool.false_and _))
        go_wp2_with fail
        refine bodyPost_ret (v := .tuple #[.slice none 0 0,.int .i64 1]) (by simp [results,Try.results20,go_sem]) rfl ⟨.slice none 0 0,by rw [HE3.out];rfl,by rw [HE3.out];exact Kd.R_nil _ _ _ _ _,I6.out.1.2⟩
      | true =>
        have HE3 := Aside0.mk (HE2.out.trans (Bool.true_and _))
        have HA3 : Aside0 (∀ j,j < i + 1 → ballAt self l j = true) := ⟨fun j hj => by rcases Nat.lt_succ_iff_lt_or_eq.1 hj with h | h;exact HA.out j h;rw [h];exact HBA.out⟩
        have LN := Aside0.mk (newsTo_len self home r l i)
        have y0 : wc.cell? ⟨q,0,none⟩ = some (.int .i64 x.f0) := (blk_cell I6.out.2 0).trans rfl
        have y1 : wc.cell? ⟨q,1,none⟩ = some (.int .i64 x.f1) := (blk_cell I6.out.2 1).trans rfl
        have y2 : wc.cell? ⟨q,2,none⟩ = some (.float .f64 x.f2) := (blk_cell I6.out.2 2).trans rfl
        have y3 : wc.cell? ⟨q,3,none⟩ = some (.int .i64 x.f3) := (blk_cell I6.out.2 3).trans rfl
        have y4 : wc.cell? ⟨q,4,none⟩ = some (.float .f64 x.f4) := (blk_cell I6.out.2 4).trans rfl
        have y5 : wc.cell? ⟨q,5,none⟩ = some (.int .i64 x.f5) := (blk_cell I6.out.2 5).trans rfl
        by_cases hk : x.f1 = 2
        · have hb : (x.f1 == 2) = true := by simp [hk]
          have E1 : Aside0 (newsTo self home r l (i + 1) = newsTo self home r l i ++ [⟨x.f0,2,x.f2,x.f4,x.f5⟩]) := ⟨by rw [newsTo_next _ _ _ _ _ hil,XE.out,newsOf,if_pos hk];rfl⟩
          clear hk
          go_wp2_with ((with_reducible refine gate_builtin (b := .append) (xs := #[.tmp 59,.tmp 69]) rfl ?_);at_builtin;refine Kd.R_append k56 (w0 := w) w.heap.size rfl (.tmp 59) (.tmp 69) 35 56 (.agg #[(.int .i64 0),(.int .i64 0),(.float .f64 0),(.float .f64 0),(.int .i64 0)]) 40 rfl Try.underlying35 info56 rfl (by decide) (by omega) u8 (newsTo self home r l i) ⟨x.f0,2,x.f2,x.f4,x.f5⟩ [.int .i64 x.f0,.int .i64 2,.float .f64 x.f2,.float .f64 x.f4,.int .i64 x.f5] (fun _ => True) (fun _ => False) rfl (by first | rfl | (simp [Act.eval,Act.put];done)) ?aP (fun _ hk => hk.elim) ?aF ?aO ?aB ?aS ?aL ?_;(case aP => exact k56_mkM _ _ _ (⟨x.f0,2,x.f2,x.f4,x.f5⟩ : S56));(case aF => exact fun _ _ => trivial);(case aO => exact I6.out.1.1);(case aB => exact I6.out.1.2);(case aS => exact I6.out.1.2.size);(case aL => have := LN.out;omega);intro v3 w3 ho hb3 hg3 hat;have K3 : Aside0 (TInv w w3 v3 (newsTo self home r l (i + 1))) := ⟨by rw [E1.out];exact ⟨ho,hb3⟩⟩;clear ho hb3 hg3 hat)
          go_roundg (gk - 1)
          case measure => omega
          case rel => exact ⟨i + 1,by go_num,by omega,HE3,HA3,K3⟩
        have hb : (x.f1 == 2) = false := by simp [hk]
        have E1 : Aside0 (newsTo self home r l (i + 1) = newsTo self home r l i) := ⟨by rw [newsTo_next _ _ _ _ _ hil,XE.out,newsOf,if_neg hk];simp⟩
        clear hk
        go_wp2_with fail
        go_roundg (gk - 1)
        case measure => omega
        case rel => exact ⟨i + 1,by go_num,by omega,HE3,HA3,⟨by rw [E1.out];exact I6.out.1⟩⟩
end Go.Proofs.Ytjcnmpkaiopihaa.PA
