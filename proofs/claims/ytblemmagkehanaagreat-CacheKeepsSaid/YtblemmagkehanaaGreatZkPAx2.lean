/- Printed out of the program's form. Conditions: those that each theorem names. -/
import Derived.Test.YtblemmagkehanaaGreatZkMn
import Derived.Test.YtblemmagkehanaaGreatZkPAx0
namespace Go.Proofs.YtblemmagkehanaaGreat.PA
open Go.RowKit Go.Proofs.YtblemmagkehanaaGreatW.PrintWords Go.Proofs.YtblemmagkehanaaGreatW.PrintLast Go.Proofs.YtblemmagkehanaaGreatW.PrintMore
attribute [local go_sem] max2_int min2_int max_two min_two max_three min_three max_four min_four
set_option linter.unusedVariables false
set_option linter.unusedSimpArgs false
def beaconref13_place.l0:Nat → List (S43) → Int → Int → Option (Int)
 | 0,_,_,_ => none
 | k + 1,x0,x1,x5 => if x5 < (x0.length:Int) then (if 0 ≤ x5 then (if ((rd_T43 x0 x5).f0) = x1 then (some x5) else (beaconref13_place.l0 k x0 x1 (wrap64 (x5 + 1)))) else (none)) else (some (-1))
def beaconref13_place.f (k:Nat) (l0:List (S43)) (a1:Int):Option (Int):=beaconref13_place.l0 k l0 a1 0
set_option maxHeartbeats 8000000 in
set_option maxRecDepth 100000 in
theorem beaconref13_place.calls (k:Nat) (A0:Option Addr) (c0:Nat) (l0:List (S43)) (a1:Int) (r:Int) (w:World) (hr0:Kd.C k43 w A0 l0.length l0) (hc0:l0.length ≤ c0) (h:beaconref13_place.f k l0 a1 = some r) :
  Calls Tryz.prog 36 #[.slice A0 l0.length c0,.int .i64 a1] w fun e w' => e = .returned (.int .i64 r) ∧ Drawn0 w w':=by
 have HR0:=Aside0.mk hr0;have HC0:=Aside0.mk hc0;clear hr0 hc0;have H:(beaconref13_place.l0 k l0 a1 0) = some r:=h;clear h;have H':=Aside0.mk H;clear H;go_enter Tryz.func36,Tryz.ntmps36;go_wp2
 go_loopg [5] k (fun kq v5 w' => ∃ (x5_1:Int),v5 = .int .i64 x5_1 ∧ Aside0 (beaconref13_place.l0 kq l0 a1 x5_1 = some r) ∧ Aside0 (kq ≤ k) ∧ Drawn0 w w')
 case atStart => exact ⟨(0),(by first | rfl | (simp;done) | (simp [*];done)),H',⟨Nat.le_refl _⟩,by repeat (first | exact Drawn0.refl _ | apply Drawn0.step)⟩
 case round =>
  clear H';obtain ⟨x5_1,rfl,HA,HK1,⟨m1,rfl⟩⟩:=hrel
  cases gk with
  | zero => exact absurd HA.out (by simp [beaconref13_place.l0])
  | succ k1 =>
   have H:=HA.out;clear HA;simp only [beaconref13_place.l0] at H
   by_cases c3:x5_1 < (l0.length:Int)
   rotate_left
   ·rw [if_neg c3] at H
    have c3b0:decide (x5_1 < (l0.length:Int)) = false:=decide_eq_false c3;clear c3;obtain rfl:=Option.some.inj H;go_wp2;go_ret;exact ⟨by first | rfl | (simp;done) | (simp [*];done),by repeat (first | exact Drawn0.refl _ | apply Drawn0.step)⟩
   rw [if_pos c3] at H;have c3b0:decide (x5_1 < (l0.length:Int)) = true:=decide_eq_true c3;clear c3
   by_cases c4:0 ≤ x5_1
   rotate_left
   ·rw [if_neg c4] at H
    exact absurd H (by simp)
   rw [if_pos c4] at H;have c4b0:decide (0 ≤ x5_1) = true:=decide_eq_true c4;clear c4
   by_cases c5:((rd_T43 l0 x5_1).f0) = a1
   ·rw [if_pos c5] at H
    have c5b0:(((rd_T43 l0 x5_1).f0) == a1) = true:=beq_iff_eq.mpr c5;have c5b1:(((rd_T43 l0 x5_1).f0) != a1) = false:=bne_eq_false_iff_eq.mpr c5;clear c5;obtain rfl:=Option.some.inj H;have p101:0 ≤ (x5_1:Int):=of_decide_eq_true (by first | (with_reducible assumption) | assumption);have q101:x5_1 < (l0.length:Int):=of_decide_eq_true (by first | (with_reducible assumption) | assumption);obtain ⟨ad101,A101_2,c101_2,e101,hx101_0,hx101_1,hx101_2,hl101_2,hi101_2⟩:=at_T43 HR0.out x5_1 p101 q101
    cases e101
    have HR101_2:=Aside0.mk hi101_2;have HC101_2:=Aside0.mk hl101_2;clear hi101_2 hl101_2;replace p101:=eq_true p101;replace q101:=eq_true q101;go_wp2;go_ret;exact ⟨by first | rfl | (simp;done) | (simp [*];done),by repeat (first | exact Drawn0.refl _ | apply Drawn0.step)⟩
   rw [if_neg c5] at H;have c5b0:(((rd_T43 l0 x5_1).f0) == a1) = false:=beq_eq_false_iff_ne.mpr c5;have c5b1:(((rd_T43 l0 x5_1).f0) != a1) = true:=bne_iff_ne.mpr c5;have H':=Aside0.mk H;clear H;have p101:0 ≤ (x5_1:Int):=of_decide_eq_true (by first | (with_reducible assumption) | assumption);have q101:x5_1 < (l0.length:Int):=of_decide_eq_true (by first | (with_reducible assumption) | assumption);obtain ⟨ad101,A101_2,c101_2,e101,hx101_0,hx101_1,hx101_2,hl101_2,hi101_2⟩:=at_T43 HR0.out x5_1 p101 q101
   cases e101
   have HR101_2:=Aside0.mk hi101_2;have HC101_2:=Aside0.mk hl101_2;clear hi101_2 hl101_2;replace p101:=eq_true p101;replace q101:=eq_true q101;go_wp2
   go_roundg k1
   case measure => have:=HK1.out;omega
   case rel => exact ⟨(wrap64 (x5_1 + 1)),(by first | rfl | (simp;done) | (simp [*];done)),H',⟨by have:=HK1.out;omega⟩,by repeat (first | exact Drawn0.refl _ | apply Drawn0.step)⟩
def beaconref13_News.l0:Nat → List (S61) → List (S61) → Int → Option ((List (S61)))
 | 0,_,_,_ => none
 | k + 1,x0,x3,x4 => if x4 < (x0.length:Int) then (if 0 ≤ x4 then (if x3.length < 3518437208883 then (beaconref13_News.l0 k x0 (x3 ++ [(⟨(rd_T61 x0 x4).f0,(rd_T61 x0 x4).f1,(rd_T61 x0 x4).f2,(rd_T61 x0 x4).f3,(rd_T61 x0 x4).f4⟩:S61)]) (wrap64 (x4 + 1))) else (none)) else (none)) else (some x3)
def beaconref13_News.f (k:Nat) (l0:List (S61)):Option ((List (S61))):=beaconref13_News.l0 k l0 (([]:List (S61))) 0
set_option maxHeartbeats 8000000 in
set_option maxRecDepth 100000 in
theorem beaconref13_News.calls (k:Nat) (A0:Option Addr) (c0:Nat) (l0:List (S61)) (r:List (S61)) (w:World) (hr0:Kd.C k61 w A0 l0.length l0) (hc0:l0.length ≤ c0) (h:beaconref13_News.f k l0 = some r) :
  Calls Tryz.prog 23 #[.slice A0 l0.length c0] w fun e w' => ∃ v0_:Value,e = .returned (v0_) ∧ Kd.R k61 61 w' w.heap.size (fun _ => True) v0_ r ∧ Below w.heap.size w w':=by
 have hu61:=Tryz.underlying61;have HR0:=Aside0.mk hr0;have HC0:=Aside0.mk hc0;clear hr0 hc0;have HB:=Aside0.mk (Below.refl w.heap.size w);have H:(beaconref13_News.l0 k l0 (([]:List (S61))) 0) = some r:=h;clear h;obtain ⟨y102,hy102⟩:∃ y_:List (S61),y_ = (([]:List (S61))):=⟨_,rfl⟩
 replace H:(beaconref13_News.l0 k l0 y102 0) = some r:=by first | (rw [hy102];with_reducible exact H) | (have H2_:=(Option.bind_some _ _).symm.trans H;rw [hy102];with_reducible exact H2_) | (have H2_:=(Option.bind_some _ _).symm.trans H;with_reducible exact H2_) | with_reducible exact H | (rw [hy102];exact H) | exact H
 have Ny102:=Aside0.mk hy102;clear hy102;have H':=Aside0.mk H;clear H;go_enter Tryz.func23,Tryz.ntmps23
 go_wp2_with (first | ((with_reducible refine gate_dst (N:=5) rfl ?_);refine Kd.R_lit k61 _ 61 ?hg (N:=5) ?hd (xs:=([]:List (S61))) (inner:=[]) (ok:=fun _ => True) (okp:=fun _ => True) ?hr ?hp (fun _ hk => hk) trivial (Below.refl _ _) (Nat.le_refl _) (by simp) ?_;(case hd => rfl);(case hg => rfl);(case hr => first | (go_simp;done) | (go_simp;rfl));(case hp => exact (Reps.none _ _));intro v103 w2 ho3 hb hg_ hnew_;clear hg_ hnew_;(first | rw [← Ny102.out] at ho3 | (simp only [Int.reduceToNat] at ho3;rw [← Ny102.out] at ho3));have n0_:=Aside0.mk (Kd.R_lower ho3 (below_size (by repeat (first | (with_reducible first | exact HB.out | apply below_alloc | apply pw_below_drewN | apply below_drew1) | exact HB.out))));have n1_:=Aside0.mk (below_step (by repeat (first | (with_reducible first | exact HB.out | apply below_alloc | apply pw_below_drewN | apply below_drew1) | exact HB.out)) hb);clear HB;have HO104:=n0_;have HB:=n1_;clear n0_ n1_;clear hb ho3))
 go_loopg [3,4] k (fun kq v3 v4 w' => ∃ (x3_1:List (S61)) (x4_1:Int),v4 = .int .i64 x4_1 ∧ Aside0 (beaconref13_News.l0 kq l0 x3_1 x4_1 = some r) ∧ Aside0 (kq ≤ k) ∧ Aside0 (Kd.R k61 61 w' w.heap.size (fun _ => True) v3 x3_1) ∧ Aside0 (Below w.heap.size w w'))
 case atStart => exact ⟨(y102),(0),(by first | rfl | (simp;done) | (simp [*];done)),H',⟨Nat.le_refl _⟩,⟨by (with_reducible repeat (first | apply Kd.R_alloc | apply Kd.R_drewN | apply Kd.R_drew));exact HO104.out⟩,⟨by repeat (first | (with_reducible first | exact HB.out | apply below_alloc | apply pw_below_drewN | apply below_drew1) | exact HB.out)⟩⟩
 case round =>
  clear H';obtain ⟨x3_1,x4_1,rfl,HA,HK1,HO_3,HB⟩:=hrel
  cases gk with
  | zero => exact absurd HA.out (by simp [beaconref13_News.l0])
  | succ k1 =>
   have H:=HA.out;clear HA;simp only [beaconref13_News.l0] at H
   by_cases c4:x4_1 < (l0.length:Int)
   rotate_left
   ·rw [if_neg c4] at H
    have c4b0:decide (x4_1 < (l0.length:Int)) = false:=decide_eq_false c4;clear c4;obtain rfl:=Option.some.inj H;go_wp2;go_ret;exact ⟨_,by first | rfl | (simp [errW_none,errW_some] <;> rfl) | (simp [*,errW_none,errW_some] <;> rfl),by (with_reducible repeat (first | apply Kd.R_alloc | apply Kd.R_drewN | apply Kd.R_drew));exact HO_3.out,by repeat (first | (with_reducible first | exact HB.out | apply below_alloc | apply pw_below_drewN | apply below_drew1) | exact HB.out)⟩
   rw [if_pos c4] at H;have c4b0:decide (x4_1 < (l0.length:Int)) = true:=decide_eq_true c4;clear c4
   by_cases c5:0 ≤ x4_1
   rotate_left
   ·rw [if_neg c5] at H
    exact absurd H (by simp)
   rw [if_pos c5] at H;have c5b0:decide (0 ≤ x4_1) = true:=decide_eq_true c5;clear c5
   by_cases c6:x3_1.length < 3518437208883
   rotate_left
   ·rw [if_neg c6] at H
    exact absurd H (by simp)
   rw [if_pos c6] at H;have LMc6:=Aside0.mk c6;clear c6;obtain ⟨y106,hy106⟩:∃ y_:List (S61),y_ = (x3_1 ++ [(⟨(rd_T61 l0 x4_1).f0,(rd_T61 l0 x4_1).f1,(rd_T61 l0 x4_1).f2,(rd_T61 l0 x4_1).f3,(rd_T61 l0 x4_1).f4⟩:S61)]):=⟨_,rfl⟩
   replace H:(beaconref13_News.l0 k1 l0 y106 (wrap64 (x4_1 + 1))) = some r:=by first | (rw [hy106];with_reducible exact H) | (have H2_:=(Option.bind_some _ _).symm.trans H;rw [hy106];with_reducible exact H2_) | (have H2_:=(Option.bind_some _ _).symm.trans H;with_reducible exact H2_) | with_reducible exact H | (rw [hy106];exact H) | exact H
   have Ny106:=Aside0.mk hy106;clear hy106;have H':=Aside0.mk H;clear H;have p105:0 ≤ (x4_1:Int):=of_decide_eq_true (by first | (with_reducible assumption) | assumption);have q105:x4_1 < (l0.length:Int):=of_decide_eq_true (by first | (with_reducible assumption) | assumption);obtain ⟨ad105,e105,hx105_0,hx105_1,hx105_2,hx105_3,hx105_4⟩:=at_T61 HR0.out x4_1 p105 q105
   cases e105
   replace hx105_0:=(HB.out.cell (World.block_lt_of_cell? w _ hx105_0)).trans hx105_0;replace hx105_1:=(HB.out.cell (World.block_lt_of_cell? w _ hx105_1)).trans hx105_1;replace hx105_2:=(HB.out.cell (World.block_lt_of_cell? w _ hx105_2)).trans hx105_2;replace hx105_3:=(HB.out.cell (World.block_lt_of_cell? w _ hx105_3)).trans hx105_3;replace hx105_4:=(HB.out.cell (World.block_lt_of_cell? w _ hx105_4)).trans hx105_4;replace p105:=eq_true p105;replace q105:=eq_true q105
   go_wp2_with (first | ((with_reducible refine gate_builtin (b:=.append) (xs:=#[.tmp 12,.tmp 17]) rfl ?_);at_builtin;refine Kd.R_append k61 (w0:=w) w.heap.size rfl (.tmp 12) (.tmp 17) 29 61 (.agg #[(.int .i64 0),(.int .i64 0),(.float .f64 0),(.float .f64 0),(.int .i64 0)]) 40 rfl Tryz.underlying29 info61 rfl (by decide) (by omega) u3 x3_1 (⟨(rd_T61 l0 x4_1).f0,(rd_T61 l0 x4_1).f1,(rd_T61 l0 x4_1).f2,(rd_T61 l0 x4_1).f3,(rd_T61 l0 x4_1).f4⟩:S61) [.int .i64 ((rd_T61 l0 x4_1).f0),.int .i64 ((rd_T61 l0 x4_1).f1),.float .f64 ((rd_T61 l0 x4_1).f2),.float .f64 ((rd_T61 l0 x4_1).f3),.int .i64 ((rd_T61 l0 x4_1).f4)] (fun _ => True) (fun _ => False) rfl rfl ?aP (fun _ hk => hk.elim) ?aF ?aO ?aB ?aS ?aL ?_;(case aP => exact k61_mkM _ _ _ (⟨(rd_T61 l0 x4_1).f0,(rd_T61 l0 x4_1).f1,(rd_T61 l0 x4_1).f2,(rd_T61 l0 x4_1).f3,(rd_T61 l0 x4_1).f4⟩:S61));(case aB => exact (by repeat (first | (with_reducible first | exact HB.out | apply below_alloc | apply pw_below_drewN | apply below_drew1) | exact HB.out)));(case aF => exact (fun _ _ => trivial));(case aO => exact (by (with_reducible repeat (first | apply Kd.R_alloc | apply Kd.R_drewN | apply Kd.R_drew));exact HO_3.out));(case aS => exact (below_size (by repeat (first | (with_reducible first | exact HB.out | apply below_alloc | apply pw_below_drewN | apply below_drew1) | exact HB.out))));(case aL => have:=LMc6.out;omega);intro v107 w7 ho hb hg hat;rw [← Ny106.out] at ho;have n0_:=Aside0.mk (hb);have n1_:=Aside0.mk (ho);clear HB;clear HO_3;have HB:=n0_;have HO108:=n1_;clear n0_ n1_;clear ho hb hg hat))
   go_roundg k1
   case measure => have:=HK1.out;omega
   case rel => exact ⟨(y106),(wrap64 (x4_1 + 1)),(by first | rfl | (simp;done) | (simp [*];done)),H',⟨by have:=HK1.out;omega⟩,⟨by (with_reducible repeat (first | apply Kd.R_alloc | apply Kd.R_drewN | apply Kd.R_drew));exact HO108.out⟩,⟨by repeat (first | (with_reducible first | exact HB.out | apply below_alloc | apply pw_below_drewN | apply below_drew1) | exact HB.out)⟩⟩
def beaconref13_Copy.l0:Nat → List (S43) → List (S43) → Int → Option ((List (S43)))
 | 0,_,_,_ => none
 | k + 1,x0,x3,x4 => if x4 < (x0.length:Int) then (if 0 ≤ x4 then ((beaconref13_News.f k ((rd_T43 x0 x4).f2)).bind fun t115 => (if x3.length < 3518437208883 then (beaconref13_Copy.l0 k x0 (x3 ++ [(⟨(rd_T43 x0 x4).f0,(rd_T43 x0 x4).f1,t115⟩:S43)]) (wrap64 (x4 + 1))) else (none))) else (none)) else (some x3)
def beaconref13_Copy.f (k:Nat) (l0:List (S43)):Option ((List (S43))):=beaconref13_Copy.l0 k l0 (([]:List (S43))) 0
def beaconref13_Copy.T5:Bool × List (List Nat × List Nat):=(true,[([],[]),([],[]),([],[]),([1,2],[1,2]),([3],[3]),([4],[4]),([],[]),([],[]),([6,7],[6,7]),([8],[8]),([9],[9]),([],[]),([],[]),([11,12],[11,12]),([13],[13]),([14],[14]),([15],[15]),([5,10,16],[5,10,16]),([17],[17]),([0,18,16],[0,18]),([19,19,0,1,2,3,4,5,6,7,8,9,10,11,12,13,14,15,16,17,18,19],[0,19])])
def beaconref13_Copy.B5:List Nat:=[0,0,0,6,14,30,0,0,192,448,960,0,0,6144,14336,30720,63488,131070,262142,524287,1048575]
theorem beaconref13_Copy.tab5:rtab .any (opsOf Tryz.f39 5) = beaconref13_Copy.T5:=by kernel_rfl
theorem beaconref13_Copy.bits5:waitsOk beaconref13_Copy.T5.2 beaconref13_Copy.B5 = true:=by kernel_rfl
set_option maxHeartbeats 8000000 in
set_option maxRecDepth 100000 in
theorem beaconref13_Copy.calls (k:Nat) (A0:Option Addr) (c0:Nat) (l0:List (S43)) (r:List (S43)) (w:World) (hr0:Kd.C k43 w A0 l0.length l0) (hc0:l0.length ≤ c0) (h:beaconref13_Copy.f k l0 = some r) :
  Calls Tryz.prog 39 #[.slice A0 l0.length c0] w fun e w' => ∃ v0_:Value,e = .returned (v0_) ∧ Kd.S k43 43 w' w.heap.size (fun _ => True) v0_ r ∧ Below w.heap.size w w':=by
 have hu43:=Tryz.underlying43;have HR0:=Aside0.mk hr0;have HC0:=Aside0.mk hc0;clear hr0 hc0;have HB:=Aside0.mk (Below.refl w.heap.size w);have H:(beaconref13_Copy.l0 k l0 (([]:List (S43))) 0) = some r:=h;clear h;obtain ⟨y109,hy109⟩:∃ y_:List (S43),y_ = (([]:List (S43))):=⟨_,rfl⟩
 replace H:(beaconref13_Copy.l0 k l0 y109 0) = some r:=by first | (rw [hy109];with_reducible exact H) | (have H2_:=(Option.bind_some _ _).symm.trans H;rw [hy109];with_reducible exact H2_) | (have H2_:=(Option.bind_some _ _).symm.trans H;with_reducible exact H2_) | with_reducible exact H | (rw [hy109];exact H) | exact H
 have Ny109:=Aside0.mk hy109;clear hy109;have H':=Aside0.mk H;clear H;go_enter Tryz.func39,Tryz.ntmps39
 go_wp2_with (first | ((with_reducible refine gate_dst (N:=5) rfl ?_);refine Kd.S_lit k43 _ 43 ?hg (N:=5) ?hd (xs:=([]:List (S43))) (inner:=[]) (ok:=fun _ => True) (okp:=fun _ => True) ?hr ?hp (fun _ hk => hk) trivial (Below.refl _ _) (Nat.le_refl _) (by simp) ?_;(case hd => rfl);(case hg => rfl);(case hr => first | (go_simp;done) | (go_simp;rfl));(case hp => exact (Reps.none _ _));intro v110 w2 ho3 hb hg_ hnew_;clear hg_ hnew_;(first | rw [← Ny109.out] at ho3 | (simp only [Int.reduceToNat] at ho3;rw [← Ny109.out] at ho3));have n0_:=Aside0.mk (Kd.S_lower ho3 (below_size (by repeat (first | (with_reducible first | exact HB.out | apply below_alloc | apply pw_below_drewN | apply below_drew1) | exact HB.out))));have n1_:=Aside0.mk (below_step (by repeat (first | (with_reducible first | exact HB.out | apply below_alloc | apply pw_below_drewN | apply below_drew1) | exact HB.out)) hb);clear HB;have HO111:=n0_;have HB:=n1_;clear n0_ n1_;clear hb ho3))
 go_loopg [3,4] k (fun kq v3 v4 w' => ∃ (x3_1:List (S43)) (x4_1:Int),v4 = .int .i64 x4_1 ∧ Aside0 (beaconref13_Copy.l0 kq l0 x3_1 x4_1 = some r) ∧ Aside0 (kq ≤ k) ∧ Aside0 (Kd.S k43 43 w' w.heap.size (fun _ => True) v3 x3_1) ∧ Aside0 (Below w.heap.size w w'))
 case atStart => exact ⟨(y109),(0),(by first | rfl | (simp;done) | (simp [*];done)),H',⟨Nat.le_refl _⟩,⟨by (with_reducible repeat (first | apply Kd.S_alloc | apply Kd.S_drewN | apply Kd.S_drew));exact HO111.out⟩,⟨by repeat (first | (with_reducible first | exact HB.out | apply below_alloc | apply pw_below_drewN | apply below_drew1) | exact HB.out)⟩⟩
 case round =>
  clear H';obtain ⟨x3_1,x4_1,rfl,HA,HK1,HO_3,HB⟩:=hrel
  cases gk with
  | zero => exact absurd HA.out (by simp [beaconref13_Copy.l0])
  | succ k1 =>
   have H:=HA.out;clear HA;simp only [beaconref13_Copy.l0] at H
   by_cases c4:x4_1 < (l0.length:Int)
   rotate_left
   ·rw [if_neg c4] at H
    have c4b0:decide (x4_1 < (l0.length:Int)) = false:=decide_eq_false c4;clear c4;obtain rfl:=Option.some.inj H;go_wp2;go_ret;exact ⟨_,by first | rfl | (simp [errW_none,errW_some] <;> rfl) | (simp [*,errW_none,errW_some] <;> rfl),by (with_reducible repeat (first | apply Kd.S_alloc | apply Kd.S_drewN | apply Kd.S_drew));exact HO_3.out,by repeat (first | (with_reducible first | exact HB.out | apply below_alloc | apply pw_below_drewN | apply below_drew1) | exact HB.out)⟩
   rw [if_pos c4] at H;have c4b0:decide (x4_1 < (l0.length:Int)) = true:=decide_eq_true c4;clear c4
   by_cases c5:0 ≤ x4_1
   rotate_left
   ·rw [if_neg c5] at H
    exact absurd H (by simp)
   rw [if_pos c5] at H;have c5b0:decide (0 ≤ x4_1) = true:=decide_eq_true c5;clear c5;replace H:=Option.bind_eq_some_iff.mp H;obtain ⟨t115,A60,H⟩:=H;replace H:(if x3_1.length < 3518437208883 then (beaconref13_Copy.l0 k1 l0 (x3_1 ++ [(⟨(rd_T43 l0 x4_1).f0,(rd_T43 l0 x4_1).f1,t115⟩:S43)]) (wrap64 (x4_1 + 1))) else (none)) = some r:=H;have A6:=Aside0.mk A60;clear A60
   by_cases c7:x3_1.length < 3518437208883
   rotate_left
   ·rw [if_neg c7] at H
    exact absurd H (by simp)
   rw [if_pos c7] at H;have LMc7:=Aside0.mk c7;clear c7;obtain ⟨y118,hy118⟩:∃ y_:List (S43),y_ = (x3_1 ++ [(⟨(rd_T43 l0 x4_1).f0,(rd_T43 l0 x4_1).f1,t115⟩:S43)]):=⟨_,rfl⟩
   replace H:(beaconref13_Copy.l0 k1 l0 y118 (wrap64 (x4_1 + 1))) = some r:=by first | (rw [hy118];with_reducible exact H) | (have H2_:=(Option.bind_some _ _).symm.trans H;rw [hy118];with_reducible exact H2_) | (have H2_:=(Option.bind_some _ _).symm.trans H;with_reducible exact H2_) | with_reducible exact H | (rw [hy118];exact H) | exact H
   have Ny118:=Aside0.mk hy118;clear hy118;have H':=Aside0.mk H;clear H
   try go_wp2
   have n0_:=Aside0.mk (Kd.S_drew HO_3.out);have n1_:=Aside0.mk (below_drew1 HB.out);clear HO_3;clear HB;have HO_3:=n0_;have HB:=n1_;clear n0_ n1_;have p112:0 ≤ (x4_1:Int):=of_decide_eq_true (by first | (with_reducible assumption) | assumption);have q112:x4_1 < (l0.length:Int):=of_decide_eq_true (by first | (with_reducible assumption) | assumption);obtain ⟨ad112,A112_2,c112_2,e112,hx112_0,hx112_1,hx112_2,hl112_2,hi112_2⟩:=at_T43 HR0.out x4_1 p112 q112;have hw112_2:=hx112_2;have hw112_1:=hx112_1;have hw112_0:=hx112_0
   cases e112
   replace hx112_0:=(HB.out.cell (World.block_lt_of_cell? w _ hx112_0)).trans hx112_0;replace hx112_1:=(HB.out.cell (World.block_lt_of_cell? w _ hx112_1)).trans hx112_1;replace hx112_2:=(HB.out.cell (World.block_lt_of_cell? w _ hx112_2)).trans hx112_2;have HR112_2:=Aside0.mk hi112_2;have HC112_2:=Aside0.mk hl112_2;clear hi112_2 hl112_2;replace p112:=eq_true p112;replace q112:=eq_true q112;have p113:0 ≤ (x4_1:Int):=of_decide_eq_true (by first | (with_reducible assumption) | assumption);have q113:x4_1 < (l0.length:Int):=of_decide_eq_true (by first | (with_reducible assumption) | assumption);obtain ⟨ad113,A113_2,c113_2,e113,hx113_0,hx113_1,hx113_2,hl113_2,hi113_2⟩:=at_T43 HR0.out x4_1 p113 q113;have hw113_2:=hx113_2;have hw113_1:=hx113_1;have hw113_0:=hx113_0;obtain rfl:ad112 = ad113:=(by injection e113)
   replace hx113_0:=(HB.out.cell (World.block_lt_of_cell? w _ hx113_0)).trans hx113_0;replace hx113_1:=(HB.out.cell (World.block_lt_of_cell? w _ hx113_1)).trans hx113_1;replace hx113_2:=(HB.out.cell (World.block_lt_of_cell? w _ hx113_2)).trans hx113_2;have HR113_2:=Aside0.mk hi113_2;have HC113_2:=Aside0.mk hl113_2;clear hi113_2 hl113_2;replace p113:=eq_true p113;replace q113:=eq_true q113;have ea_:=Option.some.inj (hx112_2.symm.trans hx113_2)
   injection ea_ with ea_ en_ ec_
   subst ea_;subst ec_;clear en_;have p114:0 ≤ (x4_1:Int):=of_decide_eq_true (by first | (with_reducible assumption) | assumption);have q114:x4_1 < (l0.length:Int):=of_decide_eq_true (by first | (with_reducible assumption) | assumption);obtain ⟨ad114,A114_2,c114_2,e114,hx114_0,hx114_1,hx114_2,hl114_2,hi114_2⟩:=at_T43 HR0.out x4_1 p114 q114;have hw114_2:=hx114_2;have hw114_1:=hx114_1;have hw114_0:=hx114_0;obtain rfl:ad112 = ad114:=(by injection e114)
   replace hx114_0:=(HB.out.cell (World.block_lt_of_cell? w _ hx114_0)).trans hx114_0;replace hx114_1:=(HB.out.cell (World.block_lt_of_cell? w _ hx114_1)).trans hx114_1;replace hx114_2:=(HB.out.cell (World.block_lt_of_cell? w _ hx114_2)).trans hx114_2;have HR114_2:=Aside0.mk hi114_2;have HC114_2:=Aside0.mk hl114_2;clear hi114_2 hl114_2;replace p114:=eq_true p114;replace q114:=eq_true q114;have ea_:=Option.some.inj (hx112_2.symm.trans hx114_2)
   injection ea_ with ea_ en_ ec_
   subst ea_;subst ec_;clear en_;refine start_ (n:=21) (S:=fun w' => w'.cell? (ad112.add ((x4_1).toNat * 3)) = some (.int .i64 ((rd_T43 l0 x4_1).f0)) ∧ w'.cell? ⟨(ad112.add ((x4_1).toNat * 3)).block,(ad112.add ((x4_1).toNat * 3)).off + 1,none⟩ = some (.float .f64 ((rd_T43 l0 x4_1).f1)) ∧ w'.cell? ⟨(ad112.add ((x4_1).toNat * 3)).block,(ad112.add ((x4_1).toNat * 3)).off + 2,none⟩ = some (.slice A112_2 ((rd_T43 l0 x4_1).f2).length c112_2) ∧ w'.cell? (ad112.add ((x4_1).toNat * 3)) = some (.int .i64 ((rd_T43 l0 x4_1).f0)) ∧ w'.cell? ⟨(ad112.add ((x4_1).toNat * 3)).block,(ad112.add ((x4_1).toNat * 3)).off + 1,none⟩ = some (.float .f64 ((rd_T43 l0 x4_1).f1)) ∧ w'.cell? ⟨(ad112.add ((x4_1).toNat * 3)).block,(ad112.add ((x4_1).toNat * 3)).off + 2,none⟩ = some (.slice A112_2 ((rd_T43 l0 x4_1).f2).length c112_2) ∧ w'.cell? (ad112.add ((x4_1).toNat * 3)) = some (.int .i64 ((rd_T43 l0 x4_1).f0)) ∧ w'.cell? ⟨(ad112.add ((x4_1).toNat * 3)).block,(ad112.add ((x4_1).toNat * 3)).off + 1,none⟩ = some (.float .f64 ((rd_T43 l0 x4_1).f1)) ∧ w'.cell? ⟨(ad112.add ((x4_1).toNat * 3)).block,(ad112.add ((x4_1).toNat * 3)).off + 2,none⟩ = some (.slice A112_2 ((rd_T43 l0 x4_1).f2).length c112_2)) (ds:=[]) #[false,false,false,false,false,false,false,false,false,false,false,false,false,false,false,false,false,false,false,false,false] (by kernel_rfl) rfl rfl ⟨((HB.out.cell (World.block_lt_of_cell? w _ hw112_0)).trans hw112_0),((HB.out.cell (World.block_lt_of_cell? w _ hw112_1)).trans hw112_1),((HB.out.cell (World.block_lt_of_cell? w _ hw112_2)).trans hw112_2),((HB.out.cell (World.block_lt_of_cell? w _ hw113_0)).trans hw113_0),((HB.out.cell (World.block_lt_of_cell? w _ hw113_1)).trans hw113_1),((HB.out.cell (World.block_lt_of_cell? w _ hw113_2)).trans hw113_2),((HB.out.cell (World.block_lt_of_cell? w _ hw114_0)).trans hw114_0),((HB.out.cell (World.block_lt_of_cell? w _ hw114_1)).trans hw114_1),((HB.out.cell (World.block_lt_of_cell? w _ hw114_2)).trans hw114_2)⟩ (fun hHeld => ?_);refine with_tabW beaconref13_Copy.tab5 beaconref13_Copy.bits5 (fun HT_ HW_ => ?_)
   generalize wr.drew = w8 at HO_3 HB HR112_2 HR113_2 HR114_2 hx112_0 hx112_1 hx112_2 hx113_0 hx113_1 hx113_2 hx114_0 hx114_1 hx114_2 hHeld ⊢
   refine manyW_ (fuel:=5) (a':=?_) ((0,0) :: (1,0) :: (2,0) :: (3,0) :: (4,0) :: (6,0) :: (7,0) :: (8,0) :: (9,0) :: (11,0) :: (12,0) :: (13,0) :: (14,0) :: (5,2) :: (10,2) :: (15,2) :: []) #[true,true,true,true,true,true,true,true,true,true,true,true,true,true,true,true,false,false,false,false,false] rfl HT_ HW_ (by kernel_rfl) (fun _ _ _ _ _ h => h) (fun _ => hHeld) ?_ ?_;rotate_left
   ·repeat (first | exact Chain.nil _ | (apply Chain.on;rfl;rfl;(focus intro w';go_simp;with_reducible rfl);(focus simp only [Act.put,List.setIfInBounds_toArray,List.set_cons_zero,List.set_cons_succ,i64_w,i32_w];rfl)) | (apply Chain.take;rfl;rfl;(focus rintro w' ⟨s0,s1,s2,s3,s4,s5,s6,s7,s8⟩;go_simp;with_reducible rfl);(focus simp only [Act.put,List.setIfInBounds_toArray,List.set_cons_zero,List.set_cons_succ,i64_w,i32_w];rfl)))
   refine one_ (i:=16) (N:=some 28) #[true,true,true,true,true,true,true,true,true,true,true,true,true,true,true,true,true,false,false,false,false] rfl rfl (one_of HT_.out (by kernel_rfl)) (by decide) (fun K hK => ?_);refine goes_ Tryz.func23 (by kernel_rfl) rfl #[.slice A112_2 ((rd_T43 l0 x4_1).f2).length c112_2] (by rfl) rfl rfl (by (try simp only [List.map_toArray,List.map_cons,List.map_nil]);first | done | rfl | (simp only [List.length_drop,List.length_take];rfl)) ?_
   with_reducible refine (beaconref13_News.calls k1 _ _ ((rd_T43 l0 x4_1).f2) t115 _ ?side1 ?side2 A6.out).mono ?_
   (case side1 => repeat (first | exact (Kd.C_below HR114_2.out HB.out) | (with_reducible refine Kd.C_alloc ?_ _) | (with_reducible refine Kd.C_drewN ?_ _) | (with_reducible refine Kd.C_drew ?_)))
   (case side2 => exact HC114_2.out)
   rintro e w9 ⟨v116,rfl,ho0,hb⟩;refine ⟨_,rfl,?_⟩;have n0_:=Aside0.mk (Kd.S_elder' (by (with_reducible repeat (first | apply Kd.S_alloc | apply Kd.S_drewN | apply Kd.S_drew));exact HO_3.out) (Kd.R_base ho0) hb);have n1_:=Aside0.mk (Kd.R_lower ho0 (below_size (by repeat (first | (with_reducible first | exact HB.out | apply below_alloc | apply pw_below_drewN | apply below_drew1) | exact HB.out))));have n2_:=Aside0.mk (below_step (by repeat (first | (with_reducible first | exact HB.out | apply below_alloc | apply pw_below_drewN | apply below_drew1) | exact HB.out)) hb);clear HO_3;clear HB;have HO_3:=n0_;have HO117:=n1_;have HB:=n2_;clear n0_ n1_ n2_
   (try clear hb)
   (try clear hb2)
   (try clear hk)
   (try clear hi)
   (try clear ho0)
   obtain ⟨Ao10,co10,eo10⟩:=Kd.R_slice HO117.out
   (first | subst eo10 | (injection eo10 with f1_ f2_ f3_;have f4_:=f1_.symm;have f5_:=f3_.symm;clear f1_ f2_ f3_;subst f4_;subst f5_))
   refine hK.out _ _ ⟨((HB.out.cell (World.block_lt_of_cell? w _ hw112_0)).trans hw112_0),((HB.out.cell (World.block_lt_of_cell? w _ hw112_1)).trans hw112_1),((HB.out.cell (World.block_lt_of_cell? w _ hw112_2)).trans hw112_2),((HB.out.cell (World.block_lt_of_cell? w _ hw113_0)).trans hw113_0),((HB.out.cell (World.block_lt_of_cell? w _ hw113_1)).trans hw113_1),((HB.out.cell (World.block_lt_of_cell? w _ hw113_2)).trans hw113_2),((HB.out.cell (World.block_lt_of_cell? w _ hw114_0)).trans hw114_0),((HB.out.cell (World.block_lt_of_cell? w _ hw114_1)).trans hw114_1),((HB.out.cell (World.block_lt_of_cell? w _ hw114_2)).trans hw114_2)⟩ (fun hHeld => ?_);clear hK K;refine norm_ (a':=?_) ?_ ?_;rotate_left
   ·show Act.put _ (some 28) _ = _
    simp only [Act.put,List.setIfInBounds_toArray,List.set_cons_zero,List.set_cons_succ,i64_w,i32_w];rfl
   refine manyT_ (fuel:=3) (a':=?_) ((17,0) :: []) #[true,true,true,true,true,true,true,true,true,true,true,true,true,true,true,true,true,true,false,false,false] rfl HT_ (by kernel_rfl) (fun _ _ _ _ _ h => h) (fun h => absurd h (by decide)) ?_ ?_;rotate_left
   ·repeat (first | exact Chain.nil _ | (apply Chain.on;rfl;rfl;(focus intro w';go_simp;with_reducible rfl);(focus simp only [Act.put,List.setIfInBounds_toArray,List.set_cons_zero,List.set_cons_succ,i64_w,i32_w];rfl)))
   refine one_ (i:=18) (N:=some 30) #[true,true,true,true,true,true,true,true,true,true,true,true,true,true,true,true,true,true,true,false,false] rfl rfl (one_of HT_.out (by kernel_rfl)) (by decide) (fun K hK => ?_);refine value_ (w1:=?_) (v:=?_) (by rfl) rfl ?_ ?_;rotate_left 2
   ·go_simp
    constructor
    ·rfl
    rfl
   refine hK.out _ _ ⟨(World.cell?_alloc_lt _ _ _ (World.block_lt_of_cell? _ _ (((HB.out.cell (World.block_lt_of_cell? w _ hw112_0)).trans hw112_0)))).trans (((HB.out.cell (World.block_lt_of_cell? w _ hw112_0)).trans hw112_0)),(World.cell?_alloc_lt _ _ _ (World.block_lt_of_cell? _ _ (((HB.out.cell (World.block_lt_of_cell? w _ hw112_1)).trans hw112_1)))).trans (((HB.out.cell (World.block_lt_of_cell? w _ hw112_1)).trans hw112_1)),(World.cell?_alloc_lt _ _ _ (World.block_lt_of_cell? _ _ (((HB.out.cell (World.block_lt_of_cell? w _ hw112_2)).trans hw112_2)))).trans (((HB.out.cell (World.block_lt_of_cell? w _ hw112_2)).trans hw112_2)),(World.cell?_alloc_lt _ _ _ (World.block_lt_of_cell? _ _ (((HB.out.cell (World.block_lt_of_cell? w _ hw113_0)).trans hw113_0)))).trans (((HB.out.cell (World.block_lt_of_cell? w _ hw113_0)).trans hw113_0)),(World.cell?_alloc_lt _ _ _ (World.block_lt_of_cell? _ _ (((HB.out.cell (World.block_lt_of_cell? w _ hw113_1)).trans hw113_1)))).trans (((HB.out.cell (World.block_lt_of_cell? w _ hw113_1)).trans hw113_1)),(World.cell?_alloc_lt _ _ _ (World.block_lt_of_cell? _ _ (((HB.out.cell (World.block_lt_of_cell? w _ hw113_2)).trans hw113_2)))).trans (((HB.out.cell (World.block_lt_of_cell? w _ hw113_2)).trans hw113_2)),(World.cell?_alloc_lt _ _ _ (World.block_lt_of_cell? _ _ (((HB.out.cell (World.block_lt_of_cell? w _ hw114_0)).trans hw114_0)))).trans (((HB.out.cell (World.block_lt_of_cell? w _ hw114_0)).trans hw114_0)),(World.cell?_alloc_lt _ _ _ (World.block_lt_of_cell? _ _ (((HB.out.cell (World.block_lt_of_cell? w _ hw114_1)).trans hw114_1)))).trans (((HB.out.cell (World.block_lt_of_cell? w _ hw114_1)).trans hw114_1)),(World.cell?_alloc_lt _ _ _ (World.block_lt_of_cell? _ _ (((HB.out.cell (World.block_lt_of_cell? w _ hw114_2)).trans hw114_2)))).trans (((HB.out.cell (World.block_lt_of_cell? w _ hw114_2)).trans hw114_2))⟩ (fun hHeld => ?_);clear hK K;refine norm_ (a':=?_) ?_ ?_;rotate_left
   ·show Act.put _ (some 30) _ = _
    simp only [Act.put,List.setIfInBounds_toArray,List.set_cons_zero,List.set_cons_succ,i64_w,i32_w];rfl
   refine one_ (i:=19) (N:=some 31) #[true,true,true,true,true,true,true,true,true,true,true,true,true,true,true,true,true,true,true,true,false] rfl rfl (one_of HT_.out (by kernel_rfl)) (by decide) (fun K hK => ?_);refine Kd.S_append_step k43 (w0:=w) w.heap.size (by rfl) (.tmp 12) (.tmp 30) 25 43 (.agg #[(.int .i64 0),(.float .f64 0),(.slice none 0 0)]) 40 rfl Tryz.underlying25 info43 rfl (by decide) (by omega) u3 x3_1 (⟨(rd_T43 l0 x4_1).f0,(rd_T43 l0 x4_1).f1,t115⟩:S43) [.int .i64 ((rd_T43 l0 x4_1).f0),.float .f64 ((rd_T43 l0 x4_1).f1),.slice Ao10 t115.length co10] (fun _ => True) (fun k_ => some k_ = (.slice Ao10 t115.length co10:Value).ownBlock) rfl rfl ?aP (fun k_ hk_ => ((Kd.R_mono (ok':=fun k_ => ((fun _ => True)) k_ ∧ some k_ ≠ (u3:Value).ownBlock) (Kd.R_apart' (HO117.out) (Kd.S_typed HO_3.out) (by decide)) (fun k_ hk => ⟨trivial,hk.2⟩))).1 k_ hk_.symm) ?aF ?aO ?aB ?aS ?aL ?_
   (case aP => exact k43_mkM _ _ _ (⟨(rd_T43 l0 x4_1).f0,(rd_T43 l0 x4_1).f1,t115⟩:S43) (Kd.R_mono (Kd.R_tight rfl (Kd.R_mono (ok':=fun k_ => ((fun _ => True)) k_ ∧ some k_ ≠ (u3:Value).ownBlock) (Kd.R_apart' (HO117.out) (Kd.S_typed HO_3.out) (by decide)) (fun k_ hk => ⟨trivial,hk.2⟩))) (fun _ h_ => h_)))
   (case aB => exact (by repeat (first | (with_reducible first | exact HB.out | apply below_alloc | apply pw_below_drewN | apply below_drew1) | exact HB.out)))
   (case aF => exact (fun _ _ => trivial))
   (case aO => exact (by (with_reducible repeat (first | apply Kd.S_alloc | apply Kd.S_drewN | apply Kd.S_drew));exact Kd.S_mono HO_3.out (fun k_ hk => ⟨trivial,fun e_ => hk.2 e_⟩)))
   (case aS => exact (below_size (by repeat (first | (with_reducible first | exact HB.out | apply below_alloc | apply pw_below_drewN | apply below_drew1) | exact HB.out))))
   (case aL => have:=LMc7.out;omega)
   intro v119 w11 ho hb hg hat;rw [← Ny118.out] at ho;have n0_:=Aside0.mk (hb);have n1_:=Aside0.mk (ho);clear HB;clear HO_3;clear HO117;have HB:=n0_;have HO120:=n1_;clear n0_ n1_;clear ho hb hg hat;refine hK.out _ _ ⟨((HB.out.cell (World.block_lt_of_cell? w _ hw112_0)).trans hw112_0),((HB.out.cell (World.block_lt_of_cell? w _ hw112_1)).trans hw112_1),((HB.out.cell (World.block_lt_of_cell? w _ hw112_2)).trans hw112_2),((HB.out.cell (World.block_lt_of_cell? w _ hw113_0)).trans hw113_0),((HB.out.cell (World.block_lt_of_cell? w _ hw113_1)).trans hw113_1),((HB.out.cell (World.block_lt_of_cell? w _ hw113_2)).trans hw113_2),((HB.out.cell (World.block_lt_of_cell? w _ hw114_0)).trans hw114_0),((HB.out.cell (World.block_lt_of_cell? w _ hw114_1)).trans hw114_1),((HB.out.cell (World.block_lt_of_cell? w _ hw114_2)).trans hw114_2)⟩ (fun hHeld => ?_);clear hK K;refine norm_ (a':=?_) ?_ ?_;rotate_left
   ·show Act.put _ (some 31) _ = _
    simp only [Act.put,List.setIfInBounds_toArray,List.set_cons_zero,List.set_cons_succ,i64_w,i32_w];rfl
   refine manyT_ (fuel:=0) (a':=?_) ((20,0) :: []) #[true,true,true,true,true,true,true,true,true,true,true,true,true,true,true,true,true,true,true,true,true] rfl HT_ (by kernel_rfl) (fun _ _ _ _ _ h => h) (fun h => absurd h (by decide)) ?_ ?_;rotate_left
   ·repeat (first | exact Chain.nil _ | (apply Chain.on;rfl;rfl;(focus intro w';go_simp;with_reducible rfl);(focus simp only [Act.put,List.setIfInBounds_toArray,List.set_cons_zero,List.set_cons_succ,i64_w,i32_w];rfl)))
   refine done_ (done_of HT_.out (by kernel_rfl)) ?_
   try go_wp2
   go_roundg k1
   case measure => have:=HK1.out;omega
   case rel => exact ⟨(y118),(wrap64 (x4_1 + 1)),(by first | rfl | (simp;done) | (simp [*];done)),H',⟨by have:=HK1.out;omega⟩,⟨by (with_reducible repeat (first | apply Kd.S_alloc | apply Kd.S_drewN | apply Kd.S_drew));exact HO120.out⟩,⟨by repeat (first | (with_reducible first | exact HB.out | apply below_alloc | apply pw_below_drewN | apply below_drew1) | exact HB.out)⟩⟩
def beaconref02_CheckId.f (a0:Int):Option (Int):=if a0 < 1 then (some 20) else (if a0 > 2147483647 then (some 20) else (some 0))
set_option maxHeartbeats 8000000 in
set_option maxRecDepth 100000 in
theorem beaconref02_CheckId.calls (a0:Int) (r:Int) (w:World) (h:beaconref02_CheckId.f a0 = some r) :
  Calls Tryz.prog 55 #[.int .i64 a0] w fun e w' => e = .returned (.int .i64 r) ∧ Drawn0 w w':=by
 have H:(if a0 < 1 then (some 20) else (if a0 > 2147483647 then (some 20) else (some 0))) = some r:=h;clear h
 by_cases c2:a0 < 1
 ·rw [if_pos c2] at H
  have c2b0:decide (a0 < 1) = true:=decide_eq_true c2;clear c2;obtain rfl:=Option.some.inj H;go_enter Tryz.func55,Tryz.ntmps55;go_wp2;go_ret;exact ⟨by first | rfl | (simp;done) | (simp [*];done),by repeat (first | exact Drawn0.refl _ | apply Drawn0.step)⟩
 rw [if_neg c2] at H;have c2b0:decide (a0 < 1) = false:=decide_eq_false c2;clear c2
 by_cases c3:a0 > 2147483647
 ·rw [if_pos c3] at H
  have c3b0:decide (2147483647 < a0) = true:=decide_eq_true c3;clear c3;obtain rfl:=Option.some.inj H;go_enter Tryz.func55,Tryz.ntmps55;go_wp2;go_ret;exact ⟨by first | rfl | (simp;done) | (simp [*];done),by repeat (first | exact Drawn0.refl _ | apply Drawn0.step)⟩
 rw [if_neg c3] at H;have c3b0:decide (2147483647 < a0) = false:=decide_eq_false c3;clear c3;obtain rfl:=Option.some.inj H;go_enter Tryz.func55,Tryz.ntmps55;go_wp2;go_ret;exact ⟨by first | rfl | (simp;done) | (simp [*];done),by repeat (first | exact Drawn0.refl _ | apply Drawn0.step)⟩
def beaconref01_nan.f (a0:Nat):Option (Bool):=some (FloatKind.f64.format.order a0 a0 != some .eq)
set_option maxHeartbeats 8000000 in
set_option maxRecDepth 100000 in
theorem beaconref01_nan.calls (a0:Nat) (r:Bool) (w:World) (h:beaconref01_nan.f a0 = some r) :
  Calls Tryz.prog 91 #[.float .f64 a0] w fun e w' => e = .returned (.bool r) ∧ Drawn0 w w':=by
 have H:(some (FloatKind.f64.format.order a0 a0 != some .eq)) = some r:=h;clear h;obtain rfl:=Option.some.inj H;go_enter Tryz.func91,Tryz.ntmps91;go_wp2;go_ret;exact ⟨by first | rfl | (simp;done) | (simp [*];done),by repeat (first | exact Drawn0.refl _ | apply Drawn0.step)⟩
def beaconref01_inf.f (a0:Nat):Option (Bool):=if (FloatKind.f64.format.order a0 9218868437227405311 == some .gt) = true then (some true) else (some (FloatKind.f64.format.order a0 18442240474082181119 == some .lt))
set_option maxHeartbeats 8000000 in
set_option maxRecDepth 100000 in
theorem beaconref01_inf.calls (a0:Nat) (r:Bool) (w:World) (h:beaconref01_inf.f a0 = some r) :
  Calls Tryz.prog 92 #[.float .f64 a0] w fun e w' => e = .returned (.bool r) ∧ Drawn0 w w':=by
 have H:(if (FloatKind.f64.format.order a0 9218868437227405311 == some .gt) = true then (some true) else (some (FloatKind.f64.format.order a0 18442240474082181119 == some .lt))) = some r:=h;clear h
 by_cases c2:(FloatKind.f64.format.order a0 9218868437227405311 == some .gt) = true
 ·rw [if_pos c2] at H
  have c2b0:(FloatKind.f64.format.order a0 9218868437227405311 == some .gt) = true:=c2
  (try (have c2b1:decide (FloatKind.f64.format.order a0 9218868437227405311 = some .gt) = true:=by simpa using c2))
  (try (have c2b2:(FloatKind.f64.format.order a0 9218868437227405311 == some .gt) = true:=by simpa using c2))
  clear c2;obtain rfl:=Option.some.inj H;go_enter Tryz.func92,Tryz.ntmps92;go_wp2;go_ret;exact ⟨by first | rfl | (simp;done) | (simp [*];done),by repeat (first | exact Drawn0.refl _ | apply Drawn0.step)⟩
 rw [if_neg c2] at H;have c2b0:(FloatKind.f64.format.order a0 9218868437227405311 == some .gt) = false:=by simpa using c2
 (try (have c2b1:decide (FloatKind.f64.format.order a0 9218868437227405311 = some .gt) = false:=by simpa using c2))
 (try (have c2b2:(FloatKind.f64.format.order a0 9218868437227405311 == some .gt) = false:=by simpa using c2))
 (try (have c2b3:¬ (FloatKind.f64.format.order a0 9218868437227405311 = some .gt):=by simpa using c2))
 clear c2;obtain rfl:=Option.some.inj H;go_enter Tryz.func92,Tryz.ntmps92;go_wp2;go_ret;exact ⟨by first | rfl | (simp;done) | (simp [*];done),by repeat (first | exact Drawn0.refl _ | apply Drawn0.step)⟩
def beaconref01_sign.f (a0:Nat):Option (Bool):=some (((a0:Int) / 9223372036854775808) == 1)
set_option maxHeartbeats 8000000 in
set_option maxRecDepth 100000 in
theorem beaconref01_sign.calls (a0:Nat) (r:Bool) (w:World) (h:beaconref01_sign.f a0 = some r) :
  Calls Tryz.prog 93 #[.float .f64 a0] w fun e w' => e = .returned (.bool r) ∧ Drawn0 w w':=by
 have hX42:=run_Float64bits Tryz.func42 (by kernel_rfl) (by kernel_rfl) (by kernel_rfl) (by kernel_rfl);have H:(some (((a0:Int) / 9223372036854775808) == 1)) = some r:=h;clear h;obtain rfl:=Option.some.inj H;go_enter Tryz.func93,Tryz.ntmps93;go_wp2;go_ret;exact ⟨by first | rfl | (simp;done) | (simp [*];done),by repeat (first | exact Drawn0.refl _ | apply Drawn0.step)⟩
def math_Abs.f (a0:Nat):Option (Nat):=some ((Go.bits .andNot .u64 (a0:Int) 9223372036854775808).toNat)
set_option maxHeartbeats 8000000 in
set_option maxRecDepth 100000 in
theorem math_Abs.calls (a0:Nat) (r:Nat) (w:World) (h:math_Abs.f a0 = some r) :
  Calls Tryz.prog 78 #[.float .f64 a0] w fun e w' => e = .returned (.float .f64 r) ∧ Drawn0 w w':=by
 have hX42:=run_Float64bits Tryz.func42 (by kernel_rfl) (by kernel_rfl) (by kernel_rfl) (by kernel_rfl);have hX99:=run_Float64frombits Tryz.func99 (by kernel_rfl) (by kernel_rfl) (by kernel_rfl) (by kernel_rfl);have H:(some ((Go.bits .andNot .u64 (a0:Int) 9223372036854775808).toNat)) = some r:=h;clear h;obtain rfl:=Option.some.inj H;go_enter Tryz.func78,Tryz.ntmps78;go_wp2;go_ret;exact ⟨by first | rfl | (simp;done) | (simp [*];done),by repeat (first | exact Drawn0.refl _ | apply Drawn0.step)⟩
def math_Trunc.f (a0:Nat):Option (Nat):=(archTruncBits a0).bind fun t123 => (some t123)
set_option maxHeartbeats 8000000 in
set_option maxRecDepth 100000 in
theorem math_Trunc.calls (a0:Nat) (r:Nat) (w:World) (h:math_Trunc.f a0 = some r) :
  Calls Tryz.prog 101 #[.float .f64 a0] w fun e w' => e = .returned (.float .f64 r) ∧ Drawn0 w w':=by
 have H:((archTruncBits a0).bind fun t123 => (some t123)) = some r:=h;clear h;replace H:=Option.bind_eq_some_iff.mp H;obtain ⟨t123,A20,H⟩:=H;replace H:(some t123) = some r:=H;have A2f:∀ W_:World,(callFunc 115 #[.float .f64 a0]).run Tryz.prog W_ = .ok (.value (.float .f64 t123)) W_:=fun W_ => run_archTruncBits Tryz.func115 (by kernel_rfl) (by kernel_rfl) (by kernel_rfl) (by kernel_rfl) _ _ A20 W_
 have A2:=Aside0.mk A20;clear A20;obtain rfl:=Option.some.inj H;go_enter Tryz.func101,Tryz.ntmps101;go_wp2;go_ret;exact ⟨by first | rfl | (simp;done) | (simp [*];done),by repeat (first | exact Drawn0.refl _ | apply Drawn0.step)⟩
def beaconref01_quarter.f (a0:Nat):Option (Bool):=(floatBits .mul .f64 a0 4616189618054758400).bind fun t124 => ((math_Trunc.f t124).bind fun t125 => (some (FloatKind.f64.format.order t125 t124 == some .eq)))
set_option maxHeartbeats 8000000 in
set_option maxRecDepth 100000 in
theorem beaconref01_quarter.calls (a0:Nat) (r:Bool) (w:World) (h:beaconref01_quarter.f a0 = some r) :
  Calls Tryz.prog 94 #[.float .f64 a0] w fun e w' => e = .returned (.bool r) ∧ Drawn0 w w':=by
 have H:((floatBits .mul .f64 a0 4616189618054758400).bind fun t124 => ((math_Trunc.f t124).bind fun t125 => (some (FloatKind.f64.format.order t125 t124 == some .eq)))) = some r:=h;clear h;replace H:=Option.bind_eq_some_iff.mp H;obtain ⟨t124,A20,H⟩:=H;replace H:((math_Trunc.f t124).bind fun t125 => (some (FloatKind.f64.format.order t125 t124 == some .eq))) = some r:=H;have A2f:∀ W_:World,(binOp .mul 28 (.float .f64 a0) (.float .f64 4616189618054758400)).run Tryz.prog W_ = .ok (.float .f64 t124) W_:=fun W_ => run_float_arith W_ .mul 28 .f64 _ _ _ A20
 have A2:=Aside0.mk A20;clear A20;replace H:=Option.bind_eq_some_iff.mp H;obtain ⟨t125,A30,H⟩:=H;replace H:(some (FloatKind.f64.format.order t125 t124 == some .eq)) = some r:=H;have A3:=Aside0.mk A30;clear A30;obtain rfl:=Option.some.inj H;go_enter Tryz.func94,Tryz.ntmps94
 go_wp2_with (first | ((with_reducible refine gate_callee (f:=101) rfl ?_);refine goesL_ (some 5) rfl rfl Tryz.func101 (by kernel_rfl) rfl #[.float .f64 t124] rfl (by (try simp only [List.map_toArray,List.map_cons,List.map_nil]);first | done | rfl | (simp only [List.length_drop,List.length_take];rfl)) ?_;(with_reducible refine (math_Trunc.calls t124 t125 _ A3.out).mono ?_);rintro e w' ⟨rfl,⟨nd,rfl⟩⟩;refine ⟨_,rfl,?_⟩))
 go_ret;exact ⟨by first | rfl | (simp;done) | (simp [*];done),by repeat (first | exact Drawn0.refl _ | apply Drawn0.step)⟩
end Go.Proofs.YtblemmagkehanaaGreat.PA
