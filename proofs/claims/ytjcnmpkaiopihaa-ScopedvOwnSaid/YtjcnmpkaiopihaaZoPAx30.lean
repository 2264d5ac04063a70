/- Printed by a program of this session (wip/tools/patch_print.py and pr.py, over the kit's print): each Go function as a plain Lean function, and that the Go code comes to just its answers. Conditions: those that each theorem names. -/
import Derived.Test.YtjcnmpkaiopihaaZoMn
import Derived.Test.YtjcnmpkaiopihaaZoPAx0
import Derived.Test.YtjcnmpkaiopihaaZoPAx2
import Derived.Test.YtjcnmpkaiopihaaZoPAx26
import Derived.Test.YtjcnmpkaiopihaaZoPAx29
namespace Go.Proofs.Ytjcnmpkaiopihaa.PA
open Go.RowKit Go.Proofs.YtjcnmpkaiopihaaW.PrintWords Go.Proofs.YtjcnmpkaiopihaaW.PrintLast Go.Proofs.YtjcnmpkaiopihaaW.PrintMore
attribute [local go_sem] max2_int min2_int max_two min_two max_three min_three max_four min_four
set_option linter.unusedVariables false
set_option linter.unusedSimpArgs false
mutual
def beaconref16_MayBalls.l0:Nat → Int → List (S58) → Int → Option (Bool)
 | 0,_,_,_ => none
 | k + 1,x0,x1,x5 => if x5 < (x1.length:Int) then (if 0 ≤ x5 then (if ((rd_T58 x1 x5).f1) = 2 then (beaconref16_MayBalls.j1 k x0 x1 x5 false ((rd_T58 x1 x5).f0) ((rd_T58 x1 x5).f1) ((rd_T58 x1 x5).f2) ((rd_T58 x1 x5).f3) ((rd_T58 x1 x5).f4) ((rd_T58 x1 x5).f5)) else (beaconref16_MayBalls.j1 k x0 x1 x5 (((rd_T58 x1 x5).f1) != 3) ((rd_T58 x1 x5).f0) ((rd_T58 x1 x5).f1) ((rd_T58 x1 x5).f2) ((rd_T58 x1 x5).f3) ((rd_T58 x1 x5).f4) ((rd_T58 x1 x5).f5))) else (none)) else (some true)
def beaconref16_MayBalls.j1:Nat → Int → List (S58) → Int → Bool → Int → Int → Nat → Int → Nat → Int → Option (Bool)
 | 0,_,_,_,_,_,_,_,_,_,_ => none
 | k + 1,x0,x1,x5,x24,x436000,x436001,x436002,x436003,x436004,x436005 => if x24 = true then (some false) else (if x5 > 0 then (if 0 ≤ (wrap64 (x5 - 1)) then (if (wrap64 (x5 - 1)) < (x1.length:Int) then ((beaconref16_ahead.f ((rd_T58 x1 (wrap64 (x5 - 1))).f0) ((rd_T58 x1 (wrap64 (x5 - 1))).f1) ((rd_T58 x1 (wrap64 (x5 - 1))).f2) ((rd_T58 x1 (wrap64 (x5 - 1))).f3) ((rd_T58 x1 (wrap64 (x5 - 1))).f4) ((rd_T58 x1 (wrap64 (x5 - 1))).f5) x436000 x436001 x436002 x436003 x436004 x436005).bind fun t437 => (if t437 = true then ((beaconref16_number.f x436000).bind fun t438 => (if t438 = true then (if x436000 = x0 then (beaconref16_MayBalls.j2 k x0 x1 x5 true x436000 x436001 x436002 x436003 x436004 x436005) else ((beaconref16_number.f x436003).bind fun t439 => (beaconref16_MayBalls.j2 k x0 x1 x5 (!t439) x436000 x436001 x436002 x436003 x436004 x436005))) else (beaconref16_MayBalls.j2 k x0 x1 x5 true x436000 x436001 x436002 x436003 x436004 x436005))) else (beaconref16_MayBalls.j2 k x0 x1 x5 true x436000 x436001 x436002 x436003 x436004 x436005))) else (none)) else (none)) else ((beaconref16_number.f x436000).bind fun t440 => (if t440 = true then (if x436000 = x0 then (beaconref16_MayBalls.j2 k x0 x1 x5 true x436000 x436001 x436002 x436003 x436004 x436005) else ((beaconref16_number.f x436003).bind fun t441 => (beaconref16_MayBalls.j2 k x0 x1 x5 (!t441) x436000 x436001 x436002 x436003 x436004 x436005))) else (beaconref16_MayBalls.j2 k x0 x1 x5 true x436000 x436001 x436002 x436003 x436004 x436005))))
def beaconref16_MayBalls.j2:Nat → Int → List (S58) → Int → Bool → Int → Int → Nat → Int → Nat → Int → Option (Bool)
 | 0,_,_,_,_,_,_,_,_,_,_ => none
 | k + 1,x0,x1,x5,x54,x436000,x436001,x436002,x436003,x436004,x436005 => if x54 = true then (some false) else ((beaconref06_Far.f x436002).bind fun t442 => (if t442 = true then ((beaconref16_far.f x436002).bind fun t443 => (if t443 = true then (beaconref16_MayBalls.j3 k x0 x1 x5 true x436000 x436001 x436002 x436003 x436004 x436005) else (if (FloatKind.f64.format.order x436002 0 == some .eq) = true then (beaconref16_MayBalls.j3 k x0 x1 x5 true x436000 x436001 x436002 x436003 x436004 x436005) else ((beaconref06_Far.f x436004).bind fun t444 => (if t444 = true then (beaconref16_MayBalls.j3 k x0 x1 x5 (FloatKind.f64.format.order x436004 x436002 == some .lt) x436000 x436001 x436002 x436003 x436004 x436005) else (beaconref16_MayBalls.j3 k x0 x1 x5 true x436000 x436001 x436002 x436003 x436004 x436005)))))) else (beaconref16_MayBalls.j3 k x0 x1 x5 true x436000 x436001 x436002 x436003 x436004 x436005)))
def beaconref16_MayBalls.j3:Nat → Int → List (S58) → Int → Bool → Int → Int → Nat → Int → Nat → Int → Option (Bool)
 | 0,_,_,_,_,_,_,_,_,_,_ => none
 | k + 1,x0,x1,x5,x81,x436000,x436001,x436002,x436003,x436004,x436005 => if x81 = true then (some false) else ((beaconref16_number.f x436005).bind fun t445 => (if t445 = true then (beaconref16_MayBalls.j4 k x0 x1 x5 false x436000 x436001 x436002 x436003 x436004 x436005) else (if x436005 = 0 then ((beaconref16_far.f x436004).bind fun t446 => (beaconref16_MayBalls.j4 k x0 x1 x5 (!t446) x436000 x436001 x436002 x436003 x436004 x436005)) else (beaconref16_MayBalls.j4 k x0 x1 x5 (!false) x436000 x436001 x436002 x436003 x436004 x436005))))
def beaconref16_MayBalls.j4:Nat → Int → List (S58) → Int → Bool → Int → Int → Nat → Int → Nat → Int → Option (Bool)
 | 0,_,_,_,_,_,_,_,_,_,_ => none
 | k + 1,x0,x1,x5,x96,x436000,x436001,x436002,x436003,x436004,x436005 => if x96 = true then (some false) else (if x436005 = 0 then (beaconref16_MayBalls.l0 k x0 x1 (wrap64 (x5 + 1))) else ((beaconref16_far.f x436004).bind fun t447 => (if t447 = true then (some false) else (beaconref16_MayBalls.l0 k x0 x1 (wrap64 (x5 + 1))))))
end
def beaconref16_MayBalls.f (k:Nat) (a0:Int) (l1:List (S58)):Option (Bool):=beaconref16_MayBalls.l0 k a0 l1 0
def beaconref16_MayBalls.T7:Bool × List (List Nat × List Nat):=(true,[([],[]),([0],[0]),([1],[1]),([2],[2]),([2],[2]),([4,2],[2,4]),([3,5,2],[2,3,5]),([6,2],[2,6]),([2],[2]),([7,8,2,2],[2,7,8]),([9,2],[2,9]),([2,10],[2,10]),([11,9],[11]),([12],[12]),([13,12],[12,13]),([14,12,12],[12,14]),([15,12],[12,15]),([12,16],[12,16]),([17,15],[17]),([18],[18]),([19,18],[18,19]),([18],[18]),([20,21,18],[18,20,21]),([18,22],[18,22]),([23,18],[23]),([24],[24]),([25,24],[24,25]),([26,24,24],[24,26]),([27,24],[24,27]),([24,28],[24,28])])
def beaconref16_MayBalls.B7:List Nat:=[0,1,3,7,7,23,63,127,7,511,1023,2047,4095,8191,16383,32767,65535,131071,262143,524287,1048575,524287,4194303,8388607,16777215,33554431,67108863,134217727,268435455,536870911]
theorem beaconref16_MayBalls.tab7:rtab .any (opsOf Try.f24 7) = beaconref16_MayBalls.T7:=by kernel_rfl
theorem beaconref16_MayBalls.bits7:waitsOk beaconref16_MayBalls.T7.2 beaconref16_MayBalls.B7 = true:=by kernel_rfl
set_option maxHeartbeats 8000000 in
set_option maxRecDepth 100000 in
theorem beaconref16_MayBalls.calls (k:Nat) (a0:Int) (A1:Option Addr) (c1:Nat) (l1:List (S58)) (r:Bool) (w:World) (hr1:Kd.C k58 w A1 l1.length l1) (hc1:l1.length ≤ c1) (h:beaconref16_MayBalls.f k a0 l1 = some r) :
  Calls Try.prog 24 #[.int .i64 a0,.slice A1 l1.length c1] w fun e w' => e = .returned (.bool r) ∧ Below w.heap.size w w':=by
 have hu58:=Try.underlying58
 have HR1:=Aside0.mk hr1
 have HC1:=Aside0.mk hc1
 clear hr1 hc1
 have HB:=Aside0.mk (Below.refl w.heap.size w)
 have H:(beaconref16_MayBalls.l0 k a0 l1 0) = some r:=h
 clear h
 have H':=Aside0.mk H
 clear H
 go_enter Try.func24,Try.ntmps24
 go_wp2
 go_loopg [5] k (fun kq v5 w' => ∃ (x5_1:Int),v5 = .int .i64 x5_1 ∧ Aside0 (beaconref16_MayBalls.l0 kq a0 l1 x5_1 = some r) ∧ Aside0 (kq ≤ k) ∧ Aside0 (Below w.heap.size w w'))
 case atStart => exact ⟨(0),(by first | rfl | (simp;done) | (simp [*];done)),H',⟨Nat.le_refl _⟩,⟨by repeat (first | (with_reducible first | exact HB.out | apply below_alloc | apply pw_below_drewN | apply below_drew1) | exact HB.out)⟩⟩
 case round =>
  clear H'
  obtain ⟨x5_1,rfl,HA,HK1,HB⟩:=hrel
  cases gk with
  | zero => exact absurd HA.out (by simp [beaconref16_MayBalls.l0])
  | succ k1 =>
   have H:=HA.out
   clear HA
   simp only [beaconref16_MayBalls.l0] at H
   by_cases c3:x5_1 < (l1.length:Int)
   rotate_left
   ·rw [if_neg c3] at H
    have c3b0:decide (x5_1 < (l1.length:Int)) = false:=decide_eq_false c3
    clear c3
    obtain rfl:=Option.some.inj H
    go_wp2
    go_ret
    exact ⟨by first | rfl | (simp [errW_none,errW_some] <;> rfl) | (simp [*,errW_none,errW_some] <;> rfl),by repeat (first | (with_reducible first | exact HB.out | apply below_alloc | apply pw_below_drewN | apply below_drew1) | exact HB.out)⟩
   rw [if_pos c3] at H
   have c3b0:decide (x5_1 < (l1.length:Int)) = true:=decide_eq_true c3
   clear c3
   by_cases c4:0 ≤ x5_1
   rotate_left
   ·rw [if_neg c4] at H
    exact absurd H (by simp)
   rw [if_pos c4] at H
   have c4b0:decide (0 ≤ x5_1) = true:=decide_eq_true c4
   clear c4
   have HC5:=Aside0.mk H
   clear H
   have p434:0 ≤ (x5_1:Int):=of_decide_eq_true (by first | (with_reducible assumption) | assumption)
   have q434:x5_1 < (l1.length:Int):=of_decide_eq_true (by first | (with_reducible assumption) | assumption)
   obtain ⟨ad434,e434,hx434_0,hx434_1,hx434_2,hx434_3,hx434_4,hx434_5⟩:=at_T58 HR1.out x5_1 p434 q434
   cases e434
   replace hx434_0:=(HB.out.cell (World.block_lt_of_cell? w _ hx434_0)).trans hx434_0
   replace hx434_1:=(HB.out.cell (World.block_lt_of_cell? w _ hx434_1)).trans hx434_1
   replace hx434_2:=(HB.out.cell (World.block_lt_of_cell? w _ hx434_2)).trans hx434_2
   replace hx434_3:=(HB.out.cell (World.block_lt_of_cell? w _ hx434_3)).trans hx434_3
   replace hx434_4:=(HB.out.cell (World.block_lt_of_cell? w _ hx434_4)).trans hx434_4
   replace hx434_5:=(HB.out.cell (World.block_lt_of_cell? w _ hx434_5)).trans hx434_5
   replace p434:=eq_true p434
   replace q434:=eq_true q434
   go_upto_region 5 with (first | ((with_reducible refine gate_dst (N:=6) rfl ?_);refine box_event ?hg (N:=6) ?hd (cs:=#[.int .i64 0,.int .i64 0,.float .f64 0,.int .i64 0,.float .f64 0,.int .i64 0]) (t:=58) ?hr ?_;(case hd => rfl);(case hg => rfl);(case hr => first | (go_simp;done) | (go_simp;rfl));intro gb435 hg w6 hbox hb;have n0_:=Aside0.mk (below_step (by repeat (first | (with_reducible first | exact HB.out | apply below_alloc | apply pw_below_drewN | apply below_drew1) | exact HB.out)) hb);have n1_:=Aside0.mk (hbox);have n2_:=Aside0.mk ((by rw [hg];exact (below_size (by repeat (first | (with_reducible first | exact HB.out | apply below_alloc | apply pw_below_drewN | apply below_drew1) | exact HB.out))):w.heap.size ≤ gb435));have n3_:=Aside0.mk ((by rw [hg];exact (below_size (by repeat (first | (with_reducible first | exact HB.out | apply below_alloc | apply pw_below_drewN | apply below_drew1) | exact HB.out))):w.heap.size ≤ gb435));clear HB;have HB:=n0_;have BK435:=n1_;have GW435:=n2_;have GE435:=n3_;clear n0_ n1_ n2_ n3_;clear hb hbox hg;have hcz7_0:w6.cell? ⟨gb435,0,none⟩ = some (.int .i64 0):=(blk_cell BK435.out 0).trans rfl;have hcz7_1:w6.cell? ⟨gb435,1,none⟩ = some (.int .i64 0):=(blk_cell BK435.out 1).trans rfl;have hcz7_2:w6.cell? ⟨gb435,2,none⟩ = some (.float .f64 0):=(blk_cell BK435.out 2).trans rfl;have hcz7_3:w6.cell? ⟨gb435,3,none⟩ = some (.int .i64 0):=(blk_cell BK435.out 3).trans rfl;have hcz7_4:w6.cell? ⟨gb435,4,none⟩ = some (.float .f64 0):=(blk_cell BK435.out 4).trans rfl;have hcz7_5:w6.cell? ⟨gb435,5,none⟩ = some (.int .i64 0):=(blk_cell BK435.out 5).trans rfl;have hfz7_0:=blk_frozen BK435.out 0;have hfz7_1:=blk_frozen BK435.out 1;have hfz7_2:=blk_frozen BK435.out 2;have hfz7_3:=blk_frozen BK435.out 3;have hfz7_4:=blk_frozen BK435.out 4;have hfz7_5:=blk_frozen BK435.out 5))
   (try simp only [Act.put,List.setIfInBounds_toArray,List.set_cons_zero,List.set_cons_succ])
   go_cut [24] (fun v24 wc => ∃ (kq:Nat) (x24_4:Bool),v24 = .bool x24_4 ∧ Aside0 (beaconref16_MayBalls.j1 kq a0 l1 x5_1 x24_4 ((rd_T58 l1 x5_1).f0) ((rd_T58 l1 x5_1).f1) ((rd_T58 l1 x5_1).f2) ((rd_T58 l1 x5_1).f3) ((rd_T58 l1 x5_1).f4) ((rd_T58 l1 x5_1).f5) = some r) ∧ Aside0 (kq ≤ k1) ∧ Aside0 (wc.heap[gb435]? = some (.cells #[.int .i64 ((rd_T58 l1 x5_1).f0),.int .i64 ((rd_T58 l1 x5_1).f1),.float .f64 ((rd_T58 l1 x5_1).f2),.int .i64 ((rd_T58 l1 x5_1).f3),.float .f64 ((rd_T58 l1 x5_1).f4),.int .i64 ((rd_T58 l1 x5_1).f5)] 58 (0,0))) ∧ Aside0 (Below w.heap.size w wc))
   case first =>
    have H:=HC5.out
    clear HC5
    by_cases c8:((rd_T58 l1 x5_1).f1) = 2
    ·rw [if_pos c8] at H
     have c8b0:(((rd_T58 l1 x5_1).f1) == 2) = true:=beq_iff_eq.mpr c8
     have c8b1:(((rd_T58 l1 x5_1).f1) != 2) = false:=bne_eq_false_iff_eq.mpr c8
     clear c8
     (first | rw [c8b0] | (simp only [i64_w,i32_w];rw [c8b0]) | skip)
     have H':=Aside0.mk H
     clear H
     have hcz9_0:w6.cell? ⟨gb435,0,none⟩ = some (.int .i64 0):=(blk_cell BK435.out 0).trans rfl
     have hcz9_1:w6.cell? ⟨gb435,1,none⟩ = some (.int .i64 0):=(blk_cell BK435.out 1).trans rfl
     have hcz9_2:w6.cell? ⟨gb435,2,none⟩ = some (.float .f64 0):=(blk_cell BK435.out 2).trans rfl
     have hcz9_3:w6.cell? ⟨gb435,3,none⟩ = some (.int .i64 0):=(blk_cell BK435.out 3).trans rfl
     have hcz9_4:w6.cell? ⟨gb435,4,none⟩ = some (.float .f64 0):=(blk_cell BK435.out 4).trans rfl
     have hcz9_5:w6.cell? ⟨gb435,5,none⟩ = some (.int .i64 0):=(blk_cell BK435.out 5).trans rfl
     have hfz9_0:=blk_frozen BK435.out 0
     have hfz9_1:=blk_frozen BK435.out 1
     have hfz9_2:=blk_frozen BK435.out 2
     have hfz9_3:=blk_frozen BK435.out 3
     have hfz9_4:=blk_frozen BK435.out 4
     have hfz9_5:=blk_frozen BK435.out 5
     go_wp2
     go_meet
     case rel => exact ⟨_,(false),(by first | rfl | (simp;done) | (simp [*];done)),H',⟨by have:=HK1.out;first | omega | exact Nat.le_refl _⟩,⟨by (with_reducible repeat (first | refine blk_drewN ?_ _ | refine blk_drew ?_ | refine blk_alloc ?_ _));refine blk_put (cs:=#[.int .i64 ((rd_T58 l1 x5_1).f0),.int .i64 ((rd_T58 l1 x5_1).f1),.float .f64 ((rd_T58 l1 x5_1).f2),.int .i64 ((rd_T58 l1 x5_1).f3),.float .f64 ((rd_T58 l1 x5_1).f4),.int .i64 0]) ?_ 5 _ rfl;(with_reducible repeat (first | refine blk_drewN ?_ _ | refine blk_drew ?_ | refine blk_alloc ?_ _));refine blk_put (cs:=#[.int .i64 ((rd_T58 l1 x5_1).f0),.int .i64 ((rd_T58 l1 x5_1).f1),.float .f64 ((rd_T58 l1 x5_1).f2),.int .i64 ((rd_T58 l1 x5_1).f3),.float .f64 0,.int .i64 0]) ?_ 4 _ rfl;(with_reducible repeat (first | refine blk_drewN ?_ _ | refine blk_drew ?_ | refine blk_alloc ?_ _));refine blk_put (cs:=#[.int .i64 ((rd_T58 l1 x5_1).f0),.int .i64 ((rd_T58 l1 x5_1).f1),.float .f64 ((rd_T58 l1 x5_1).f2),.int .i64 0,.float .f64 0,.int .i64 0]) ?_ 3 _ rfl;(with_reducible repeat (first | refine blk_drewN ?_ _ | refine blk_drew ?_ | refine blk_alloc ?_ _));refine blk_put (cs:=#[.int .i64 ((rd_T58 l1 x5_1).f0),.int .i64 ((rd_T58 l1 x5_1).f1),.float .f64 0,.int .i64 0,.float .f64 0,.int .i64 0]) ?_ 2 _ rfl;(with_reducible repeat (first | refine blk_drewN ?_ _ | refine blk_drew ?_ | refine blk_alloc ?_ _));refine blk_put (cs:=#[.int .i64 ((rd_T58 l1 x5_1).f0),.int .i64 0,.float .f64 0,.int .i64 0,.float .f64 0,.int .i64 0]) ?_ 1 _ rfl;(with_reducible repeat (first | refine blk_drewN ?_ _ | refine blk_drew ?_ | refine blk_alloc ?_ _));refine blk_put (cs:=#[.int .i64 0,.int .i64 0,.float .f64 0,.int .i64 0,.float .f64 0,.int .i64 0]) ?_ 0 _ rfl;(with_reducible repeat (first | refine blk_drewN ?_ _ | refine blk_drew ?_ | refine blk_alloc ?_ _));exact BK435.out⟩,⟨by repeat (first | (with_reducible first | exact HB.out | apply below_alloc | apply pw_below_drewN | apply below_drew1 | refine below_set ?_ GE435.out) | exact HB.out)⟩⟩
    rw [if_neg c8] at H
    have c8b0:(((rd_T58 l1 x5_1).f1) == 2) = false:=beq_eq_false_iff_ne.mpr c8
    have c8b1:(((rd_T58 l1 x5_1).f1) != 2) = true:=bne_iff_ne.mpr c8
    (first | rw [c8b0] | (simp only [i64_w,i32_w];rw [c8b0]) | skip)
    have H':=Aside0.mk H
    clear H
    have hcz10_0:w6.cell? ⟨gb435,0,none⟩ = some (.int .i64 0):=(blk_cell BK435.out 0).trans rfl
    have hcz10_1:w6.cell? ⟨gb435,1,none⟩ = some (.int .i64 0):=(blk_cell BK435.out 1).trans rfl
    have hcz10_2:w6.cell? ⟨gb435,2,none⟩ = some (.float .f64 0):=(blk_cell BK435.out 2).trans rfl
    have hcz10_3:w6.cell? ⟨gb435,3,none⟩ = some (.int .i64 0):=(blk_cell BK435.out 3).trans rfl
    have hcz10_4:w6.cell? ⟨gb435,4,none⟩ = some (.float .f64 0):=(blk_cell BK435.out 4).trans rfl
    have hcz10_5:w6.cell? ⟨gb435,5,none⟩ = some (.int .i64 0):=(blk_cell BK435.out 5).trans rfl
    have hfz10_0:=blk_frozen BK435.out 0
    have hfz10_1:=blk_frozen BK435.out 1
    have hfz10_2:=blk_frozen BK435.out 2
    have hfz10_3:=blk_frozen BK435.out 3
    have hfz10_4:=blk_frozen BK435.out 4
    have hfz10_5:=blk_frozen BK435.out 5
    go_wp2
    go_meet
    case rel => exact ⟨_,((((rd_T58 l1 x5_1).f1) != 3)),(by first | rfl | (simp;done) | (simp [*];done)),H',⟨by have:=HK1.out;first | omega | exact Nat.le_refl _⟩,⟨by (with_reducible repeat (first | refine blk_drewN ?_ _ | refine blk_drew ?_ | refine blk_alloc ?_ _));refine blk_put (cs:=#[.int .i64 ((rd_T58 l1 x5_1).f0),.int .i64 ((rd_T58 l1 x5_1).f1),.float .f64 ((rd_T58 l1 x5_1).f2),.int .i64 ((rd_T58 l1 x5_1).f3),.float .f64 ((rd_T58 l1 x5_1).f4),.int .i64 0]) ?_ 5 _ rfl;(with_reducible repeat (first | refine blk_drewN ?_ _ | refine blk_drew ?_ | refine blk_alloc ?_ _));refine blk_put (cs:=#[.int .i64 ((rd_T58 l1 x5_1).f0),.int .i64 ((rd_T58 l1 x5_1).f1),.float .f64 ((rd_T58 l1 x5_1).f2),.int .i64 ((rd_T58 l1 x5_1).f3),.float .f64 0,.int .i64 0]) ?_ 4 _ rfl;(with_reducible repeat (first | refine blk_drewN ?_ _ | refine blk_drew ?_ | refine blk_alloc ?_ _));refine blk_put (cs:=#[.int .i64 ((rd_T58 l1 x5_1).f0),.int .i64 ((rd_T58 l1 x5_1).f1),.float .f64 ((rd_T58 l1 x5_1).f2),.int .i64 0,.float .f64 0,.int .i64 0]) ?_ 3 _ rfl;(with_reducible repeat (first | refine blk_drewN ?_ _ | refine blk_drew ?_ | refine blk_alloc ?_ _));refine blk_put (cs:=#[.int .i64 ((rd_T58 l1 x5_1).f0),.int .i64 ((rd_T58 l1 x5_1).f1),.float .f64 0,.int .i64 0,.float .f64 0,.int .i64 0]) ?_ 2 _ rfl;(with_reducible repeat (first | refine blk_drewN ?_ _ | refine blk_drew ?_ | refine blk_alloc ?_ _));refine blk_put (cs:=#[.int .i64 ((rd_T58 l1 x5_1).f0),.int .i64 0,.float .f64 0,.int .i64 0,.float .f64 0,.int .i64 0]) ?_ 1 _ rfl;(with_reducible repeat (first | refine blk_drewN ?_ _ | refine blk_drew ?_ | refine blk_alloc ?_ _));refine blk_put (cs:=#[.int .i64 0,.int .i64 0,.float .f64 0,.int .i64 0,.float .f64 0,.int .i64 0]) ?_ 0 _ rfl;(with_reducible repeat (first | refine blk_drewN ?_ _ | refine blk_drew ?_ | refine blk_alloc ?_ _));exact BK435.out⟩,⟨by repeat (first | (with_reducible first | exact HB.out | apply below_alloc | apply pw_below_drewN | apply below_drew1 | refine below_set ?_ GE435.out) | exact HB.out)⟩⟩
   case rest =>
    clear HC5
    obtain ⟨kq,x24_4,rfl,HA,HJ4,BK435,HB⟩:=hcut
    cases kq with
    | zero => exact absurd HA.out (by simp [beaconref16_MayBalls.j1])
    | succ kj4 =>
     have H:=HA.out
     clear HA
     simp only [beaconref16_MayBalls.j1] at H
     by_cases c11:x24_4 = true
     ·subst c11
      have H1:(some false) = some r:=by rw [if_pos rfl] at H;exact H
      clear H
      have H:=H1
      clear H1
      obtain rfl:=Option.some.inj H
      go_wp2
      go_ret
      exact ⟨by first | rfl | (simp [errW_none,errW_some] <;> rfl) | (simp [*,errW_none,errW_some] <;> rfl),by repeat (first | (with_reducible first | exact HB.out | apply below_alloc | apply pw_below_drewN | apply below_drew1 | refine below_set ?_ GE435.out) | exact HB.out)⟩
     replace c11:=Bool.eq_false_iff.mpr c11
     subst c11
     have H1:(if x5_1 > 0 then (if 0 ≤ (wrap64 (x5_1 - 1)) then (if (wrap64 (x5_1 - 1)) < (l1.length:Int) then ((beaconref16_ahead.f ((rd_T58 l1 (wrap64 (x5_1 - 1))).f0) ((rd_T58 l1 (wrap64 (x5_1 - 1))).f1) ((rd_T58 l1 (wrap64 (x5_1 - 1))).f2) ((rd_T58 l1 (wrap64 (x5_1 - 1))).f3) ((rd_T58 l1 (wrap64 (x5_1 - 1))).f4) ((rd_T58 l1 (wrap64 (x5_1 - 1))).f5) ((rd_T58 l1 x5_1).f0) ((rd_T58 l1 x5_1).f1) ((rd_T58 l1 x5_1).f2) ((rd_T58 l1 x5_1).f3) ((rd_T58 l1 x5_1).f4) ((rd_T58 l1 x5_1).f5)).bind fun t437 => (if t437 = true then ((beaconref16_number.f ((rd_T58 l1 x5_1).f0)).bind fun t438 => (if t438 = true then (if ((rd_T58 l1 x5_1).f0) = a0 then (beaconref16_MayBalls.j2 kj4 a0 l1 x5_1 true ((rd_T58 l1 x5_1).f0) ((rd_T58 l1 x5_1).f1) ((rd_T58 l1 x5_1).f2) ((rd_T58 l1 x5_1).f3) ((rd_T58 l1 x5_1).f4) ((rd_T58 l1 x5_1).f5)) else ((beaconref16_number.f ((rd_T58 l1 x5_1).f3)).bind fun t439 => (beaconref16_MayBalls.j2 kj4 a0 l1 x5_1 (!t439) ((rd_T58 l1 x5_1).f0) ((rd_T58 l1 x5_1).f1) ((rd_T58 l1 x5_1).f2) ((rd_T58 l1 x5_1).f3) ((rd_T58 l1 x5_1).f4) ((rd_T58 l1 x5_1).f5)))) else (beaconref16_MayBalls.j2 kj4 a0 l1 x5_1 true ((rd_T58 l1 x5_1).f0) ((rd_T58 l1 x5_1).f1) ((rd_T58 l1 x5_1).f2) ((rd_T58 l1 x5_1).f3) ((rd_T58 l1 x5_1).f4) ((rd_T58 l1 x5_1).f5)))) else (beaconref16_MayBalls.j2 kj4 a0 l1 x5_1 true ((rd_T58 l1 x5_1).f0) ((rd_T58 l1 x5_1).f1) ((rd_T58 l1 x5_1).f2) ((rd_T58 l1 x5_1).f3) ((rd_T58 l1 x5_1).f4) ((rd_T58 l1 x5_1).f5)))) else (none)) else (none)) else ((beaconref16_number.f ((rd_T58 l1 x5_1).f0)).bind fun t440 => (if t440 = true then (if ((rd_T58 l1 x5_1).f0) = a0 then (beaconref16_MayBalls.j2 kj4 a0 l1 x5_1 true ((rd_T58 l1 x5_1).f0) ((rd_T58 l1 x5_1).f1) ((rd_T58 l1 x5_1).f2) ((rd_T58 l1 x5_1).f3) ((rd_T58 l1 x5_1).f4) ((rd_T58 l1 x5_1).f5)) else ((beaconref16_number.f ((rd_T58 l1 x5_1).f3)).bind fun t441 => (beaconref16_MayBalls.j2 kj4 a0 l1 x5_1 (!t441) ((rd_T58 l1 x5_1).f0) ((rd_T58 l1 x5_1).f1) ((rd_T58 l1 x5_1).f2) ((rd_T58 l1 x5_1).f3) ((rd_T58 l1 x5_1).f4) ((rd_T58 l1 x5_1).f5)))) else (beaconref16_MayBalls.j2 kj4 a0 l1 x5_1 true ((rd_T58 l1 x5_1).f0) ((rd_T58 l1 x5_1).f1) ((rd_T58 l1 x5_1).f2) ((rd_T58 l1 x5_1).f3) ((rd_T58 l1 x5_1).f4) ((rd_T58 l1 x5_1).f5))))) = some r:=by rw [if_neg (show ¬ (false = true) by decide)] at H;exact H
     clear H
     have H:=H1
     clear H1
     have HC12:=Aside0.mk H
     clear H
     go_upto_region 7 with (fail)
     go_cut [54] (fun v54 wc => ∃ (kq:Nat) (x54_11:Bool),v54 = .bool x54_11 ∧ Aside0 (beaconref16_MayBalls.j2 kq a0 l1 x5_1 x54_11 ((rd_T58 l1 x5_1).f0) ((rd_T58 l1 x5_1).f1) ((rd_T58 l1 x5_1).f2) ((rd_T58 l1 x5_1).f3) ((rd_T58 l1 x5_1).f4) ((rd_T58 l1 x5_1).f5) = some r) ∧ Aside0 (kq ≤ kj4) ∧ Aside0 (wc.heap[gb435]? = some (.cells #[.int .i64 ((rd_T58 l1 x5_1).f0),.int .i64 ((rd_T58 l1 x5_1).f1),.float .f64 ((rd_T58 l1 x5_1).f2),.int .i64 ((rd_T58 l1 x5_1).f3),.float .f64 ((rd_T58 l1 x5_1).f4),.int .i64 ((rd_T58 l1 x5_1).f5)] 58 (0,0))) ∧ Aside0 (Below w.heap.size w wc))
     case first =>
      have H:=HC12.out
      clear HC12
      by_cases c13:x5_1 > 0
      rotate_left
      ·rw [if_neg c13] at H
       have c13b0:decide (0 < x5_1) = false:=decide_eq_false c13
       clear c13
       (first | rw [c13b0] | (simp only [i64_w,i32_w];rw [c13b0]) | skip)
       replace H:=Option.bind_eq_some_iff.mp H
       obtain ⟨t440,A310,H⟩:=H
       replace H:(if t440 = true then (if ((rd_T58 l1 x5_1).f0) = a0 then (beaconref16_MayBalls.j2 kj4 a0 l1 x5_1 true ((rd_T58 l1 x5_1).f0) ((rd_T58 l1 x5_1).f1) ((rd_T58 l1 x5_1).f2) ((rd_T58 l1 x5_1).f3) ((rd_T58 l1 x5_1).f4) ((rd_T58 l1 x5_1).f5)) else ((beaconref16_number.f ((rd_T58 l1 x5_1).f3)).bind fun t441 => (beaconref16_MayBalls.j2 kj4 a0 l1 x5_1 (!t441) ((rd_T58 l1 x5_1).f0) ((rd_T58 l1 x5_1).f1) ((rd_T58 l1 x5_1).f2) ((rd_T58 l1 x5_1).f3) ((rd_T58 l1 x5_1).f4) ((rd_T58 l1 x5_1).f5)))) else (beaconref16_MayBalls.j2 kj4 a0 l1 x5_1 true ((rd_T58 l1 x5_1).f0) ((rd_T58 l1 x5_1).f1) ((rd_T58 l1 x5_1).f2) ((rd_T58 l1 x5_1).f3) ((rd_T58 l1 x5_1).f4) ((rd_T58 l1 x5_1).f5))) = some r:=H
       have A31:=Aside0.mk A310
       clear A310
       by_cases c32:t440 = true
       rotate_left
       ·replace c32:=Bool.eq_false_iff.mpr c32
        subst c32
        have H1:(beaconref16_MayBalls.j2 kj4 a0 l1 x5_1 true ((rd_T58 l1 x5_1).f0) ((rd_T58 l1 x5_1).f1) ((rd_T58 l1 x5_1).f2) ((rd_T58 l1 x5_1).f3) ((rd_T58 l1 x5_1).f4) ((rd_T58 l1 x5_1).f5)) = some r:=by rw [if_neg (show ¬ (false = true) by decide)] at H;exact H
        clear H
        have H:=H1
        clear H1
        have H':=Aside0.mk H
        clear H
        try go_wp2
        have n0_:=Aside0.mk (blk_drew BK435.out)
        have n1_:=Aside0.mk (below_drew1 HB.out)
        clear BK435
        clear HB
        have BK435:=n0_
        have HB:=n1_
        clear n0_ n1_
        refine start_ (n:=30) (S:=fun w' => w'.cell? ⟨gb435,0,none⟩ = some (.int .i64 ((rd_T58 l1 x5_1).f0)) ∧ w'.cell? ⟨gb435,1,none⟩ = some (.int .i64 ((rd_T58 l1 x5_1).f1)) ∧ w'.cell? ⟨gb435,2,none⟩ = some (.float .f64 ((rd_T58 l1 x5_1).f2)) ∧ w'.cell? ⟨gb435,3,none⟩ = some (.int .i64 ((rd_T58 l1 x5_1).f3)) ∧ w'.cell? ⟨gb435,4,none⟩ = some (.float .f64 ((rd_T58 l1 x5_1).f4)) ∧ w'.cell? ⟨gb435,5,none⟩ = some (.int .i64 ((rd_T58 l1 x5_1).f5))) (ds:=[]) #[false,false,false,false,false,false,false,false,false,false,false,false,false,false,false,false,false,false,false,false,false,false,false,false,false,false,false,false,false,false] (by kernel_rfl) rfl rfl ⟨(blk_cell BK435.out 0).trans rfl,(blk_cell BK435.out 1).trans rfl,(blk_cell BK435.out 2).trans rfl,(blk_cell BK435.out 3).trans rfl,(blk_cell BK435.out 4).trans rfl,(blk_cell BK435.out 5).trans rfl⟩ (fun hHeld => ?_);refine with_tabW beaconref16_MayBalls.tab7 beaconref16_MayBalls.bits7 (fun HT_ HW_ => ?_)
        generalize wc.drew = w37 at BK435 HB hHeld ⊢
        refine manyW_ (fuel:=15) (a':=?_) ((0,0) :: (1,0) :: (2,0) :: (3,1) :: (4,1) :: (5,1) :: (6,1) :: (7,1) :: (8,1) :: (9,1) :: (10,1) :: (11,0) :: (12,0) :: (13,0) :: (14,2) :: []) #[true,true,true,true,true,true,true,true,true,true,true,true,true,true,true,false,false,false,false,false,false,false,false,false,false,false,false,false,false,false] rfl HT_ HW_ (by kernel_rfl) (fun _ _ _ _ _ h => h) (fun _ => hHeld) ?_ ?_
        rotate_left
        ·repeat (first | exact Chain.nil _ | (apply Chain.on;rfl;rfl;(focus intro w';go_simp;with_reducible rfl);(focus simp only [Act.put,List.setIfInBounds_toArray,List.set_cons_zero,List.set_cons_succ,i64_w,i32_w];rfl)) | (apply Chain.take;rfl;rfl;(focus rintro w' ⟨s0,s1,s2,s3,s4,s5⟩;go_simp;with_reducible rfl);(focus simp only [Act.put,List.setIfInBounds_toArray,List.set_cons_zero,List.set_cons_succ,i64_w,i32_w];rfl)) | (apply Chain.off;rfl;rfl;(focus simp only [Act.put,List.setIfInBounds_toArray,List.set_cons_zero,List.set_cons_succ,i64_w,i32_w];rfl)))
        refine one_ (i:=15) (N:=some 40) #[true,true,true,true,true,true,true,true,true,true,true,true,true,true,true,true,false,false,false,false,false,false,false,false,false,false,false,false,false,false] rfl rfl (one_of HT_.out (by kernel_rfl)) (by decide) (fun K hK => ?_)
        refine goes_ Try.func59 (by kernel_rfl) rfl #[.int .i64 ((rd_T58 l1 x5_1).f0)] (by rfl) rfl rfl (by (try simp only [List.map_toArray,List.map_cons,List.map_nil]);first | done | rfl | (simp only [List.length_drop,List.length_take];rfl)) ?_
        with_reducible refine (beaconref16_number.calls ((rd_T58 l1 x5_1).f0) false _ A31.out).mono ?_
        rintro e w' ⟨rfl,⟨nd,rfl⟩⟩
        refine ⟨_,rfl,?_⟩
        refine hK.out _ _ ⟨(blk_cell BK435.out 0).trans rfl,(blk_cell BK435.out 1).trans rfl,(blk_cell BK435.out 2).trans rfl,(blk_cell BK435.out 3).trans rfl,(blk_cell BK435.out 4).trans rfl,(blk_cell BK435.out 5).trans rfl⟩ (fun hHeld => ?_)
        clear hK K
        refine norm_ (a':=?_) ?_ ?_
        rotate_left
        ·show Act.put _ (some 40) _ = _
         simp only [Act.put,List.setIfInBounds_toArray,List.set_cons_zero,List.set_cons_succ,i64_w,i32_w]
         rfl
        refine manyT_ (fuel:=0) (a':=?_) ((16,0) :: (17,0) :: (18,0) :: (19,1) :: (20,1) :: (21,1) :: (22,1) :: (23,0) :: (24,0) :: (25,1) :: (26,1) :: (27,1) :: (28,1) :: (29,0) :: []) #[true,true,true,true,true,true,true,true,true,true,true,true,true,true,true,true,true,true,true,true,true,true,true,true,true,true,true,true,true,true] rfl HT_ (by kernel_rfl) (fun _ _ _ _ _ h => h) (fun h => absurd h (by decide)) ?_ ?_
        rotate_left
        ·repeat (first | exact Chain.nil _ | (apply Chain.on;rfl;rfl;(focus intro w';go_simp;with_reducible rfl);(focus simp only [Act.put,List.setIfInBounds_toArray,List.set_cons_zero,List.set_cons_succ,i64_w,i32_w];rfl)) | (apply Chain.off;rfl;rfl;(focus simp only [Act.put,List.setIfInBounds_toArray,List.set_cons_zero,List.set_cons_succ,i64_w,i32_w];rfl)))
        refine done_ (done_of HT_.out (by kernel_rfl)) ?_
        try go_wp2
        go_meet
        case rel => exact ⟨_,(true),(by first | rfl | (simp;done) | (simp [*];done)),H',⟨by have:=HK1.out;have:=HJ4.out;first | omega | exact Nat.le_refl _⟩,⟨by (with_reducible repeat (first | refine blk_drewN ?_ _ | refine blk_drew ?_ | refine blk_alloc ?_ _));exact BK435.out⟩,⟨by repeat (first | (with_reducible first | exact HB.out | apply below_alloc | apply pw_below_drewN | apply below_drew1 | refine below_set ?_ GE435.out) | exact HB.out)⟩⟩
       subst c32
       have H1:(if ((rd_T58 l1 x5_1).f0) = a0 then (beaconref16_MayBalls.j2 kj4 a0 l1 x5_1 true ((rd_T58 l1 x5_1).f0) ((rd_T58 l1 x5_1).f1) ((rd_T58 l1 x5_1).f2) ((rd_T58 l1 x5_1).f3) ((rd_T58 l1 x5_1).f4) ((rd_T58 l1 x5_1).f5)) else ((beaconref16_number.f ((rd_T58 l1 x5_1).f3)).bind fun t441 => (beaconref16_MayBalls.j2 kj4 a0 l1 x5_1 (!t441) ((rd_T58 l1 x5_1).f0) ((rd_T58 l1 x5_1).f1) ((rd_T58 l1 x5_1).f2) ((rd_T58 l1 x5_1).f3) ((rd_T58 l1 x5_1).f4) ((rd_T58 l1 x5_1).f5)))) = some r:=by rw [if_pos rfl] at H;exact H
       clear H
       have H:=H1
       clear H1
       by_cases c33:((rd_T58 l1 x5_1).f0) = a0
       ·rw [if_pos c33] at H
        have c33b0:(((rd_T58 l1 x5_1).f0) == a0) = true:=beq_iff_eq.mpr c33
        have c33b1:(((rd_T58 l1 x5_1).f0) != a0) = false:=bne_eq_false_iff_eq.mpr c33
        clear c33
        have H':=Aside0.mk H
        clear H
        try go_wp2
        have n0_:=Aside0.mk (blk_drew BK435.out)
        have n1_:=Aside0.mk (below_drew1 HB.out)
        clear BK435
        clear HB
        have BK435:=n0_
        have HB:=n1_
        clear n0_ n1_
        refine start_ (n:=30) (S:=fun w' => w'.cell? ⟨gb435,0,none⟩ = some (.int .i64 ((rd_T58 l1 x5_1).f0)) ∧ w'.cell? ⟨gb435,1,none⟩ = some (.int .i64 ((rd_T58 l1 x5_1).f1)) ∧ w'.cell? ⟨gb435,2,none⟩ = some (.float .f64 ((rd_T58 l1 x5_1).f2)) ∧ w'.cell? ⟨gb435,3,none⟩ = some (.int .i64 ((rd_T58 l1 x5_1).f3)) ∧ w'.cell? ⟨gb435,4,none⟩ = some (.float .f64 ((rd_T58 l1 x5_1).f4)) ∧ w'.cell? ⟨gb435,5,none⟩ = some (.int .i64 ((rd_T58 l1 x5_1).f5))) (ds:=[]) #[false,false,false,false,false,false,false,false,false,false,false,false,false,false,false,false,false,false,false,false,false,false,false,false,false,false,false,false,false,false] (by kernel_rfl) rfl rfl ⟨(blk_cell BK435.out 0).trans rfl,(blk_cell BK435.out 1).trans rfl,(blk_cell BK435.out 2).trans rfl,(blk_cell BK435.out 3).trans rfl,(blk_cell BK435.out 4).trans rfl,(blk_cell BK435.out 5).trans rfl⟩ (fun hHeld => ?_);refine with_tabW beaconref16_MayBalls.tab7 beaconref16_MayBalls.bits7 (fun HT_ HW_ => ?_)
        generalize wc.drew = w34 at BK435 HB hHeld ⊢
        refine manyW_ (fuel:=15) (a':=?_) ((0,0) :: (1,0) :: (2,0) :: (3,1) :: (4,1) :: (5,1) :: (6,1) :: (7,1) :: (8,1) :: (9,1) :: (10,1) :: (11,0) :: (12,0) :: (13,0) :: (14,2) :: []) #[true,true,true,true,true,true,true,true,true,true,true,true,true,true,true,false,false,false,false,false,false,false,false,false,false,false,false,false,false,false] rfl HT_ HW_ (by kernel_rfl) (fun _ _ _ _ _ h => h) (fun _ => hHeld) ?_ ?_
        rotate_left
        ·repeat (first | exact Chain.nil _ | (apply Chain.on;rfl;rfl;(focus intro w';go_simp;with_reducible rfl);(focus simp only [Act.put,List.setIfInBounds_toArray,List.set_cons_zero,List.set_cons_succ,i64_w,i32_w];rfl)) | (apply Chain.take;rfl;rfl;(focus rintro w' ⟨s0,s1,s2,s3,s4,s5⟩;go_simp;with_reducible rfl);(focus simp only [Act.put,List.setIfInBounds_toArray,List.set_cons_zero,List.set_cons_succ,i64_w,i32_w];rfl)) | (apply Chain.off;rfl;rfl;(focus simp only [Act.put,List.setIfInBounds_toArray,List.set_cons_zero,List.set_cons_succ,i64_w,i32_w];rfl)))
        refine one_ (i:=15) (N:=some 40) #[true,true,true,true,true,true,true,true,true,true,true,true,true,true,true,true,false,false,false,false,false,false,false,false,false,false,false,false,false,false] rfl rfl (one_of HT_.out (by kernel_rfl)) (by decide) (fun K hK => ?_)
        refine goes_ Try.func59 (by kernel_rfl) rfl #[.int .i64 ((rd_T58 l1 x5_1).f0)] (by rfl) rfl rfl (by (try simp only [List.map_toArray,List.map_cons,List.map_nil]);first | done | rfl | (simp only [List.length_drop,List.length_take];rfl)) ?_
        with_reducible refine (beaconref16_number.calls ((rd_T58 l1 x5_1).f0) true _ A31.out).mono ?_
        rintro e w' ⟨rfl,⟨nd,rfl⟩⟩
        refine ⟨_,rfl,?_⟩
        refine hK.out _ _ ⟨(blk_cell BK435.out 0).trans rfl,(blk_cell BK435.out 1).trans rfl,(blk_cell BK435.out 2).trans rfl,(blk_cell BK435.out 3).trans rfl,(blk_cell BK435.out 4).trans rfl,(blk_cell BK435.out 5).trans rfl⟩ (fun hHeld => ?_)
        clear hK K
        refine norm_ (a':=?_) ?_ ?_
        rotate_left
        ·show Act.put _ (some 40) _ = _
         simp only [Act.put,List.setIfInBounds_toArray,List.set_cons_zero,List.set_cons_succ,i64_w,i32_w]
         rfl
        refine manyW_ (fuel:=0) (a':=?_) ((16,0) :: (17,0) :: (18,0) :: (19,0) :: (21,0) :: (20,2) :: (22,0) :: (23,0) :: (24,0) :: (25,1) :: (26,1) :: (27,1) :: (28,1) :: (29,0) :: []) #[true,true,true,true,true,true,true,true,true,true,true,true,true,true,true,true,true,true,true,true,true,true,true,true,true,true,true,true,true,true] rfl HT_ HW_ (by kernel_rfl) (fun _ _ _ _ _ h => h) (fun _ => hHeld) ?_ ?_
        rotate_left
        ·repeat (first | exact Chain.nil _ | (apply Chain.on;rfl;rfl;(focus intro w';go_simp;with_reducible rfl);(focus simp only [Act.put,List.setIfInBounds_toArray,List.set_cons_zero,List.set_cons_succ,i64_w,i32_w];rfl)) | (apply Chain.take;rfl;rfl;(focus rintro w' ⟨s0,s1,s2,s3,s4,s5⟩;go_simp;with_reducible rfl);(focus simp only [Act.put,List.setIfInBounds_toArray,List.set_cons_zero,List.set_cons_succ,i64_w,i32_w];rfl)) | (apply Chain.off;rfl;rfl;(focus simp only [Act.put,List.setIfInBounds_toArray,List.set_cons_zero,List.set_cons_succ,i64_w,i32_w];rfl)))
        refine done_ (done_of HT_.out (by kernel_rfl)) ?_
        try go_wp2
        go_meet
        case rel => exact ⟨_,(true),(by first | rfl | (simp;done) | (simp [*];done)),H',⟨by have:=HK1.out;have:=HJ4.out;first | omega | exact Nat.le_refl _⟩,⟨by (with_reducible repeat (first | refine blk_drewN ?_ _ | refine blk_drew ?_ | refine blk_alloc ?_ _));exact BK435.out⟩,⟨by repeat (first | (with_reducible first | exact HB.out | apply below_alloc | apply pw_below_drewN | apply below_drew1 | refine below_set ?_ GE435.out) | exact HB.out)⟩⟩
       rw [if_neg c33] at H
       have c33b0:(((rd_T58 l1 x5_1).f0) == a0) = false:=beq_eq_false_iff_ne.mpr c33
       have c33b1:(((rd_T58 l1 x5_1).f0) != a0) = true:=bne_iff_ne.mpr c33
       replace H:=Option.bind_eq_some_iff.mp H
       obtain ⟨t441,A350,H⟩:=H
       replace H:(beaconref16_MayBalls.j2 kj4 a0 l1 x5_1 (!t441) ((rd_T58 l1 x5_1).f0) ((rd_T58 l1 x5_1).f1) ((rd_T58 l1 x5_1).f2) ((rd_T58 l1 x5_1).f3) ((rd_T58 l1 x5_1).f4) ((rd_T58 l1 x5_1).f5)) = some r:=H
       have A35:=Aside0.mk A350
       clear A350
       have H':=Aside0.mk H
       clear H
       try go_wp2
       have n0_:=Aside0.mk (blk_drew BK435.out)
       have n1_:=Aside0.mk (below_drew1 HB.out)
       clear BK435
       clear HB
       have BK435:=n0_
       have HB:=n1_
       clear n0_ n1_
       refine start_ (n:=30) (S:=fun w' => w'.cell? ⟨gb435,0,none⟩ = some (.int .i64 ((rd_T58 l1 x5_1).f0)) ∧ w'.cell? ⟨gb435,1,none⟩ = some (.int .i64 ((rd_T58 l1 x5_1).f1)) ∧ w'.cell? ⟨gb435,2,none⟩ = some (.float .f64 ((rd_T58 l1 x5_1).f2)) ∧ w'.cell? ⟨gb435,3,none⟩ = some (.int .i64 ((rd_T58 l1 x5_1).f3)) ∧ w'.cell? ⟨gb435,4,none⟩ = some (.float .f64 ((rd_T58 l1 x5_1).f4)) ∧ w'.cell? ⟨gb435,5,none⟩ = some (.int .i64 ((rd_T58 l1 x5_1).f5))) (ds:=[]) #[false,false,false,false,false,false,false,false,false,false,false,false,false,false,false,false,false,false,false,false,false,false,false,false,false,false,false,false,false,false] (by kernel_rfl) rfl rfl ⟨(blk_cell BK435.out 0).trans rfl,(blk_cell BK435.out 1).trans rfl,(blk_cell BK435.out 2).trans rfl,(blk_cell BK435.out 3).trans rfl,(blk_cell BK435.out 4).trans rfl,(blk_cell BK435.out 5).trans rfl⟩ (fun hHeld => ?_);refine with_tabW beaconref16_MayBalls.tab7 beaconref16_MayBalls.bits7 (fun HT_ HW_ => ?_)
       generalize wc.drew = w36 at BK435 HB hHeld ⊢
       refine manyW_ (fuel:=15) (a':=?_) ((0,0) :: (1,0) :: (2,0) :: (3,1) :: (4,1) :: (5,1) :: (6,1) :: (7,1) :: (8,1) :: (9,1) :: (10,1) :: (11,0) :: (12,0) :: (13,0) :: (14,2) :: []) #[true,true,true,true,true,true,true,true,true,true,true,true,true,true,true,false,false,false,false,false,false,false,false,false,false,false,false,false,false,false] rfl HT_ HW_ (by kernel_rfl) (fun _ _ _ _ _ h => h) (fun _ => hHeld) ?_ ?_
       rotate_left
       ·repeat (first | exact Chain.nil _ | (apply Chain.on;rfl;rfl;(focus intro w';go_simp;with_reducible rfl);(focus simp only [Act.put,List.setIfInBounds_toArray,List.set_cons_zero,List.set_cons_succ,i64_w,i32_w];rfl)) | (apply Chain.take;rfl;rfl;(focus rintro w' ⟨s0,s1,s2,s3,s4,s5⟩;go_simp;with_reducible rfl);(focus simp only [Act.put,List.setIfInBounds_toArray,List.set_cons_zero,List.set_cons_succ,i64_w,i32_w];rfl)) | (apply Chain.off;rfl;rfl;(focus simp only [Act.put,List.setIfInBounds_toArray,List.set_cons_zero,List.set_cons_succ,i64_w,i32_w];rfl)))
       refine one_ (i:=15) (N:=some 40) #[true,true,true,true,true,true,true,true,true,true,true,true,true,true,true,true,false,false,false,false,false,false,false,false,false,false,false,false,false,false] rfl rfl (one_of HT_.out (by kernel_rfl)) (by decide) (fun K hK => ?_)
       refine goes_ Try.func59 (by kernel_rfl) rfl #[.int .i64 ((rd_T58 l1 x5_1).f0)] (by rfl) rfl rfl (by (try simp only [List.map_toArray,List.map_cons,List.map_nil]);first | done | rfl | (simp only [List.length_drop,List.length_take];rfl)) ?_
       with_reducible refine (beaconref16_number.calls ((rd_T58 l1 x5_1).f0) true _ A31.out).mono ?_
       rintro e w' ⟨rfl,⟨nd,rfl⟩⟩
       refine ⟨_,rfl,?_⟩
       refine hK.out _ _ ⟨(blk_cell BK435.out 0).trans rfl,(blk_cell BK435.out 1).trans rfl,(blk_cell BK435.out 2).trans rfl,(blk_cell BK435.out 3).trans rfl,(blk_cell BK435.out 4).trans rfl,(blk_cell BK435.out 5).trans rfl⟩ (fun hHeld => ?_)
       clear hK K
       refine norm_ (a':=?_) ?_ ?_
       rotate_left
       ·show Act.put _ (some 40) _ = _
        simp only [Act.put,List.setIfInBounds_toArray,List.set_cons_zero,List.set_cons_succ,i64_w,i32_w]
        rfl
       refine manyW_ (fuel:=3) (a':=?_) ((16,0) :: (17,0) :: (18,0) :: (19,0) :: (21,0) :: (20,2) :: (22,0) :: (23,0) :: (24,0) :: (25,0) :: (26,2) :: []) #[true,true,true,true,true,true,true,true,true,true,true,true,true,true,true,true,true,true,true,true,true,true,true,true,true,true,true,false,false,false] rfl HT_ HW_ (by kernel_rfl) (fun _ _ _ _ _ h => h) (fun _ => hHeld) ?_ ?_
       rotate_left
       ·repeat (first | exact Chain.nil _ | (apply Chain.on;rfl;rfl;(focus intro w';go_simp;with_reducible rfl);(focus simp only [Act.put,List.setIfInBounds_toArray,List.set_cons_zero,List.set_cons_succ,i64_w,i32_w];rfl)) | (apply Chain.take;rfl;rfl;(focus rintro w' ⟨s0,s1,s2,s3,s4,s5⟩;go_simp;with_reducible rfl);(focus simp only [Act.put,List.setIfInBounds_toArray,List.set_cons_zero,List.set_cons_succ,i64_w,i32_w];rfl)))
       refine one_ (i:=27) (N:=some 52) #[true,true,true,true,true,true,true,true,true,true,true,true,true,true,true,true,true,true,true,true,true,true,true,true,true,true,true,true,false,false] rfl rfl (one_of HT_.out (by kernel_rfl)) (by decide) (fun K hK => ?_)
       refine goes_ Try.func59 (by kernel_rfl) rfl #[.int .i64 ((rd_T58 l1 x5_1).f3)] (by rfl) rfl rfl (by (try simp only [List.map_toArray,List.map_cons,List.map_nil]);first | done | rfl | (simp only [List.length_drop,List.length_take];rfl)) ?_
       with_reducible refine (beaconref16_number.calls ((rd_T58 l1 x5_1).f3) t441 _ A35.out).mono ?_
       rintro e w' ⟨rfl,⟨nd,rfl⟩⟩
       refine ⟨_,rfl,?_⟩
       refine hK.out _ _ ⟨(blk_cell BK435.out 0).trans rfl,(blk_cell BK435.out 1).trans rfl,(blk_cell BK435.out 2).trans rfl,(blk_cell BK435.out 3).trans rfl,(blk_cell BK435.out 4).trans rfl,(blk_cell BK435.out 5).trans rfl⟩ (fun hHeld => ?_)
       clear hK K
       refine norm_ (a':=?_) ?_ ?_
       rotate_left
       ·show Act.put _ (some 52) _ = _
        simp only [Act.put,List.setIfInBounds_toArray,List.set_cons_zero,List.set_cons_succ,i64_w,i32_w]
        rfl
       refine manyT_ (fuel:=0) (a':=?_) ((28,0) :: (29,0) :: []) #[true,true,true,true,true,true,true,true,true,true,true,true,true,true,true,true,true,true,true,true,true,true,true,true,true,true,true,true,true,true] rfl HT_ (by kernel_rfl) (fun _ _ _ _ _ h => h) (fun h => absurd h (by decide)) ?_ ?_
       rotate_left
       ·repeat (first | exact Chain.nil _ | (apply Chain.on;rfl;rfl;(focus intro w';go_simp;with_reducible rfl);(focus simp only [Act.put,List.setIfInBounds_toArray,List.set_cons_zero,List.set_cons_succ,i64_w,i32_w];rfl)))
       refine done_ (done_of HT_.out (by kernel_rfl)) ?_
       try go_wp2
       go_meet
       case rel => exact ⟨_,(!t441),(by first | rfl | (simp;done) | (simp [*];done)),H',⟨by have:=HK1.out;have:=HJ4.out;first | omega | exact Nat.le_refl _⟩,⟨by (with_reducible repeat (first | refine blk_drewN ?_ _ | refine blk_drew ?_ | refine blk_alloc ?_ _));exact BK435.out⟩,⟨by repeat (first | (with_reducible first | exact HB.out | apply below_alloc | apply pw_below_drewN | apply below_drew1 | refine below_set ?_ GE435.out) | exact HB.out)⟩⟩
      rw [if_pos c13] at H
      have c13b0:decide (0 < x5_1) = true:=decide_eq_true c13
      clear c13
      (first | rw [c13b0] | (simp only [i64_w,i32_w];rw [c13b0]) | skip)
      obtain ⟨ji14,hji14⟩:∃ j_:Int,(wrap64 (x5_1 - 1)) = j_:=⟨_,rfl⟩
      replace H:(if 0 ≤ (ji14) then (if (ji14) < (l1.length:Int) then ((beaconref16_ahead.f ((rd_T58 l1 (ji14)).f0) ((rd_T58 l1 (ji14)).f1) ((rd_T58 l1 (ji14)).f2) ((rd_T58 l1 (ji14)).f3) ((rd_T58 l1 (ji14)).f4) ((rd_T58 l1 (ji14)).f5) ((rd_T58 l1 x5_1).f0) ((rd_T58 l1 x5_1).f1) ((rd_T58 l1 x5_1).f2) ((rd_T58 l1 x5_1).f3) ((rd_T58 l1 x5_1).f4) ((rd_T58 l1 x5_1).f5)).bind fun t437 => (if t437 = true then ((beaconref16_number.f ((rd_T58 l1 x5_1).f0)).bind fun t438 => (if t438 = true then (if ((rd_T58 l1 x5_1).f0) = a0 then (beaconref16_MayBalls.j2 kj4 a0 l1 x5_1 true ((rd_T58 l1 x5_1).f0) ((rd_T58 l1 x5_1).f1) ((rd_T58 l1 x5_1).f2) ((rd_T58 l1 x5_1).f3) ((rd_T58 l1 x5_1).f4) ((rd_T58 l1 x5_1).f5)) else ((beaconref16_number.f ((rd_T58 l1 x5_1).f3)).bind fun t439 => (beaconref16_MayBalls.j2 kj4 a0 l1 x5_1 (!t439) ((rd_T58 l1 x5_1).f0) ((rd_T58 l1 x5_1).f1) ((rd_T58 l1 x5_1).f2) ((rd_T58 l1 x5_1).f3) ((rd_T58 l1 x5_1).f4) ((rd_T58 l1 x5_1).f5)))) else (beaconref16_MayBalls.j2 kj4 a0 l1 x5_1 true ((rd_T58 l1 x5_1).f0) ((rd_T58 l1 x5_1).f1) ((rd_T58 l1 x5_1).f2) ((rd_T58 l1 x5_1).f3) ((rd_T58 l1 x5_1).f4) ((rd_T58 l1 x5_1).f5)))) else (beaconref16_MayBalls.j2 kj4 a0 l1 x5_1 true ((rd_T58 l1 x5_1).f0) ((rd_T58 l1 x5_1).f1) ((rd_T58 l1 x5_1).f2) ((rd_T58 l1 x5_1).f3) ((rd_T58 l1 x5_1).f4) ((rd_T58 l1 x5_1).f5)))) else (none)) else (none)) = some r:=by first | (rw [hji14] at H;exact H) | (simp only [hji14] at H ⊢;exact H)
      have hji14w:(IntKind.i64.wrap (x5_1 - 1)) = ji14:=(i64_w _).trans hji14
      by_cases c15:0 ≤ (ji14)
      rotate_left
      ·rw [if_neg c15] at H
       exact absurd H (by simp)
      rw [if_pos c15] at H
      have c15b0:decide (0 ≤ (ji14)) = true:=decide_eq_true c15
      clear c15
      by_cases c16:(ji14) < (l1.length:Int)
      rotate_left
      ·rw [if_neg c16] at H
       exact absurd H (by simp)
      rw [if_pos c16] at H
      have c16b0:decide ((ji14) < (l1.length:Int)) = true:=decide_eq_true c16
      clear c16
      replace H:=Option.bind_eq_some_iff.mp H
      obtain ⟨t437,A170,H⟩:=H
      replace H:(if t437 = true then ((beaconref16_number.f ((rd_T58 l1 x5_1).f0)).bind fun t438 => (if t438 = true then (if ((rd_T58 l1 x5_1).f0) = a0 then (beaconref16_MayBalls.j2 kj4 a0 l1 x5_1 true ((rd_T58 l1 x5_1).f0) ((rd_T58 l1 x5_1).f1) ((rd_T58 l1 x5_1).f2) ((rd_T58 l1 x5_1).f3) ((rd_T58 l1 x5_1).f4) ((rd_T58 l1 x5_1).f5)) else ((beaconref16_number.f ((rd_T58 l1 x5_1).f3)).bind fun t439 => (beaconref16_MayBalls.j2 kj4 a0 l1 x5_1 (!t439) ((rd_T58 l1 x5_1).f0) ((rd_T58 l1 x5_1).f1) ((rd_T58 l1 x5_1).f2) ((rd_T58 l1 x5_1).f3) ((rd_T58 l1 x5_1).f4) ((rd_T58 l1 x5_1).f5)))) else (beaconref16_MayBalls.j2 kj4 a0 l1 x5_1 true ((rd_T58 l1 x5_1).f0) ((rd_T58 l1 x5_1).f1) ((rd_T58 l1 x5_1).f2) ((rd_T58 l1 x5_1).f3) ((rd_T58 l1 x5_1).f4) ((rd_T58 l1 x5_1).f5)))) else (beaconref16_MayBalls.j2 kj4 a0 l1 x5_1 true ((rd_T58 l1 x5_1).f0) ((rd_T58 l1 x5_1).f1) ((rd_T58 l1 x5_1).f2) ((rd_T58 l1 x5_1).f3) ((rd_T58 l1 x5_1).f4) ((rd_T58 l1 x5_1).f5))) = some r:=H
      have A17:=Aside0.mk A170
      clear A170
      by_cases c18:t437 = true
      rotate_left
      ·replace c18:=Bool.eq_false_iff.mpr c18
       subst c18
       have H1:(beaconref16_MayBalls.j2 kj4 a0 l1 x5_1 true ((rd_T58 l1 x5_1).f0) ((rd_T58 l1 x5_1).f1) ((rd_T58 l1 x5_1).f2) ((rd_T58 l1 x5_1).f3) ((rd_T58 l1 x5_1).f4) ((rd_T58 l1 x5_1).f5)) = some r:=by rw [if_neg (show ¬ (false = true) by decide)] at H;exact H
       clear H
       have H:=H1
       clear H1
       have H':=Aside0.mk H
       clear H
       try go_wp2
       have n0_:=Aside0.mk (blk_drew BK435.out)
       have n1_:=Aside0.mk (below_drew1 HB.out)
       clear BK435
       clear HB
       have BK435:=n0_
       have HB:=n1_
       clear n0_ n1_
       have p436:0 ≤ ((ji14):Int):=of_decide_eq_true (by first | (with_reducible assumption) | assumption)
       have q436:(ji14) < (l1.length:Int):=of_decide_eq_true (by first | (with_reducible assumption) | assumption)
       obtain ⟨ad436,e436,hx436_0,hx436_1,hx436_2,hx436_3,hx436_4,hx436_5⟩:=at_T58 HR1.out (ji14) p436 q436
       have hw436_5:=hx436_5
       have hw436_4:=hx436_4
       have hw436_3:=hx436_3
       have hw436_2:=hx436_2
       have hw436_1:=hx436_1
       have hw436_0:=hx436_0
       obtain rfl:ad434 = ad436:=(by injection e436)
       replace hx436_0:=(HB.out.cell (World.block_lt_of_cell? w _ hx436_0)).trans hx436_0
       replace hx436_1:=(HB.out.cell (World.block_lt_of_cell? w _ hx436_1)).trans hx436_1
       replace hx436_2:=(HB.out.cell (World.block_lt_of_cell? w _ hx436_2)).trans hx436_2
       replace hx436_3:=(HB.out.cell (World.block_lt_of_cell? w _ hx436_3)).trans hx436_3
       replace hx436_4:=(HB.out.cell (World.block_lt_of_cell? w _ hx436_4)).trans hx436_4
       replace hx436_5:=(HB.out.cell (World.block_lt_of_cell? w _ hx436_5)).trans hx436_5
       replace p436:=eq_true p436
       replace q436:=eq_true q436
       refine start_ (n:=30) (S:=fun w' => w'.cell? ⟨gb435,0,none⟩ = some (.int .i64 ((rd_T58 l1 x5_1).f0)) ∧ w'.cell? ⟨gb435,1,none⟩ = some (.int .i64 ((rd_T58 l1 x5_1).f1)) ∧ w'.cell? ⟨gb435,2,none⟩ = some (.float .f64 ((rd_T58 l1 x5_1).f2)) ∧ w'.cell? ⟨gb435,3,none⟩ = some (.int .i64 ((rd_T58 l1 x5_1).f3)) ∧ w'.cell? ⟨gb435,4,none⟩ = some (.float .f64 ((rd_T58 l1 x5_1).f4)) ∧ w'.cell? ⟨gb435,5,none⟩ = some (.int .i64 ((rd_T58 l1 x5_1).f5)) ∧ w'.cell? (ad434.add (((ji14)).toNat * 6)) = some (.int .i64 ((rd_T58 l1 (ji14)).f0)) ∧ w'.cell? ⟨(ad434.add (((ji14)).toNat * 6)).block,(ad434.add (((ji14)).toNat * 6)).off + 1,none⟩ = some (.int .i64 ((rd_T58 l1 (ji14)).f1)) ∧ w'.cell? ⟨(ad434.add (((ji14)).toNat * 6)).block,(ad434.add (((ji14)).toNat * 6)).off + 2,none⟩ = some (.float .f64 ((rd_T58 l1 (ji14)).f2)) ∧ w'.cell? ⟨(ad434.add (((ji14)).toNat * 6)).block,(ad434.add (((ji14)).toNat * 6)).off + 3,none⟩ = some (.int .i64 ((rd_T58 l1 (ji14)).f3)) ∧ w'.cell? ⟨(ad434.add (((ji14)).toNat * 6)).block,(ad434.add (((ji14)).toNat * 6)).off + 4,none⟩ = some (.float .f64 ((rd_T58 l1 (ji14)).f4)) ∧ w'.cell? ⟨(ad434.add (((ji14)).toNat * 6)).block,(ad434.add (((ji14)).toNat * 6)).off + 5,none⟩ = some (.int .i64 ((rd_T58 l1 (ji14)).f5))) (ds:=[]) #[false,false,false,false,false,false,false,false,false,false,false,false,false,false,false,false,false,false,false,false,false,false,false,false,false,false,false,false,false,false] (by kernel_rfl) rfl rfl ⟨(blk_cell BK435.out 0).trans rfl,(blk_cell BK435.out 1).trans rfl,(blk_cell BK435.out 2).trans rfl,(blk_cell BK435.out 3).trans rfl,(blk_cell BK435.out 4).trans rfl,(blk_cell BK435.out 5).trans rfl,((HB.out.cell (World.block_lt_of_cell? w _ hw436_0)).trans hw436_0),((HB.out.cell (World.block_lt_of_cell? w _ hw436_1)).trans hw436_1),((HB.out.cell (World.block_lt_of_cell? w _ hw436_2)).trans hw436_2),((HB.out.cell (World.block_lt_of_cell? w _ hw436_3)).trans hw436_3),((HB.out.cell (World.block_lt_of_cell? w _ hw436_4)).trans hw436_4),((HB.out.cell (World.block_lt_of_cell? w _ hw436_5)).trans hw436_5)⟩ (fun hHeld => ?_);refine with_tabW beaconref16_MayBalls.tab7 beaconref16_MayBalls.bits7 (fun HT_ HW_ => ?_)
       generalize wc.drew = w29 at BK435 HB hx436_0 hx436_1 hx436_2 hx436_3 hx436_4 hx436_5 hHeld ⊢
       refine manyW_ (fuel:=21) (a':=?_) ((0,0) :: (1,0) :: (2,0) :: (3,0) :: (4,0) :: (5,0) :: (6,0) :: (7,2) :: (8,2) :: []) #[true,true,true,true,true,true,true,true,true,false,false,false,false,false,false,false,false,false,false,false,false,false,false,false,false,false,false,false,false,false] rfl HT_ HW_ (by kernel_rfl) (fun _ _ _ _ _ h => h) (fun _ => hHeld) ?_ ?_
       rotate_left
       ·repeat (first | exact Chain.nil _ | (apply Chain.on;rfl;rfl;(focus intro w';go_simp;with_reducible rfl);(focus simp only [Act.put,List.setIfInBounds_toArray,List.set_cons_zero,List.set_cons_succ,i64_w,i32_w];rfl)) | (apply Chain.take;rfl;rfl;(focus rintro w' ⟨s0,s1,s2,s3,s4,s5,s6,s7,s8,s9,s10,s11⟩;go_simp;with_reducible rfl);(focus simp only [Act.put,List.setIfInBounds_toArray,List.set_cons_zero,List.set_cons_succ,i64_w,i32_w];rfl)))
       refine one_ (i:=9) (N:=some 34) #[true,true,true,true,true,true,true,true,true,true,false,false,false,false,false,false,false,false,false,false,false,false,false,false,false,false,false,false,false,false] rfl rfl (one_of HT_.out (by kernel_rfl)) (by decide) (fun K hK => ?_)
       refine goes_ Try.func38 (by kernel_rfl) rfl #[.agg #[.int .i64 ((rd_T58 l1 (ji14)).f0),.int .i64 ((rd_T58 l1 (ji14)).f1),.float .f64 ((rd_T58 l1 (ji14)).f2),.int .i64 ((rd_T58 l1 (ji14)).f3),.float .f64 ((rd_T58 l1 (ji14)).f4),.int .i64 ((rd_T58 l1 (ji14)).f5)],.agg #[.int .i64 ((rd_T58 l1 x5_1).f0),.int .i64 ((rd_T58 l1 x5_1).f1),.float .f64 ((rd_T58 l1 x5_1).f2),.int .i64 ((rd_T58 l1 x5_1).f3),.float .f64 ((rd_T58 l1 x5_1).f4),.int .i64 ((rd_T58 l1 x5_1).f5)]] (by rfl) rfl rfl (by (try simp only [List.map_toArray,List.map_cons,List.map_nil]);first | done | (simp only [hji14];rfl) | rfl | (simp only [List.length_drop,List.length_take];rfl)) ?_
       with_reducible refine (beaconref16_ahead.calls ((rd_T58 l1 (ji14)).f0) ((rd_T58 l1 (ji14)).f1) ((rd_T58 l1 (ji14)).f2) ((rd_T58 l1 (ji14)).f3) ((rd_T58 l1 (ji14)).f4) ((rd_T58 l1 (ji14)).f5) ((rd_T58 l1 x5_1).f0) ((rd_T58 l1 x5_1).f1) ((rd_T58 l1 x5_1).f2) ((rd_T58 l1 x5_1).f3) ((rd_T58 l1 x5_1).f4) ((rd_T58 l1 x5_1).f5) false _ A17.out).mono ?_
       rintro e w30 ⟨rfl,hb⟩
       refine ⟨_,rfl,?_⟩
       have n0_:=Aside0.mk (blk_below (g:=gb435) (o:=.cells #[.int .i64 ((rd_T58 l1 x5_1).f0),.int .i64 ((rd_T58 l1 x5_1).f1),.float .f64 ((rd_T58 l1 x5_1).f2),.int .i64 ((rd_T58 l1 x5_1).f3),.float .f64 ((rd_T58 l1 x5_1).f4),.int .i64 ((rd_T58 l1 x5_1).f5)] 58 (0,0)) (by (with_reducible repeat (first | refine blk_drewN ?_ _ | refine blk_drew ?_ | refine blk_alloc ?_ _));exact BK435.out) hb)
       have n1_:=Aside0.mk (below_step (by repeat (first | (with_reducible first | exact HB.out | apply below_alloc | apply pw_below_drewN | apply below_drew1 | refine below_set ?_ GE435.out) | exact HB.out)) hb)
       clear BK435
       clear HB
       have BK435:=n0_
       have HB:=n1_
       clear n0_ n1_
       (try clear hb)
       (try clear hb2)
       (try clear hk)
       (try clear hi)
       refine hK.out _ _ ⟨(blk_cell BK435.out 0).trans rfl,(blk_cell BK435.out 1).trans rfl,(blk_cell BK435.out 2).trans rfl,(blk_cell BK435.out 3).trans rfl,(blk_cell BK435.out 4).trans rfl,(blk_cell BK435.out 5).trans rfl,((HB.out.cell (World.block_lt_of_cell? w _ hw436_0)).trans hw436_0),((HB.out.cell (World.block_lt_of_cell? w _ hw436_1)).trans hw436_1),((HB.out.cell (World.block_lt_of_cell? w _ hw436_2)).trans hw436_2),((HB.out.cell (World.block_lt_of_cell? w _ hw436_3)).trans hw436_3),((HB.out.cell (World.block_lt_of_cell? w _ hw436_4)).trans hw436_4),((HB.out.cell (World.block_lt_of_cell? w _ hw436_5)).trans hw436_5)⟩ (fun hHeld => ?_)
       clear hK K
       refine norm_ (a':=?_) ?_ ?_
       rotate_left
       ·show Act.put _ (some 34) _ = _
        simp only [Act.put,List.setIfInBounds_toArray,List.set_cons_zero,List.set_cons_succ,i64_w,i32_w]
        rfl
       refine manyT_ (fuel:=0) (a':=?_) ((10,0) :: (11,0) :: (12,0) :: (13,1) :: (14,1) :: (15,1) :: (16,1) :: (17,0) :: (18,0) :: (19,1) :: (20,1) :: (21,1) :: (22,1) :: (23,0) :: (24,0) :: (25,1) :: (26,1) :: (27,1) :: (28,1) :: (29,0) :: []) #[true,true,true,true,true,true,true,true,true,true,true,true,true,true,true,true,true,true,true,true,true,true,true,true,true,true,true,true,true,true] rfl HT_ (by kernel_rfl) (fun _ _ _ _ _ h => h) (fun h => absurd h (by decide)) ?_ ?_
       rotate_left
       ·repeat (first | exact Chain.nil _ | (apply Chain.on;rfl;rfl;(focus intro w';go_simp;with_reducible rfl);(focus simp only [Act.put,List.setIfInBounds_toArray,List.set_cons_zero,List.set_cons_succ,i64_w,i32_w];rfl)) | (apply Chain.off;rfl;rfl;(focus simp only [Act.put,List.setIfInBounds_toArray,List.set_cons_zero,List.set_cons_succ,i64_w,i32_w];rfl)))
       refine done_ (done_of HT_.out (by kernel_rfl)) ?_
       try go_wp2
       go_meet
       case rel => exact ⟨_,(true),(by first | rfl | (simp;done) | (simp [*];done)),H',⟨by have:=HK1.out;have:=HJ4.out;first | omega | exact Nat.le_refl _⟩,⟨by (with_reducible repeat (first | refine blk_drewN ?_ _ | refine blk_drew ?_ | refine blk_alloc ?_ _));exact BK435.out⟩,⟨by repeat (first | (with_reducible first | exact HB.out | apply below_alloc | apply pw_below_drewN | apply below_drew1 | refine below_set ?_ GE435.out) | exact HB.out)⟩⟩
      subst c18
      have H1:((beaconref16_number.f ((rd_T58 l1 x5_1).f0)).bind fun t438 => (if t438 = true then (if ((rd_T58 l1 x5_1).f0) = a0 then (beaconref16_MayBalls.j2 kj4 a0 l1 x5_1 true ((rd_T58 l1 x5_1).f0) ((rd_T58 l1 x5_1).f1) ((rd_T58 l1 x5_1).f2) ((rd_T58 l1 x5_1).f3) ((rd_T58 l1 x5_1).f4) ((rd_T58 l1 x5_1).f5)) else ((beaconref16_number.f ((rd_T58 l1 x5_1).f3)).bind fun t439 => (beaconref16_MayBalls.j2 kj4 a0 l1 x5_1 (!t439) ((rd_T58 l1 x5_1).f0) ((rd_T58 l1 x5_1).f1) ((rd_T58 l1 x5_1).f2) ((rd_T58 l1 x5_1).f3) ((rd_T58 l1 x5_1).f4) ((rd_T58 l1 x5_1).f5)))) else (beaconref16_MayBalls.j2 kj4 a0 l1 x5_1 true ((rd_T58 l1 x5_1).f0) ((rd_T58 l1 x5_1).f1) ((rd_T58 l1 x5_1).f2) ((rd_T58 l1 x5_1).f3) ((rd_T58 l1 x5_1).f4) ((rd_T58 l1 x5_1).f5)))) = some r:=by rw [if_pos rfl] at H;exact H
      clear H
      have H:=H1
      clear H1
      replace H:=Option.bind_eq_some_iff.mp H
      obtain ⟨t438,A190,H⟩:=H
      replace H:(if t438 = true then (if ((rd_T58 l1 x5_1).f0) = a0 then (beaconref16_MayBalls.j2 kj4 a0 l1 x5_1 true ((rd_T58 l1 x5_1).f0) ((rd_T58 l1 x5_1).f1) ((rd_T58 l1 x5_1).f2) ((rd_T58 l1 x5_1).f3) ((rd_T58 l1 x5_1).f4) ((rd_T58 l1 x5_1).f5)) else ((beaconref16_number.f ((rd_T58 l1 x5_1).f3)).bind fun t439 => (beaconref16_MayBalls.j2 kj4 a0 l1 x5_1 (!t439) ((rd_T58 l1 x5_1).f0) ((rd_T58 l1 x5_1).f1) ((rd_T58 l1 x5_1).f2) ((rd_T58 l1 x5_1).f3) ((rd_T58 l1 x5_1).f4) ((rd_T58 l1 x5_1).f5)))) else (beaconref16_MayBalls.j2 kj4 a0 l1 x5_1 true ((rd_T58 l1 x5_1).f0) ((rd_T58 l1 x5_1).f1) ((rd_T58 l1 x5_1).f2) ((rd_T58 l1 x5_1).f3) ((rd_T58 l1 x5_1).f4) ((rd_T58 l1 x5_1).f5))) = some r:=H
      have A19:=Aside0.mk A190
      clear A190
      by_cases c20:t438 = true
      rotate_left
      ·replace c20:=Bool.eq_false_iff.mpr c20
       subst c20
       have H1:(beaconref16_MayBalls.j2 kj4 a0 l1 x5_1 true ((rd_T58 l1 x5_1).f0) ((rd_T58 l1 x5_1).f1) ((rd_T58 l1 x5_1).f2) ((rd_T58 l1 x5_1).f3) ((rd_T58 l1 x5_1).f4) ((rd_T58 l1 x5_1).f5)) = some r:=by rw [if_neg (show ¬ (false = true) by decide)] at H;exact H
       clear H
       have H:=H1
       clear H1
       have H':=Aside0.mk H
       clear H
       try go_wp2
       have n0_:=Aside0.mk (blk_drew BK435.out)
       have n1_:=Aside0.mk (below_drew1 HB.out)
       clear BK435
       clear HB
       have BK435:=n0_
       have HB:=n1_
       clear n0_ n1_
       have p436:0 ≤ ((ji14):Int):=of_decide_eq_true (by first | (with_reducible assumption) | assumption)
       have q436:(ji14) < (l1.length:Int):=of_decide_eq_true (by first | (with_reducible assumption) | assumption)
       obtain ⟨ad436,e436,hx436_0,hx436_1,hx436_2,hx436_3,hx436_4,hx436_5⟩:=at_T58 HR1.out (ji14) p436 q436
       have hw436_5:=hx436_5
       have hw436_4:=hx436_4
       have hw436_3:=hx436_3
       have hw436_2:=hx436_2
       have hw436_1:=hx436_1
       have hw436_0:=hx436_0
       obtain rfl:ad434 = ad436:=(by injection e436)
       replace hx436_0:=(HB.out.cell (World.block_lt_of_cell? w _ hx436_0)).trans hx436_0
       replace hx436_1:=(HB.out.cell (World.block_lt_of_cell? w _ hx436_1)).trans hx436_1
       replace hx436_2:=(HB.out.cell (World.block_lt_of_cell? w _ hx436_2)).trans hx436_2
       replace hx436_3:=(HB.out.cell (World.block_lt_of_cell? w _ hx436_3)).trans hx436_3
       replace hx436_4:=(HB.out.cell (World.block_lt_of_cell? w _ hx436_4)).trans hx436_4
       replace hx436_5:=(HB.out.cell (World.block_lt_of_cell? w _ hx436_5)).trans hx436_5
       replace p436:=eq_true p436
       replace q436:=eq_true q436
       refine start_ (n:=30) (S:=fun w' => w'.cell? ⟨gb435,0,none⟩ = some (.int .i64 ((rd_T58 l1 x5_1).f0)) ∧ w'.cell? ⟨gb435,1,none⟩ = some (.int .i64 ((rd_T58 l1 x5_1).f1)) ∧ w'.cell? ⟨gb435,2,none⟩ = some (.float .f64 ((rd_T58 l1 x5_1).f2)) ∧ w'.cell? ⟨gb435,3,none⟩ = some (.int .i64 ((rd_T58 l1 x5_1).f3)) ∧ w'.cell? ⟨gb435,4,none⟩ = some (.float .f64 ((rd_T58 l1 x5_1).f4)) ∧ w'.cell? ⟨gb435,5,none⟩ = some (.int .i64 ((rd_T58 l1 x5_1).f5)) ∧ w'.cell? (ad434.add (((ji14)).toNat * 6)) = some (.int .i64 ((rd_T58 l1 (ji14)).f0)) ∧ w'.cell? ⟨(ad434.add (((ji14)).toNat * 6)).block,(ad434.add (((ji14)).toNat * 6)).off + 1,none⟩ = some (.int .i64 ((rd_T58 l1 (ji14)).f1)) ∧ w'.cell? ⟨(ad434.add (((ji14)).toNat * 6)).block,(ad434.add (((ji14)).toNat * 6)).off + 2,none⟩ = some (.float .f64 ((rd_T58 l1 (ji14)).f2)) ∧ w'.cell? ⟨(ad434.add (((ji14)).toNat * 6)).block,(ad434.add (((ji14)).toNat * 6)).off + 3,none⟩ = some (.int .i64 ((rd_T58 l1 (ji14)).f3)) ∧ w'.cell? ⟨(ad434.add (((ji14)).toNat * 6)).block,(ad434.add (((ji14)).toNat * 6)).off + 4,none⟩ = some (.float .f64 ((rd_T58 l1 (ji14)).f4)) ∧ w'.cell? ⟨(ad434.add (((ji14)).toNat * 6)).block,(ad434.add (((ji14)).toNat * 6)).off + 5,none⟩ = some (.int .i64 ((rd_T58 l1 (ji14)).f5))) (ds:=[]) #[false,false,false,false,false,false,false,false,false,false,false,false,false,false,false,false,false,false,false,false,false,false,false,false,false,false,false,false,false,false] (by kernel_rfl) rfl rfl ⟨(blk_cell BK435.out 0).trans rfl,(blk_cell BK435.out 1).trans rfl,(blk_cell BK435.out 2).trans rfl,(blk_cell BK435.out 3).trans rfl,(blk_cell BK435.out 4).trans rfl,(blk_cell BK435.out 5).trans rfl,((HB.out.cell (World.block_lt_of_cell? w _ hw436_0)).trans hw436_0),((HB.out.cell (World.block_lt_of_cell? w _ hw436_1)).trans hw436_1),((HB.out.cell (World.block_lt_of_cell? w _ hw436_2)).trans hw436_2),((HB.out.cell (World.block_lt_of_cell? w _ hw436_3)).trans hw436_3),((HB.out.cell (World.block_lt_of_cell? w _ hw436_4)).trans hw436_4),((HB.out.cell (World.block_lt_of_cell? w _ hw436_5)).trans hw436_5)⟩ (fun hHeld => ?_);refine with_tabW beaconref16_MayBalls.tab7 beaconref16_MayBalls.bits7 (fun HT_ HW_ => ?_)
       generalize wc.drew = w27 at BK435 HB hx436_0 hx436_1 hx436_2 hx436_3 hx436_4 hx436_5 hHeld ⊢
       refine manyW_ (fuel:=21) (a':=?_) ((0,0) :: (1,0) :: (2,0) :: (3,0) :: (4,0) :: (5,0) :: (6,0) :: (7,2) :: (8,2) :: []) #[true,true,true,true,true,true,true,true,true,false,false,false,false,false,false,false,false,false,false,false,false,false,false,false,false,false,false,false,false,false] rfl HT_ HW_ (by kernel_rfl) (fun _ _ _ _ _ h => h) (fun _ => hHeld) ?_ ?_
       rotate_left
       ·repeat (first | exact Chain.nil _ | (apply Chain.on;rfl;rfl;(focus intro w';go_simp;with_reducible rfl);(focus simp only [Act.put,List.setIfInBounds_toArray,List.set_cons_zero,List.set_cons_succ,i64_w,i32_w];rfl)) | (apply Chain.take;rfl;rfl;(focus rintro w' ⟨s0,s1,s2,s3,s4,s5,s6,s7,s8,s9,s10,s11⟩;go_simp;with_reducible rfl);(focus simp only [Act.put,List.setIfInBounds_toArray,List.set_cons_zero,List.set_cons_succ,i64_w,i32_w];rfl)))
       refine one_ (i:=9) (N:=some 34) #[true,true,true,true,true,true,true,true,true,true,false,false,false,false,false,false,false,false,false,false,false,false,false,false,false,false,false,false,false,false] rfl rfl (one_of HT_.out (by kernel_rfl)) (by decide) (fun K hK => ?_)
       refine goes_ Try.func38 (by kernel_rfl) rfl #[.agg #[.int .i64 ((rd_T58 l1 (ji14)).f0),.int .i64 ((rd_T58 l1 (ji14)).f1),.float .f64 ((rd_T58 l1 (ji14)).f2),.int .i64 ((rd_T58 l1 (ji14)).f3),.float .f64 ((rd_T58 l1 (ji14)).f4),.int .i64 ((rd_T58 l1 (ji14)).f5)],.agg #[.int .i64 ((rd_T58 l1 x5_1).f0),.int .i64 ((rd_T58 l1 x5_1).f1),.float .f64 ((rd_T58 l1 x5_1).f2),.int .i64 ((rd_T58 l1 x5_1).f3),.float .f64 ((rd_T58 l1 x5_1).f4),.int .i64 ((rd_T58 l1 x5_1).f5)]] (by rfl) rfl rfl (by (try simp only [List.map_toArray,List.map_cons,List.map_nil]);first | done | (simp only [hji14];rfl) | rfl | (simp only [List.length_drop,List.length_take];rfl)) ?_
       with_reducible refine (beaconref16_ahead.calls ((rd_T58 l1 (ji14)).f0) ((rd_T58 l1 (ji14)).f1) ((rd_T58 l1 (ji14)).f2) ((rd_T58 l1 (ji14)).f3) ((rd_T58 l1 (ji14)).f4) ((rd_T58 l1 (ji14)).f5) ((rd_T58 l1 x5_1).f0) ((rd_T58 l1 x5_1).f1) ((rd_T58 l1 x5_1).f2) ((rd_T58 l1 x5_1).f3) ((rd_T58 l1 x5_1).f4) ((rd_T58 l1 x5_1).f5) true _ A17.out).mono ?_
       rintro e w28 ⟨rfl,hb⟩
       refine ⟨_,rfl,?_⟩
       have n0_:=Aside0.mk (blk_below (g:=gb435) (o:=.cells #[.int .i64 ((rd_T58 l1 x5_1).f0),.int .i64 ((rd_T58 l1 x5_1).f1),.float .f64 ((rd_T58 l1 x5_1).f2),.int .i64 ((rd_T58 l1 x5_1).f3),.float .f64 ((rd_T58 l1 x5_1).f4),.int .i64 ((rd_T58 l1 x5_1).f5)] 58 (0,0)) (by (with_reducible repeat (first | refine blk_drewN ?_ _ | refine blk_drew ?_ | refine blk_alloc ?_ _));exact BK435.out) hb)
       have n1_:=Aside0.mk (below_step (by repeat (first | (with_reducible first | exact HB.out | apply below_alloc | apply pw_below_drewN | apply below_drew1 | refine below_set ?_ GE435.out) | exact HB.out)) hb)
       clear BK435
       clear HB
       have BK435:=n0_
       have HB:=n1_
       clear n0_ n1_
       (try clear hb)
       (try clear hb2)
       (try clear hk)
       (try clear hi)
       refine hK.out _ _ ⟨(blk_cell BK435.out 0).trans rfl,(blk_cell BK435.out 1).trans rfl,(blk_cell BK435.out 2).trans rfl,(blk_cell BK435.out 3).trans rfl,(blk_cell BK435.out 4).trans rfl,(blk_cell BK435.out 5).trans rfl,((HB.out.cell (World.block_lt_of_cell? w _ hw436_0)).trans hw436_0),((HB.out.cell (World.block_lt_of_cell? w _ hw436_1)).trans hw436_1),((HB.out.cell (World.block_lt_of_cell? w _ hw436_2)).trans hw436_2),((HB.out.cell (World.block_lt_of_cell? w _ hw436_3)).trans hw436_3),((HB.out.cell (World.block_lt_of_cell? w _ hw436_4)).trans hw436_4),((HB.out.cell (World.block_lt_of_cell? w _ hw436_5)).trans hw436_5)⟩ (fun hHeld => ?_)
       clear hK K
       refine norm_ (a':=?_) ?_ ?_
       rotate_left
       ·show Act.put _ (some 34) _ = _
        simp only [Act.put,List.setIfInBounds_toArray,List.set_cons_zero,List.set_cons_succ,i64_w,i32_w]
        rfl
       refine manyW_ (fuel:=15) (a':=?_) ((10,0) :: (11,0) :: (12,0) :: (13,0) :: (14,2) :: []) #[true,true,true,true,true,true,true,true,true,true,true,true,true,true,true,false,false,false,false,false,false,false,false,false,false,false,false,false,false,false] rfl HT_ HW_ (by kernel_rfl) (fun _ _ _ _ _ h => h) (fun _ => hHeld) ?_ ?_
       rotate_left
       ·repeat (first | exact Chain.nil _ | (apply Chain.on;rfl;rfl;(focus intro w';go_simp;with_reducible rfl);(focus simp only [Act.put,List.setIfInBounds_toArray,List.set_cons_zero,List.set_cons_succ,i64_w,i32_w];rfl)) | (apply Chain.take;rfl;rfl;(focus rintro w' ⟨s0,s1,s2,s3,s4,s5,s6,s7,s8,s9,s10,s11⟩;go_simp;with_reducible rfl);(focus simp only [Act.put,List.setIfInBounds_toArray,List.set_cons_zero,List.set_cons_succ,i64_w,i32_w];rfl)))
       refine one_ (i:=15) (N:=some 40) #[true,true,true,true,true,true,true,true,true,true,true,true,true,true,true,true,false,false,false,false,false,false,false,false,false,false,false,false,false,false] rfl rfl (one_of HT_.out (by kernel_rfl)) (by decide) (fun K hK => ?_)
       refine goes_ Try.func59 (by kernel_rfl) rfl #[.int .i64 ((rd_T58 l1 x5_1).f0)] (by rfl) rfl rfl (by (try simp only [List.map_toArray,List.map_cons,List.map_nil]);first | done | rfl | (simp only [List.length_drop,List.length_take];rfl)) ?_
       with_reducible refine (beaconref16_number.calls ((rd_T58 l1 x5_1).f0) false _ A19.out).mono ?_
       rintro e w' ⟨rfl,⟨nd,rfl⟩⟩
       refine ⟨_,rfl,?_⟩
       refine hK.out _ _ ⟨(blk_cell BK435.out 0).trans rfl,(blk_cell BK435.out 1).trans rfl,(blk_cell BK435.out 2).trans rfl,(blk_cell BK435.out 3).trans rfl,(blk_cell BK435.out 4).trans rfl,(blk_cell BK435.out 5).trans rfl,((HB.out.cell (World.block_lt_of_cell? w _ hw436_0)).trans hw436_0),((HB.out.cell (World.block_lt_of_cell? w _ hw436_1)).trans hw436_1),((HB.out.cell (World.block_lt_of_cell? w _ hw436_2)).trans hw436_2),((HB.out.cell (World.block_lt_of_cell? w _ hw436_3)).trans hw436_3),((HB.out.cell (World.block_lt_of_cell? w _ hw436_4)).trans hw436_4),((HB.out.cell (World.block_lt_of_cell? w _ hw436_5)).trans hw436_5)⟩ (fun hHeld => ?_)
       clear hK K
       refine norm_ (a':=?_) ?_ ?_
       rotate_left
       ·show Act.put _ (some 40) _ = _
        simp only [Act.put,List.setIfInBounds_toArray,List.set_cons_zero,List.set_cons_succ,i64_w,i32_w]
        rfl
       refine manyT_ (fuel:=0) (a':=?_) ((16,0) :: (17,0) :: (18,0) :: (19,1) :: (20,1) :: (21,1) :: (22,1) :: (23,0) :: (24,0) :: (25,1) :: (26,1) :: (27,1) :: (28,1) :: (29,0) :: []) #[true,true,true,true,true,true,true,true,true,true,true,true,true,true,true,true,true,true,true,true,true,true,true,true,true,true,true,true,true,true] rfl HT_ (by kernel_rfl) (fun _ _ _ _ _ h => h) (fun h => absurd h (by decide)) ?_ ?_
       rotate_left
       ·repeat (first | exact Chain.nil _ | (apply Chain.on;rfl;rfl;(focus intro w';go_simp;with_reducible rfl);(focus simp only [Act.put,List.setIfInBounds_toArray,List.set_cons_zero,List.set_cons_succ,i64_w,i32_w];rfl)) | (apply Chain.off;rfl;rfl;(focus simp only [Act.put,List.setIfInBounds_toArray,List.set_cons_zero,List.set_cons_succ,i64_w,i32_w];rfl)))
       refine done_ (done_of HT_.out (by kernel_rfl)) ?_
       try go_wp2
       go_meet
       case rel => exact ⟨_,(true),(by first | rfl | (simp;done) | (simp [*];done)),H',⟨by have:=HK1.out;have:=HJ4.out;first | omega | exact Nat.le_refl _⟩,⟨by (with_reducible repeat (first | refine blk_drewN ?_ _ | refine blk_drew ?_ | refine blk_alloc ?_ _));exact BK435.out⟩,⟨by repeat (first | (with_reducible first | exact HB.out | apply below_alloc | apply pw_below_drewN | apply below_drew1 | refine below_set ?_ GE435.out) | exact HB.out)⟩⟩
      subst c20
      have H1:(if ((rd_T58 l1 x5_1).f0) = a0 then (beaconref16_MayBalls.j2 kj4 a0 l1 x5_1 true ((rd_T58 l1 x5_1).f0) ((rd_T58 l1 x5_1).f1) ((rd_T58 l1 x5_1).f2) ((rd_T58 l1 x5_1).f3) ((rd_T58 l1 x5_1).f4) ((rd_T58 l1 x5_1).f5)) else ((beaconref16_number.f ((rd_T58 l1 x5_1).f3)).bind fun t439 => (beaconref16_MayBalls.j2 kj4 a0 l1 x5_1 (!t439) ((rd_T58 l1 x5_1).f0) ((rd_T58 l1 x5_1).f1) ((rd_T58 l1 x5_1).f2) ((rd_T58 l1 x5_1).f3) ((rd_T58 l1 x5_1).f4) ((rd_T58 l1 x5_1).f5)))) = some r:=by rw [if_pos rfl] at H;exact H
      clear H
      have H:=H1
      clear H1
      by_cases c21:((rd_T58 l1 x5_1).f0) = a0
      ·rw [if_pos c21] at H
       have c21b0:(((rd_T58 l1 x5_1).f0) == a0) = true:=beq_iff_eq.mpr c21
       have c21b1:(((rd_T58 l1 x5_1).f0) != a0) = false:=bne_eq_false_iff_eq.mpr c21
       clear c21
       have H':=Aside0.mk H
       clear H
       try go_wp2
       have n0_:=Aside0.mk (blk_drew BK435.out)
       have n1_:=Aside0.mk (below_drew1 HB.out)
       clear BK435
       clear HB
       have BK435:=n0_
       have HB:=n1_
       clear n0_ n1_
       have p436:0 ≤ ((ji14):Int):=of_decide_eq_true (by first | (with_reducible assumption) | assumption)
       have q436:(ji14) < (l1.length:Int):=of_decide_eq_true (by first | (with_reducible assumption) | assumption)
       obtain ⟨ad436,e436,hx436_0,hx436_1,hx436_2,hx436_3,hx436_4,hx436_5⟩:=at_T58 HR1.out (ji14) p436 q436
       have hw436_5:=hx436_5
       have hw436_4:=hx436_4
       have hw436_3:=hx436_3
       have hw436_2:=hx436_2
       have hw436_1:=hx436_1
       have hw436_0:=hx436_0
       obtain rfl:ad434 = ad436:=(by injection e436)
       replace hx436_0:=(HB.out.cell (World.block_lt_of_cell? w _ hx436_0)).trans hx436_0
       replace hx436_1:=(HB.out.cell (World.block_lt_of_cell? w _ hx436_1)).trans hx436_1
       replace hx436_2:=(HB.out.cell (World.block_lt_of_cell? w _ hx436_2)).trans hx436_2
       replace hx436_3:=(HB.out.cell (World.block_lt_of_cell? w _ hx436_3)).trans hx436_3
       replace hx436_4:=(HB.out.cell (World.block_lt_of_cell? w _ hx436_4)).trans hx436_4
       replace hx436_5:=(HB.out.cell (World.block_lt_of_cell? w _ hx436_5)).trans hx436_5
       replace p436:=eq_true p436
       replace q436:=eq_true q436
       refine start_ (n:=30) (S:=fun w' => w'.cell? ⟨gb435,0,none⟩ = some (.int .i64 ((rd_T58 l1 x5_1).f0)) ∧ w'.cell? ⟨gb435,1,none⟩ = some (.int .i64 ((rd_T58 l1 x5_1).f1)) ∧ w'.cell? ⟨gb435,2,none⟩ = some (.float .f64 ((rd_T58 l1 x5_1).f2)) ∧ w'.cell? ⟨gb435,3,none⟩ = some (.int .i64 ((rd_T58 l1 x5_1).f3)) ∧ w'.cell? ⟨gb435,4,none⟩ = some (.float .f64 ((rd_T58 l1 x5_1).f4)) ∧ w'.cell? ⟨gb435,5,none⟩ = some (.int .i64 ((rd_T58 l1 x5_1).f5)) ∧ w'.cell? (ad434.add (((ji14)).toNat * 6)) = some (.int .i64 ((rd_T58 l1 (ji14)).f0)) ∧ w'.cell? ⟨(ad434.add (((ji14)).toNat * 6)).block,(ad434.add (((ji14)).toNat * 6)).off + 1,none⟩ = some (.int .i64 ((rd_T58 l1 (ji14)).f1)) ∧ w'.cell? ⟨(ad434.add (((ji14)).toNat * 6)).block,(ad434.add (((ji14)).toNat * 6)).off + 2,none⟩ = some (.float .f64 ((rd_T58 l1 (ji14)).f2)) ∧ w'.cell? ⟨(ad434.add (((ji14)).toNat * 6)).block,(ad434.add (((ji14)).toNat * 6)).off + 3,none⟩ = some (.int .i64 ((rd_T58 l1 (ji14)).f3)) ∧ w'.cell? ⟨(ad434.add (((ji14)).toNat * 6)).block,(ad434.add (((ji14)).toNat * 6)).off + 4,none⟩ = some (.float .f64 ((rd_T58 l1 (ji14)).f4)) ∧ w'.cell? ⟨(ad434.add (((ji14)).toNat * 6)).block,(ad434.add (((ji14)).toNat * 6)).off + 5,none⟩ = some (.int .i64 ((rd_T58 l1 (ji14)).f5))) (ds:=[]) #[false,false,false,false,false,false,false,false,false,false,false,false,false,false,false,false,false,false,false,false,false,false,false,false,false,false,false,false,false,false] (by kernel_rfl) rfl rfl ⟨(blk_cell BK435.out 0).trans rfl,(blk_cell BK435.out 1).trans rfl,(blk_cell BK435.out 2).trans rfl,(blk_cell BK435.out 3).trans rfl,(blk_cell BK435.out 4).trans rfl,(blk_cell BK435.out 5).trans rfl,((HB.out.cell (World.block_lt_of_cell? w _ hw436_0)).trans hw436_0),((HB.out.cell (World.block_lt_of_cell? w _ hw436_1)).trans hw436_1),((HB.out.cell (World.block_lt_of_cell? w _ hw436_2)).trans hw436_2),((HB.out.cell (World.block_lt_of_cell? w _ hw436_3)).trans hw436_3),((HB.out.cell (World.block_lt_of_cell? w _ hw436_4)).trans hw436_4),((HB.out.cell (World.block_lt_of_cell? w _ hw436_5)).trans hw436_5)⟩ (fun hHeld => ?_);refine with_tabW beaconref16_MayBalls.tab7 beaconref16_MayBalls.bits7 (fun HT_ HW_ => ?_)
       generalize wc.drew = w22 at BK435 HB hx436_0 hx436_1 hx436_2 hx436_3 hx436_4 hx436_5 hHeld ⊢
       refine manyW_ (fuel:=21) (a':=?_) ((0,0) :: (1,0) :: (2,0) :: (3,0) :: (4,0) :: (5,0) :: (6,0) :: (7,2) :: (8,2) :: []) #[true,true,true,true,true,true,true,true,true,false,false,false,false,false,false,false,false,false,false,false,false,false,false,false,false,false,false,false,false,false] rfl HT_ HW_ (by kernel_rfl) (fun _ _ _ _ _ h => h) (fun _ => hHeld) ?_ ?_
       rotate_left
       ·repeat (first | exact Chain.nil _ | (apply Chain.on;rfl;rfl;(focus intro w';go_simp;with_reducible rfl);(focus simp only [Act.put,List.setIfInBounds_toArray,List.set_cons_zero,List.set_cons_succ,i64_w,i32_w];rfl)) | (apply Chain.take;rfl;rfl;(focus rintro w' ⟨s0,s1,s2,s3,s4,s5,s6,s7,s8,s9,s10,s11⟩;go_simp;with_reducible rfl);(focus simp only [Act.put,List.setIfInBounds_toArray,List.set_cons_zero,List.set_cons_succ,i64_w,i32_w];rfl)))
       refine one_ (i:=9) (N:=some 34) #[true,true,true,true,true,true,true,true,true,true,false,false,false,false,false,false,false,false,false,false,false,false,false,false,false,false,false,false,false,false] rfl rfl (one_of HT_.out (by kernel_rfl)) (by decide) (fun K hK => ?_)
       refine goes_ Try.func38 (by kernel_rfl) rfl #[.agg #[.int .i64 ((rd_T58 l1 (ji14)).f0),.int .i64 ((rd_T58 l1 (ji14)).f1),.float .f64 ((rd_T58 l1 (ji14)).f2),.int .i64 ((rd_T58 l1 (ji14)).f3),.float .f64 ((rd_T58 l1 (ji14)).f4),.int .i64 ((rd_T58 l1 (ji14)).f5)],.agg #[.int .i64 ((rd_T58 l1 x5_1).f0),.int .i64 ((rd_T58 l1 x5_1).f1),.float .f64 ((rd_T58 l1 x5_1).f2),.int .i64 ((rd_T58 l1 x5_1).f3),.float .f64 ((rd_T58 l1 x5_1).f4),.int .i64 ((rd_T58 l1 x5_1).f5)]] (by rfl) rfl rfl (by (try simp only [List.map_toArray,List.map_cons,List.map_nil]);first | done | (simp only [hji14];rfl) | rfl | (simp only [List.length_drop,List.length_take];rfl)) ?_
       with_reducible refine (beaconref16_ahead.calls ((rd_T58 l1 (ji14)).f0) ((rd_T58 l1 (ji14)).f1) ((rd_T58 l1 (ji14)).f2) ((rd_T58 l1 (ji14)).f3) ((rd_T58 l1 (ji14)).f4) ((rd_T58 l1 (ji14)).f5) ((rd_T58 l1 x5_1).f0) ((rd_T58 l1 x5_1).f1) ((rd_T58 l1 x5_1).f2) ((rd_T58 l1 x5_1).f3) ((rd_T58 l1 x5_1).f4) ((rd_T58 l1 x5_1).f5) true _ A17.out).mono ?_
       rintro e w23 ⟨rfl,hb⟩
       refine ⟨_,rfl,?_⟩
       have n0_:=Aside0.mk (blk_below (g:=gb435) (o:=.cells #[.int .i64 ((rd_T58 l1 x5_1).f0),.int .i64 ((rd_T58 l1 x5_1).f1),.float .f64 ((rd_T58 l1 x5_1).f2),.int .i64 ((rd_T58 l1 x5_1).f3),.float .f64 ((rd_T58 l1 x5_1).f4),.int .i64 ((rd_T58 l1 x5_1).f5)] 58 (0,0)) (by (with_reducible repeat (first | refine blk_drewN ?_ _ | refine blk_drew ?_ | refine blk_alloc ?_ _));exact BK435.out) hb)
       have n1_:=Aside0.mk (below_step (by repeat (first | (with_reducible first | exact HB.out | apply below_alloc | apply pw_below_drewN | apply below_drew1 | refine below_set ?_ GE435.out) | exact HB.out)) hb)
       clear BK435
       clear HB
       have BK435:=n0_
       have HB:=n1_
       clear n0_ n1_
       (try clear hb)
       (try clear hb2)
       (try clear hk)
       (try clear hi)
       refine hK.out _ _ ⟨(blk_cell BK435.out 0).trans rfl,(blk_cell BK435.out 1).trans rfl,(blk_cell BK435.out 2).trans rfl,(blk_cell BK435.out 3).trans rfl,(blk_cell BK435.out 4).trans rfl,(blk_cell BK435.out 5).trans rfl,((HB.out.cell (World.block_lt_of_cell? w _ hw436_0)).trans hw436_0),((HB.out.cell (World.block_lt_of_cell? w _ hw436_1)).trans hw436_1),((HB.out.cell (World.block_lt_of_cell? w _ hw436_2)).trans hw436_2),((HB.out.cell (World.block_lt_of_cell? w _ hw436_3)).trans hw436_3),((HB.out.cell (World.block_lt_of_cell? w _ hw436_4)).trans hw436_4),((HB.out.cell (World.block_lt_of_cell? w _ hw436_5)).trans hw436_5)⟩ (fun hHeld => ?_)
       clear hK K
       refine norm_ (a':=?_) ?_ ?_
       rotate_left
       ·show Act.put _ (some 34) _ = _
        simp only [Act.put,List.setIfInBounds_toArray,List.set_cons_zero,List.set_cons_succ,i64_w,i32_w]
        rfl
       refine manyW_ (fuel:=15) (a':=?_) ((10,0) :: (11,0) :: (12,0) :: (13,0) :: (14,2) :: []) #[true,true,true,true,true,true,true,true,true,true,true,true,true,true,true,false,false,false,false,false,false,false,false,false,false,false,false,false,false,false] rfl HT_ HW_ (by kernel_rfl) (fun _ _ _ _ _ h => h) (fun _ => hHeld) ?_ ?_
       rotate_left
       ·repeat (first | exact Chain.nil _ | (apply Chain.on;rfl;rfl;(focus intro w';go_simp;with_reducible rfl);(focus simp only [Act.put,List.setIfInBounds_toArray,List.set_cons_zero,List.set_cons_succ,i64_w,i32_w];rfl)) | (apply Chain.take;rfl;rfl;(focus rintro w' ⟨s0,s1,s2,s3,s4,s5,s6,s7,s8,s9,s10,s11⟩;go_simp;with_reducible rfl);(focus simp only [Act.put,List.setIfInBounds_toArray,List.set_cons_zero,List.set_cons_succ,i64_w,i32_w];rfl)))
       refine one_ (i:=15) (N:=some 40) #[true,true,true,true,true,true,true,true,true,true,true,true,true,true,true,true,false,false,false,false,false,false,false,false,false,false,false,false,false,false] rfl rfl (one_of HT_.out (by kernel_rfl)) (by decide) (fun K hK => ?_)
       refine goes_ Try.func59 (by kernel_rfl) rfl #[.int .i64 ((rd_T58 l1 x5_1).f0)] (by rfl) rfl rfl (by (try simp only [List.map_toArray,List.map_cons,List.map_nil]);first | done | rfl | (simp only [List.length_drop,List.length_take];rfl)) ?_
       with_reducible refine (beaconref16_number.calls ((rd_T58 l1 x5_1).f0) true _ A19.out).mono ?_
       rintro e w' ⟨rfl,⟨nd,rfl⟩⟩
       refine ⟨_,rfl,?_⟩
       refine hK.out _ _ ⟨(blk_cell BK435.out 0).trans rfl,(blk_cell BK435.out 1).trans rfl,(blk_cell BK435.out 2).trans rfl,(blk_cell BK435.out 3).trans rfl,(blk_cell BK435.out 4).trans rfl,(blk_cell BK435.out 5).trans rfl,((HB.out.cell (World.block_lt_of_cell? w _ hw436_0)).trans hw436_0),((HB.out.cell (World.block_lt_of_cell? w _ hw436_1)).trans hw436_1),((HB.out.cell (World.block_lt_of_cell? w _ hw436_2)).trans hw436_2),((HB.out.cell (World.block_lt_of_cell? w _ hw436_3)).trans hw436_3),((HB.out.cell (World.block_lt_of_cell? w _ hw436_4)).trans hw436_4),((HB.out.cell (World.block_lt_of_cell? w _ hw436_5)).trans hw436_5)⟩ (fun hHeld => ?_)
       clear hK K
       refine norm_ (a':=?_) ?_ ?_
       rotate_left
       ·show Act.put _ (some 40) _ = _
        simp only [Act.put,List.setIfInBounds_toArray,List.set_cons_zero,List.set_cons_succ,i64_w,i32_w]
        rfl
       refine manyW_ (fuel:=0) (a':=?_) ((16,0) :: (17,0) :: (18,0) :: (19,0) :: (21,0) :: (20,2) :: (22,0) :: (23,0) :: (24,0) :: (25,1) :: (26,1) :: (27,1) :: (28,1) :: (29,0) :: []) #[true,true,true,true,true,true,true,true,true,true,true,true,true,true,true,true,true,true,true,true,true,true,true,true,true,true,true,true,true,true] rfl HT_ HW_ (by kernel_rfl) (fun _ _ _ _ _ h => h) (fun _ => hHeld) ?_ ?_
       rotate_left
       ·repeat (first | exact Chain.nil _ | (apply Chain.on;rfl;rfl;(focus intro w';go_simp;with_reducible rfl);(focus simp only [Act.put,List.setIfInBounds_toArray,List.set_cons_zero,List.set_cons_succ,i64_w,i32_w];rfl)) | (apply Chain.take;rfl;rfl;(focus rintro w' ⟨s0,s1,s2,s3,s4,s5,s6,s7,s8,s9,s10,s11⟩;go_simp;with_reducible rfl);(focus simp only [Act.put,List.setIfInBounds_toArray,List.set_cons_zero,List.set_cons_succ,i64_w,i32_w];rfl)) | (apply Chain.off;rfl;rfl;(focus simp only [Act.put,List.setIfInBounds_toArray,List.set_cons_zero,List.set_cons_succ,i64_w,i32_w];rfl)))
       refine done_ (done_of HT_.out (by kernel_rfl)) ?_
       try go_wp2
       go_meet
       case rel => exact ⟨_,(true),(by first | rfl | (simp;done) | (simp [*];done)),H',⟨by have:=HK1.out;have:=HJ4.out;first | omega | exact Nat.le_refl _⟩,⟨by (with_reducible repeat (first | refine blk_drewN ?_ _ | refine blk_drew ?_ | refine blk_alloc ?_ _));exact BK435.out⟩,⟨by repeat (first | (with_reducible first | exact HB.out | apply below_alloc | apply pw_below_drewN | apply below_drew1 | refine below_set ?_ GE435.out) | exact HB.out)⟩⟩
      rw [if_neg c21] at H
      have c21b0:(((rd_T58 l1 x5_1).f0) == a0) = false:=beq_eq_false_iff_ne.mpr c21
      have c21b1:(((rd_T58 l1 x5_1).f0) != a0) = true:=bne_iff_ne.mpr c21
      replace H:=Option.bind_eq_some_iff.mp H
      obtain ⟨t439,A240,H⟩:=H
      replace H:(beaconref16_MayBalls.j2 kj4 a0 l1 x5_1 (!t439) ((rd_T58 l1 x5_1).f0) ((rd_T58 l1 x5_1).f1) ((rd_T58 l1 x5_1).f2) ((rd_T58 l1 x5_1).f3) ((rd_T58 l1 x5_1).f4) ((rd_T58 l1 x5_1).f5)) = some r:=H
      have A24:=Aside0.mk A240
      clear A240
      have H':=Aside0.mk H
      clear H
      try go_wp2
      have n0_:=Aside0.mk (blk_drew BK435.out)
      have n1_:=Aside0.mk (below_drew1 HB.out)
      clear BK435
      clear HB
      have BK435:=n0_
      have HB:=n1_
      clear n0_ n1_
      have p436:0 ≤ ((ji14):Int):=of_decide_eq_true (by first | (with_reducible assumption) | assumption)
      have q436:(ji14) < (l1.length:Int):=of_decide_eq_true (by first | (with_reducible assumption) | assumption)
      obtain ⟨ad436,e436,hx436_0,hx436_1,hx436_2,hx436_3,hx436_4,hx436_5⟩:=at_T58 HR1.out (ji14) p436 q436
      have hw436_5:=hx436_5
      have hw436_4:=hx436_4
      have hw436_3:=hx436_3
      have hw436_2:=hx436_2
      have hw436_1:=hx436_1
      have hw436_0:=hx436_0
      obtain rfl:ad434 = ad436:=(by injection e436)
      replace hx436_0:=(HB.out.cell (World.block_lt_of_cell? w _ hx436_0)).trans hx436_0
      replace hx436_1:=(HB.out.cell (World.block_lt_of_cell? w _ hx436_1)).trans hx436_1
      replace hx436_2:=(HB.out.cell (World.block_lt_of_cell? w _ hx436_2)).trans hx436_2
      replace hx436_3:=(HB.out.cell (World.block_lt_of_cell? w _ hx436_3)).trans hx436_3
      replace hx436_4:=(HB.out.cell (World.block_lt_of_cell? w _ hx436_4)).trans hx436_4
      replace hx436_5:=(HB.out.cell (World.block_lt_of_cell? w _ hx436_5)).trans hx436_5
      replace p436:=eq_true p436
      replace q436:=eq_true q436
      refine start_ (n:=30) (S:=fun w' => w'.cell? ⟨gb435,0,none⟩ = some (.int .i64 ((rd_T58 l1 x5_1).f0)) ∧ w'.cell? ⟨gb435,1,none⟩ = some (.int .i64 ((rd_T58 l1 x5_1).f1)) ∧ w'.cell? ⟨gb435,2,none⟩ = some (.float .f64 ((rd_T58 l1 x5_1).f2)) ∧ w'.cell? ⟨gb435,3,none⟩ = some (.int .i64 ((rd_T58 l1 x5_1).f3)) ∧ w'.cell? ⟨gb435,4,none⟩ = some (.float .f64 ((rd_T58 l1 x5_1).f4)) ∧ w'.cell? ⟨gb435,5,none⟩ = some (.int .i64 ((rd_T58 l1 x5_1).f5)) ∧ w'.cell? (ad434.add (((ji14)).toNat * 6)) = some (.int .i64 ((rd_T58 l1 (ji14)).f0)) ∧ w'.cell? ⟨(ad434.add (((ji14)).toNat * 6)).block,(ad434.add (((ji14)).toNat * 6)).off + 1,none⟩ = some (.int .i64 ((rd_T58 l1 (ji14)).f1)) ∧ w'.cell? ⟨(ad434.add (((ji14)).toNat * 6)).block,(ad434.add (((ji14)).toNat * 6)).off + 2,none⟩ = some (.float .f64 ((rd_T58 l1 (ji14)).f2)) ∧ w'.cell? ⟨(ad434.add (((ji14)).toNat * 6)).block,(ad434.add (((ji14)).toNat * 6)).off + 3,none⟩ = some (.int .i64 ((rd_T58 l1 (ji14)).f3)) ∧ w'.cell? ⟨(ad434.add (((ji14)).toNat * 6)).block,(ad434.add (((ji14)).toNat * 6)).off + 4,none⟩ = some (.float .f64 ((rd_T58 l1 (ji14)).f4)) ∧ w'.cell? ⟨(ad434.add (((ji14)).toNat * 6)).block,(ad434.add (((ji14)).toNat * 6)).off + 5,none⟩ = some (.int .i64 ((rd_T58 l1 (ji14)).f5))) (ds:=[]) #[false,false,false,false,false,false,false,false,false,false,false,false,false,false,false,false,false,false,false,false,false,false,false,false,false,false,false,false,false,false] (by kernel_rfl) rfl rfl ⟨(blk_cell BK435.out 0).trans rfl,(blk_cell BK435.out 1).trans rfl,(blk_cell BK435.out 2).trans rfl,(blk_cell BK435.out 3).trans rfl,(blk_cell BK435.out 4).trans rfl,(blk_cell BK435.out 5).trans rfl,((HB.out.cell (World.block_lt_of_cell? w _ hw436_0)).trans hw436_0),((HB.out.cell (World.block_lt_of_cell? w _ hw436_1)).trans hw436_1),((HB.out.cell (World.block_lt_of_cell? w _ hw436_2)).trans hw436_2),((HB.out.cell (World.block_lt_of_cell? w _ hw436_3)).trans hw436_3),((HB.out.cell (World.block_lt_of_cell? w _ hw436_4)).trans hw436_4),((HB.out.cell (World.block_lt_of_cell? w _ hw436_5)).trans hw436_5)⟩ (fun hHeld => ?_);refine with_tabW beaconref16_MayBalls.tab7 beaconref16_MayBalls.bits7 (fun HT_ HW_ => ?_)
      generalize wc.drew = w25 at BK435 HB hx436_0 hx436_1 hx436_2 hx436_3 hx436_4 hx436_5 hHeld ⊢
      refine manyW_ (fuel:=21) (a':=?_) ((0,0) :: (1,0) :: (2,0) :: (3,0) :: (4,0) :: (5,0) :: (6,0) :: (7,2) :: (8,2) :: []) #[true,true,true,true,true,true,true,true,true,false,false,false,false,false,false,false,false,false,false,false,false,false,false,false,false,false,false,false,false,false] rfl HT_ HW_ (by kernel_rfl) (fun _ _ _ _ _ h => h) (fun _ => hHeld) ?_ ?_
      rotate_left
      ·repeat (first | exact Chain.nil _ | (apply Chain.on;rfl;rfl;(focus intro w';go_simp;with_reducible rfl);(focus simp only [Act.put,List.setIfInBounds_toArray,List.set_cons_zero,List.set_cons_succ,i64_w,i32_w];rfl)) | (apply Chain.take;rfl;rfl;(focus rintro w' ⟨s0,s1,s2,s3,s4,s5,s6,s7,s8,s9,s10,s11⟩;go_simp;with_reducible rfl);(focus simp only [Act.put,List.setIfInBounds_toArray,List.set_cons_zero,List.set_cons_succ,i64_w,i32_w];rfl)))
      refine one_ (i:=9) (N:=some 34) #[true,true,true,true,true,true,true,true,true,true,false,false,false,false,false,false,false,false,false,false,false,false,false,false,false,false,false,false,false,false] rfl rfl (one_of HT_.out (by kernel_rfl)) (by decide) (fun K hK => ?_)
      refine goes_ Try.func38 (by kernel_rfl) rfl #[.agg #[.int .i64 ((rd_T58 l1 (ji14)).f0),.int .i64 ((rd_T58 l1 (ji14)).f1),.float .f64 ((rd_T58 l1 (ji14)).f2),.int .i64 ((rd_T58 l1 (ji14)).f3),.float .f64 ((rd_T58 l1 (ji14)).f4),.int .i64 ((rd_T58 l1 (ji14)).f5)],.agg #[.int .i64 ((rd_T58 l1 x5_1).f0),.int .i64 ((rd_T58 l1 x5_1).f1),.float .f64 ((rd_T58 l1 x5_1).f2),.int .i64 ((rd_T58 l1 x5_1).f3),.float .f64 ((rd_T58 l1 x5_1).f4),.int .i64 ((rd_T58 l1 x5_1).f5)]] (by rfl) rfl rfl (by (try simp only [List.map_toArray,List.map_cons,List.map_nil]);first | done | (simp only [hji14];rfl) | rfl | (simp only [List.length_drop,List.length_take];rfl)) ?_
      with_reducible refine (beaconref16_ahead.calls ((rd_T58 l1 (ji14)).f0) ((rd_T58 l1 (ji14)).f1) ((rd_T58 l1 (ji14)).f2) ((rd_T58 l1 (ji14)).f3) ((rd_T58 l1 (ji14)).f4) ((rd_T58 l1 (ji14)).f5) ((rd_T58 l1 x5_1).f0) ((rd_T58 l1 x5_1).f1) ((rd_T58 l1 x5_1).f2) ((rd_T58 l1 x5_1).f3) ((rd_T58 l1 x5_1).f4) ((rd_T58 l1 x5_1).f5) true _ A17.out).mono ?_
      rintro e w26 ⟨rfl,hb⟩
      refine ⟨_,rfl,?_⟩
      have n0_:=Aside0.mk (blk_below (g:=gb435) (o:=.cells #[.int .i64 ((rd_T58 l1 x5_1).f0),.int .i64 ((rd_T58 l1 x5_1).f1),.float .f64 ((rd_T58 l1 x5_1).f2),.int .i64 ((rd_T58 l1 x5_1).f3),.float .f64 ((rd_T58 l1 x5_1).f4),.int .i64 ((rd_T58 l1 x5_1).f5)] 58 (0,0)) (by (with_reducible repeat (first | refine blk_drewN ?_ _ | refine blk_drew ?_ | refine blk_alloc ?_ _));exact BK435.out) hb)
      have n1_:=Aside0.mk (below_step (by repeat (first | (with_reducible first | exact HB.out | apply below_alloc | apply pw_below_drewN | apply below_drew1 | refine below_set ?_ GE435.out) | exact HB.out)) hb)
      clear BK435
      clear HB
      have BK435:=n0_
      have HB:=n1_
      clear n0_ n1_
      (try clear hb)
      (try clear hb2)
      (try clear hk)
      (try clear hi)
      refine hK.out _ _ ⟨(blk_cell BK435.out 0).trans rfl,(blk_cell BK435.out 1).trans rfl,(blk_cell BK435.out 2).trans rfl,(blk_cell BK435.out 3).trans rfl,(blk_cell BK435.out 4).trans rfl,(blk_cell BK435.out 5).trans rfl,((HB.out.cell (World.block_lt_of_cell? w _ hw436_0)).trans hw436_0),((HB.out.cell (World.block_lt_of_cell? w _ hw436_1)).trans hw436_1),((HB.out.cell (World.block_lt_of_cell? w _ hw436_2)).trans hw436_2),((HB.out.cell (World.block_lt_of_cell? w _ hw436_3)).trans hw436_3),((HB.out.cell (World.block_lt_of_cell? w _ hw436_4)).trans hw436_4),((HB.out.cell (World.block_lt_of_cell? w _ hw436_5)).trans hw436_5)⟩ (fun hHeld => ?_)
      clear hK K
      refine norm_ (a':=?_) ?_ ?_
      rotate_left
      ·show Act.put _ (some 34) _ = _
       simp only [Act.put,List.setIfInBounds_toArray,List.set_cons_zero,List.set_cons_succ,i64_w,i32_w]
       rfl
      refine manyW_ (fuel:=15) (a':=?_) ((10,0) :: (11,0) :: (12,0) :: (13,0) :: (14,2) :: []) #[true,true,true,true,true,true,true,true,true,true,true,true,true,true,true,false,false,false,false,false,false,false,false,false,false,false,false,false,false,false] rfl HT_ HW_ (by kernel_rfl) (fun _ _ _ _ _ h => h) (fun _ => hHeld) ?_ ?_
      rotate_left
      ·repeat (first | exact Chain.nil _ | (apply Chain.on;rfl;rfl;(focus intro w';go_simp;with_reducible rfl);(focus simp only [Act.put,List.setIfInBounds_toArray,List.set_cons_zero,List.set_cons_succ,i64_w,i32_w];rfl)) | (apply Chain.take;rfl;rfl;(focus rintro w' ⟨s0,s1,s2,s3,s4,s5,s6,s7,s8,s9,s10,s11⟩;go_simp;with_reducible rfl);(focus simp only [Act.put,List.setIfInBounds_toArray,List.set_cons_zero,List.set_cons_succ,i64_w,i32_w];rfl)))
      refine one_ (i:=15) (N:=some 40) #[true,true,true,true,true,true,true,true,true,true,true,true,true,true,true,true,false,false,false,false,false,false,false,false,false,false,false,false,false,false] rfl rfl (one_of HT_.out (by kernel_rfl)) (by decide) (fun K hK => ?_)
      refine goes_ Try.func59 (by kernel_rfl) rfl #[.int .i64 ((rd_T58 l1 x5_1).f0)] (by rfl) rfl rfl (by (try simp only [List.map_toArray,List.map_cons,List.map_nil]);first | done | rfl | (simp only [List.length_drop,List.length_take];rfl)) ?_
      with_reducible refine (beaconref16_number.calls ((rd_T58 l1 x5_1).f0) true _ A19.out).mono ?_
      rintro e w' ⟨rfl,⟨nd,rfl⟩⟩
      refine ⟨_,rfl,?_⟩
      refine hK.out _ _ ⟨(blk_cell BK435.out 0).trans rfl,(blk_cell BK435.out 1).trans rfl,(blk_cell BK435.out 2).trans rfl,(blk_cell BK435.out 3).trans rfl,(blk_cell BK435.out 4).trans rfl,(blk_cell BK435.out 5).trans rfl,((HB.out.cell (World.block_lt_of_cell? w _ hw436_0)).trans hw436_0),((HB.out.cell (World.block_lt_of_cell? w _ hw436_1)).trans hw436_1),((HB.out.cell (World.block_lt_of_cell? w _ hw436_2)).trans hw436_2),((HB.out.cell (World.block_lt_of_cell? w _ hw436_3)).trans hw436_3),((HB.out.cell (World.block_lt_of_cell? w _ hw436_4)).trans hw436_4),((HB.out.cell (World.block_lt_of_cell? w _ hw436_5)).trans hw436_5)⟩ (fun hHeld => ?_)
      clear hK K
      refine norm_ (a':=?_) ?_ ?_
      rotate_left
      ·show Act.put _ (some 40) _ = _
       simp only [Act.put,List.setIfInBounds_toArray,List.set_cons_zero,List.set_cons_succ,i64_w,i32_w]
       rfl
      refine manyW_ (fuel:=3) (a':=?_) ((16,0) :: (17,0) :: (18,0) :: (19,0) :: (21,0) :: (20,2) :: (22,0) :: (23,0) :: (24,0) :: (25,0) :: (26,2) :: []) #[true,true,true,true,true,true,true,true,true,true,true,true,true,true,true,true,true,true,true,true,true,true,true,true,true,true,true,false,false,false] rfl HT_ HW_ (by kernel_rfl) (fun _ _ _ _ _ h => h) (fun _ => hHeld) ?_ ?_
      rotate_left
      ·repeat (first | exact Chain.nil _ | (apply Chain.on;rfl;rfl;(focus intro w';go_simp;with_reducible rfl);(focus simp only [Act.put,List.setIfInBounds_toArray,List.set_cons_zero,List.set_cons_succ,i64_w,i32_w];rfl)) | (apply Chain.take;rfl;rfl;(focus rintro w' ⟨s0,s1,s2,s3,s4,s5,s6,s7,s8,s9,s10,s11⟩;go_simp;with_reducible rfl);(focus simp only [Act.put,List.setIfInBounds_toArray,List.set_cons_zero,List.set_cons_succ,i64_w,i32_w];rfl)))
      refine one_ (i:=27) (N:=some 52) #[true,true,true,true,true,true,true,true,true,true,true,true,true,true,true,true,true,true,true,true,true,true,true,true,true,true,true,true,false,false] rfl rfl (one_of HT_.out (by kernel_rfl)) (by decide) (fun K hK => ?_)
      refine goes_ Try.func59 (by kernel_rfl) rfl #[.int .i64 ((rd_T58 l1 x5_1).f3)] (by rfl) rfl rfl (by (try simp only [List.map_toArray,List.map_cons,List.map_nil]);first | done | rfl | (simp only [List.length_drop,List.length_take];rfl)) ?_
      with_reducible refine (beaconref16_number.calls ((rd_T58 l1 x5_1).f3) t439 _ A24.out).mono ?_
      rintro e w' ⟨rfl,⟨nd,rfl⟩⟩
      refine ⟨_,rfl,?_⟩
      refine hK.out _ _ ⟨(blk_cell BK435.out 0).trans rfl,(blk_cell BK435.out 1).trans rfl,(blk_cell BK435.out 2).trans rfl,(blk_cell BK435.out 3).trans rfl,(blk_cell BK435.out 4).trans rfl,(blk_cell BK435.out 5).trans rfl,((HB.out.cell (World.block_lt_of_cell? w _ hw436_0)).trans hw436_0),((HB.out.cell (World.block_lt_of_cell? w _ hw436_1)).trans hw436_1),((HB.out.cell (World.block_lt_of_cell? w _ hw436_2)).trans hw436_2),((HB.out.cell (World.block_lt_of_cell? w _ hw436_3)).trans hw436_3),((HB.out.cell (World.block_lt_of_cell? w _ hw436_4)).trans hw436_4),((HB.out.cell (World.block_lt_of_cell? w _ hw436_5)).trans hw436_5)⟩ (fun hHeld => ?_)
      clear hK K
      refine norm_ (a':=?_) ?_ ?_
      rotate_left
      ·show Act.put _ (some 52) _ = _
       simp only [Act.put,List.setIfInBounds_toArray,List.set_cons_zero,List.set_cons_succ,i64_w,i32_w]
       rfl
      refine manyT_ (fuel:=0) (a':=?_) ((28,0) :: (29,0) :: []) #[true,true,true,true,true,true,true,true,true,true,true,true,true,true,true,true,true,true,true,true,true,true,true,true,true,true,true,true,true,true] rfl HT_ (by kernel_rfl) (fun _ _ _ _ _ h => h) (fun h => absurd h (by decide)) ?_ ?_
      rotate_left
      ·repeat (first | exact Chain.nil _ | (apply Chain.on;rfl;rfl;(focus intro w';go_simp;with_reducible rfl);(focus simp only [Act.put,List.setIfInBounds_toArray,List.set_cons_zero,List.set_cons_succ,i64_w,i32_w];rfl)))
      refine done_ (done_of HT_.out (by kernel_rfl)) ?_
      try go_wp2
      go_meet
      case rel => exact ⟨_,(!t439),(by first | rfl | (simp;done) | (simp [*];done)),H',⟨by have:=HK1.out;have:=HJ4.out;first | omega | exact Nat.le_refl _⟩,⟨by (with_reducible repeat (first | refine blk_drewN ?_ _ | refine blk_drew ?_ | refine blk_alloc ?_ _));exact BK435.out⟩,⟨by repeat (first | (with_reducible first | exact HB.out | apply below_alloc | apply pw_below_drewN | apply below_drew1 | refine below_set ?_ GE435.out) | exact HB.out)⟩⟩
     case rest =>
      clear HC12
      obtain ⟨kq,x54_11,rfl,HA,HJ11,BK435,HB⟩:=hcut
      cases kq with
      | zero => exact absurd HA.out (by simp [beaconref16_MayBalls.j2])
      | succ kj11 =>
       have H:=HA.out
       clear HA
       simp only [beaconref16_MayBalls.j2] at H
       by_cases c38:x54_11 = true
       ·subst c38
        have H1:(some false) = some r:=by rw [if_pos rfl] at H;exact H
        clear H
        have H:=H1
        clear H1
        obtain rfl:=Option.some.inj H
        go_wp2
        go_ret
        exact ⟨by first | rfl | (simp [errW_none,errW_some] <;> rfl) | (simp [*,errW_none,errW_some] <;> rfl),by repeat (first | (with_reducible first | exact HB.out | apply below_alloc | apply pw_below_drewN | apply below_drew1 | refine below_set ?_ GE435.out) | exact HB.out)⟩
       replace c38:=Bool.eq_false_iff.mpr c38
       subst c38
       have H1:((beaconref06_Far.f ((rd_T58 l1 x5_1).f2)).bind fun t442 => (if t442 = true then ((beaconref16_far.f ((rd_T58 l1 x5_1).f2)).bind fun t443 => (if t443 = true then (beaconref16_MayBalls.j3 kj11 a0 l1 x5_1 true ((rd_T58 l1 x5_1).f0) ((rd_T58 l1 x5_1).f1) ((rd_T58 l1 x5_1).f2) ((rd_T58 l1 x5_1).f3) ((rd_T58 l1 x5_1).f4) ((rd_T58 l1 x5_1).f5)) else (if (FloatKind.f64.format.order ((rd_T58 l1 x5_1).f2) 0 == some .eq) = true then (beaconref16_MayBalls.j3 kj11 a0 l1 x5_1 true ((rd_T58 l1 x5_1).f0) ((rd_T58 l1 x5_1).f1) ((rd_T58 l1 x5_1).f2) ((rd_T58 l1 x5_1).f3) ((rd_T58 l1 x5_1).f4) ((rd_T58 l1 x5_1).f5)) else ((beaconref06_Far.f ((rd_T58 l1 x5_1).f4)).bind fun t444 => (if t444 = true then (beaconref16_MayBalls.j3 kj11 a0 l1 x5_1 (FloatKind.f64.format.order ((rd_T58 l1 x5_1).f4) ((rd_T58 l1 x5_1).f2) == some .lt) ((rd_T58 l1 x5_1).f0) ((rd_T58 l1 x5_1).f1) ((rd_T58 l1 x5_1).f2) ((rd_T58 l1 x5_1).f3) ((rd_T58 l1 x5_1).f4) ((rd_T58 l1 x5_1).f5)) else (beaconref16_MayBalls.j3 kj11 a0 l1 x5_1 true ((rd_T58 l1 x5_1).f0) ((rd_T58 l1 x5_1).f1) ((rd_T58 l1 x5_1).f2) ((rd_T58 l1 x5_1).f3) ((rd_T58 l1 x5_1).f4) ((rd_T58 l1 x5_1).f5))))))) else (beaconref16_MayBalls.j3 kj11 a0 l1 x5_1 true ((rd_T58 l1 x5_1).f0) ((rd_T58 l1 x5_1).f1) ((rd_T58 l1 x5_1).f2) ((rd_T58 l1 x5_1).f3) ((rd_T58 l1 x5_1).f4) ((rd_T58 l1 x5_1).f5)))) = some r:=by rw [if_neg (show ¬ (false = true) by decide)] at H;exact H
       clear H
       have H:=H1
       clear H1
       have HC39:=Aside0.mk H
       clear H
       go_upto_region 9 with (fail)
       go_cut [81] (fun v81 wc => ∃ (kq:Nat) (x81_38:Bool),v81 = .bool x81_38 ∧ Aside0 (beaconref16_MayBalls.j3 kq a0 l1 x5_1 x81_38 ((rd_T58 l1 x5_1).f0) ((rd_T58 l1 x5_1).f1) ((rd_T58 l1 x5_1).f2) ((rd_T58 l1 x5_1).f3) ((rd_T58 l1 x5_1).f4) ((rd_T58 l1 x5_1).f5) = some r) ∧ Aside0 (kq ≤ kj11) ∧ Aside0 (wc.heap[gb435]? = some (.cells #[.int .i64 ((rd_T58 l1 x5_1).f0),.int .i64 ((rd_T58 l1 x5_1).f1),.float .f64 ((rd_T58 l1 x5_1).f2),.int .i64 ((rd_T58 l1 x5_1).f3),.float .f64 ((rd_T58 l1 x5_1).f4),.int .i64 ((rd_T58 l1 x5_1).f5)] 58 (0,0))) ∧ Aside0 (Below w.heap.size w wc))
       case first =>
        have H:=HC39.out
        clear HC39
        replace H:=Option.bind_eq_some_iff.mp H
        obtain ⟨t442,A400,H⟩:=H
        replace H:(if t442 = true then ((beaconref16_far.f ((rd_T58 l1 x5_1).f2)).bind fun t443 => (if t443 = true then (beaconref16_MayBalls.j3 kj11 a0 l1 x5_1 true ((rd_T58 l1 x5_1).f0) ((rd_T58 l1 x5_1).f1) ((rd_T58 l1 x5_1).f2) ((rd_T58 l1 x5_1).f3) ((rd_T58 l1 x5_1).f4) ((rd_T58 l1 x5_1).f5)) else (if (FloatKind.f64.format.order ((rd_T58 l1 x5_1).f2) 0 == some .eq) = true then (beaconref16_MayBalls.j3 kj11 a0 l1 x5_1 true ((rd_T58 l1 x5_1).f0) ((rd_T58 l1 x5_1).f1) ((rd_T58 l1 x5_1).f2) ((rd_T58 l1 x5_1).f3) ((rd_T58 l1 x5_1).f4) ((rd_T58 l1 x5_1).f5)) else ((beaconref06_Far.f ((rd_T58 l1 x5_1).f4)).bind fun t444 => (if t444 = true then (beaconref16_MayBalls.j3 kj11 a0 l1 x5_1 (FloatKind.f64.format.order ((rd_T58 l1 x5_1).f4) ((rd_T58 l1 x5_1).f2) == some .lt) ((rd_T58 l1 x5_1).f0) ((rd_T58 l1 x5_1).f1) ((rd_T58 l1 x5_1).f2) ((rd_T58 l1 x5_1).f3) ((rd_T58 l1 x5_1).f4) ((rd_T58 l1 x5_1).f5)) else (beaconref16_MayBalls.j3 kj11 a0 l1 x5_1 true ((rd_T58 l1 x5_1).f0) ((rd_T58 l1 x5_1).f1) ((rd_T58 l1 x5_1).f2) ((rd_T58 l1 x5_1).f3) ((rd_T58 l1 x5_1).f4) ((rd_T58 l1 x5_1).f5))))))) else (beaconref16_MayBalls.j3 kj11 a0 l1 x5_1 true ((rd_T58 l1 x5_1).f0) ((rd_T58 l1 x5_1).f1) ((rd_T58 l1 x5_1).f2) ((rd_T58 l1 x5_1).f3) ((rd_T58 l1 x5_1).f4) ((rd_T58 l1 x5_1).f5))) = some r:=H
        have A40:=Aside0.mk A400
        clear A400
        by_cases c41:t442 = true
        rotate_left
        ·replace c41:=Bool.eq_false_iff.mpr c41
         subst c41
         have H1:(beaconref16_MayBalls.j3 kj11 a0 l1 x5_1 true ((rd_T58 l1 x5_1).f0) ((rd_T58 l1 x5_1).f1) ((rd_T58 l1 x5_1).f2) ((rd_T58 l1 x5_1).f3) ((rd_T58 l1 x5_1).f4) ((rd_T58 l1 x5_1).f5)) = some r:=by rw [if_neg (show ¬ (false = true) by decide)] at H;exact H
         clear H
         have H:=H1
         clear H1
         have H':=Aside0.mk H
         clear H
         have hcz51_0:wc.cell? ⟨gb435,0,none⟩ = some (.int .i64 ((rd_T58 l1 x5_1).f0)):=(blk_cell BK435.out 0).trans rfl
         have hcz51_1:wc.cell? ⟨gb435,1,none⟩ = some (.int .i64 ((rd_T58 l1 x5_1).f1)):=(blk_cell BK435.out 1).trans rfl
         have hcz51_2:wc.cell? ⟨gb435,2,none⟩ = some (.float .f64 ((rd_T58 l1 x5_1).f2)):=(blk_cell BK435.out 2).trans rfl
         have hcz51_3:wc.cell? ⟨gb435,3,none⟩ = some (.int .i64 ((rd_T58 l1 x5_1).f3)):=(blk_cell BK435.out 3).trans rfl
         have hcz51_4:wc.cell? ⟨gb435,4,none⟩ = some (.float .f64 ((rd_T58 l1 x5_1).f4)):=(blk_cell BK435.out 4).trans rfl
         have hcz51_5:wc.cell? ⟨gb435,5,none⟩ = some (.int .i64 ((rd_T58 l1 x5_1).f5)):=(blk_cell BK435.out 5).trans rfl
         have hfz51_0:=blk_frozen BK435.out 0
         have hfz51_1:=blk_frozen BK435.out 1
         have hfz51_2:=blk_frozen BK435.out 2
         have hfz51_3:=blk_frozen BK435.out 3
         have hfz51_4:=blk_frozen BK435.out 4
         have hfz51_5:=blk_frozen BK435.out 5
         go_wp2_with (first | ((with_reducible refine gate_callee (f:=61) rfl ?_);refine goesL_ (some 57) rfl rfl Try.func61 (by kernel_rfl) rfl #[.float .f64 ((rd_T58 l1 x5_1).f2)] rfl (by (try simp only [List.map_toArray,List.map_cons,List.map_nil]);first | done | rfl | (simp only [List.length_drop,List.length_take];rfl)) ?_;(with_reducible refine (beaconref06_Far.calls ((rd_T58 l1 x5_1).f2) false _ A40.out).mono ?_);rintro e w' ⟨rfl,⟨nd,rfl⟩⟩;refine ⟨_,rfl,?_⟩))
         go_meet
         case rel => exact ⟨_,(true),(by first | rfl | (simp;done) | (simp [*];done)),H',⟨by have:=HK1.out;have:=HJ4.out;have:=HJ11.out;first | omega | exact Nat.le_refl _⟩,⟨by (with_reducible repeat (first | refine blk_drewN ?_ _ | refine blk_drew ?_ | refine blk_alloc ?_ _));exact BK435.out⟩,⟨by repeat (first | (with_reducible first | exact HB.out | apply below_alloc | apply pw_below_drewN | apply below_drew1 | refine below_set ?_ GE435.out) | exact HB.out)⟩⟩
        subst c41
        have H1:((beaconref16_far.f ((rd_T58 l1 x5_1).f2)).bind fun t443 => (if t443 = true then (beaconref16_MayBalls.j3 kj11 a0 l1 x5_1 true ((rd_T58 l1 x5_1).f0) ((rd_T58 l1 x5_1).f1) ((rd_T58 l1 x5_1).f2) ((rd_T58 l1 x5_1).f3) ((rd_T58 l1 x5_1).f4) ((rd_T58 l1 x5_1).f5)) else (if (FloatKind.f64.format.order ((rd_T58 l1 x5_1).f2) 0 == some .eq) = true then (beaconref16_MayBalls.j3 kj11 a0 l1 x5_1 true ((rd_T58 l1 x5_1).f0) ((rd_T58 l1 x5_1).f1) ((rd_T58 l1 x5_1).f2) ((rd_T58 l1 x5_1).f3) ((rd_T58 l1 x5_1).f4) ((rd_T58 l1 x5_1).f5)) else ((beaconref06_Far.f ((rd_T58 l1 x5_1).f4)).bind fun t444 => (if t444 = true then (beaconref16_MayBalls.j3 kj11 a0 l1 x5_1 (FloatKind.f64.format.order ((rd_T58 l1 x5_1).f4) ((rd_T58 l1 x5_1).f2) == some .lt) ((rd_T58 l1 x5_1).f0) ((rd_T58 l1 x5_1).f1) ((rd_T58 l1 x5_1).f2) ((rd_T58 l1 x5_1).f3) ((rd_T58 l1 x5_1).f4) ((rd_T58 l1 x5_1).f5)) else (beaconref16_MayBalls.j3 kj11 a0 l1 x5_1 true ((rd_T58 l1 x5_1).f0) ((rd_T58 l1 x5_1).f1) ((rd_T58 l1 x5_1).f2) ((rd_T58 l1 x5_1).f3) ((rd_T58 l1 x5_1).f4) ((rd_T58 l1 x5_1).f5))))))) = some r:=by rw [if_pos rfl] at H;exact H
        clear H
        have H:=H1
        clear H1
        replace H:=Option.bind_eq_some_iff.mp H
        obtain ⟨t443,A420,H⟩:=H
        replace H:(if t443 = true then (beaconref16_MayBalls.j3 kj11 a0 l1 x5_1 true ((rd_T58 l1 x5_1).f0) ((rd_T58 l1 x5_1).f1) ((rd_T58 l1 x5_1).f2) ((rd_T58 l1 x5_1).f3) ((rd_T58 l1 x5_1).f4) ((rd_T58 l1 x5_1).f5)) else (if (FloatKind.f64.format.order ((rd_T58 l1 x5_1).f2) 0 == some .eq) = true then (beaconref16_MayBalls.j3 kj11 a0 l1 x5_1 true ((rd_T58 l1 x5_1).f0) ((rd_T58 l1 x5_1).f1) ((rd_T58 l1 x5_1).f2) ((rd_T58 l1 x5_1).f3) ((rd_T58 l1 x5_1).f4) ((rd_T58 l1 x5_1).f5)) else ((beaconref06_Far.f ((rd_T58 l1 x5_1).f4)).bind fun t444 => (if t444 = true then (beaconref16_MayBalls.j3 kj11 a0 l1 x5_1 (FloatKind.f64.format.order ((rd_T58 l1 x5_1).f4) ((rd_T58 l1 x5_1).f2) == some .lt) ((rd_T58 l1 x5_1).f0) ((rd_T58 l1 x5_1).f1) ((rd_T58 l1 x5_1).f2) ((rd_T58 l1 x5_1).f3) ((rd_T58 l1 x5_1).f4) ((rd_T58 l1 x5_1).f5)) else (beaconref16_MayBalls.j3 kj11 a0 l1 x5_1 true ((rd_T58 l1 x5_1).f0) ((rd_T58 l1 x5_1).f1) ((rd_T58 l1 x5_1).f2) ((rd_T58 l1 x5_1).f3) ((rd_T58 l1 x5_1).f4) ((rd_T58 l1 x5_1).f5)))))) = some r:=H
        have A42:=Aside0.mk A420
        clear A420
        by_cases c43:t443 = true
        ·subst c43
         have H1:(beaconref16_MayBalls.j3 kj11 a0 l1 x5_1 true ((rd_T58 l1 x5_1).f0) ((rd_T58 l1 x5_1).f1) ((rd_T58 l1 x5_1).f2) ((rd_T58 l1 x5_1).f3) ((rd_T58 l1 x5_1).f4) ((rd_T58 l1 x5_1).f5)) = some r:=by rw [if_pos rfl] at H;exact H
         clear H
         have H:=H1
         clear H1
         have H':=Aside0.mk H
         clear H
         have hcz44_0:wc.cell? ⟨gb435,0,none⟩ = some (.int .i64 ((rd_T58 l1 x5_1).f0)):=(blk_cell BK435.out 0).trans rfl
         have hcz44_1:wc.cell? ⟨gb435,1,none⟩ = some (.int .i64 ((rd_T58 l1 x5_1).f1)):=(blk_cell BK435.out 1).trans rfl
         have hcz44_2:wc.cell? ⟨gb435,2,none⟩ = some (.float .f64 ((rd_T58 l1 x5_1).f2)):=(blk_cell BK435.out 2).trans rfl
         have hcz44_3:wc.cell? ⟨gb435,3,none⟩ = some (.int .i64 ((rd_T58 l1 x5_1).f3)):=(blk_cell BK435.out 3).trans rfl
         have hcz44_4:wc.cell? ⟨gb435,4,none⟩ = some (.float .f64 ((rd_T58 l1 x5_1).f4)):=(blk_cell BK435.out 4).trans rfl
         have hcz44_5:wc.cell? ⟨gb435,5,none⟩ = some (.int .i64 ((rd_T58 l1 x5_1).f5)):=(blk_cell BK435.out 5).trans rfl
         have hfz44_0:=blk_frozen BK435.out 0
         have hfz44_1:=blk_frozen BK435.out 1
         have hfz44_2:=blk_frozen BK435.out 2
         have hfz44_3:=blk_frozen BK435.out 3
         have hfz44_4:=blk_frozen BK435.out 4
         have hfz44_5:=blk_frozen BK435.out 5
         go_wp2_with (first | ((with_reducible refine gate_callee (f:=61) rfl ?_);refine goesL_ (some 57) rfl rfl Try.func61 (by kernel_rfl) rfl #[.float .f64 ((rd_T58 l1 x5_1).f2)] rfl (by (try simp only [List.map_toArray,List.map_cons,List.map_nil]);first | done | rfl | (simp only [List.length_drop,List.length_take];rfl)) ?_;(with_reducible refine (beaconref06_Far.calls ((rd_T58 l1 x5_1).f2) true _ A40.out).mono ?_);rintro e w' ⟨rfl,⟨nd,rfl⟩⟩;refine ⟨_,rfl,?_⟩) | (go_at_call 60;(with_reducible refine (beaconref16_far.calls ((rd_T58 l1 x5_1).f2) true _ A42.out).mono ?_);rintro e w' ⟨rfl,⟨nd,rfl⟩⟩))
         go_meet
         case rel => exact ⟨_,(true),(by first | rfl | (simp;done) | (simp [*];done)),H',⟨by have:=HK1.out;have:=HJ4.out;have:=HJ11.out;first | omega | exact Nat.le_refl _⟩,⟨by (with_reducible repeat (first | refine blk_drewN ?_ _ | refine blk_drew ?_ | refine blk_alloc ?_ _));exact BK435.out⟩,⟨by repeat (first | (with_reducible first | exact HB.out | apply below_alloc | apply pw_below_drewN | apply below_drew1 | refine below_set ?_ GE435.out) | exact HB.out)⟩⟩
        replace c43:=Bool.eq_false_iff.mpr c43
        subst c43
        have H1:(if (FloatKind.f64.format.order ((rd_T58 l1 x5_1).f2) 0 == some .eq) = true then (beaconref16_MayBalls.j3 kj11 a0 l1 x5_1 true ((rd_T58 l1 x5_1).f0) ((rd_T58 l1 x5_1).f1) ((rd_T58 l1 x5_1).f2) ((rd_T58 l1 x5_1).f3) ((rd_T58 l1 x5_1).f4) ((rd_T58 l1 x5_1).f5)) else ((beaconref06_Far.f ((rd_T58 l1 x5_1).f4)).bind fun t444 => (if t444 = true then (beaconref16_MayBalls.j3 kj11 a0 l1 x5_1 (FloatKind.f64.format.order ((rd_T58 l1 x5_1).f4) ((rd_T58 l1 x5_1).f2) == some .lt) ((rd_T58 l1 x5_1).f0) ((rd_T58 l1 x5_1).f1) ((rd_T58 l1 x5_1).f2) ((rd_T58 l1 x5_1).f3) ((rd_T58 l1 x5_1).f4) ((rd_T58 l1 x5_1).f5)) else (beaconref16_MayBalls.j3 kj11 a0 l1 x5_1 true ((rd_T58 l1 x5_1).f0) ((rd_T58 l1 x5_1).f1) ((rd_T58 l1 x5_1).f2) ((rd_T58 l1 x5_1).f3) ((rd_T58 l1 x5_1).f4) ((rd_T58 l1 x5_1).f5))))) = some r:=by rw [if_neg (show ¬ (false = true) by decide)] at H;exact H
        clear H
        have H:=H1
        clear H1
        by_cases c45:(FloatKind.f64.format.order ((rd_T58 l1 x5_1).f2) 0 == some .eq) = true
        ·rw [if_pos c45] at H
         have c45b0:(FloatKind.f64.format.order ((rd_T58 l1 x5_1).f2) 0 == some .eq) = true:=c45
         (try (have c45b1:decide (FloatKind.f64.format.order ((rd_T58 l1 x5_1).f2) 0 = some .eq) = true:=by simpa using c45))
         (try (have c45b2:(FloatKind.f64.format.order ((rd_T58 l1 x5_1).f2) 0 == some .eq) = true:=by simpa using c45))
         clear c45
         (first | rw [c45b0] | (simp only [i64_w,i32_w];rw [c45b0]) | skip)
         have H':=Aside0.mk H
         clear H
         have hcz46_0:wc.cell? ⟨gb435,0,none⟩ = some (.int .i64 ((rd_T58 l1 x5_1).f0)):=(blk_cell BK435.out 0).trans rfl
         have hcz46_1:wc.cell? ⟨gb435,1,none⟩ = some (.int .i64 ((rd_T58 l1 x5_1).f1)):=(blk_cell BK435.out 1).trans rfl
         have hcz46_2:wc.cell? ⟨gb435,2,none⟩ = some (.float .f64 ((rd_T58 l1 x5_1).f2)):=(blk_cell BK435.out 2).trans rfl
         have hcz46_3:wc.cell? ⟨gb435,3,none⟩ = some (.int .i64 ((rd_T58 l1 x5_1).f3)):=(blk_cell BK435.out 3).trans rfl
         have hcz46_4:wc.cell? ⟨gb435,4,none⟩ = some (.float .f64 ((rd_T58 l1 x5_1).f4)):=(blk_cell BK435.out 4).trans rfl
         have hcz46_5:wc.cell? ⟨gb435,5,none⟩ = some (.int .i64 ((rd_T58 l1 x5_1).f5)):=(blk_cell BK435.out 5).trans rfl
         have hfz46_0:=blk_frozen BK435.out 0
         have hfz46_1:=blk_frozen BK435.out 1
         have hfz46_2:=blk_frozen BK435.out 2
         have hfz46_3:=blk_frozen BK435.out 3
         have hfz46_4:=blk_frozen BK435.out 4
         have hfz46_5:=blk_frozen BK435.out 5
         go_wp2_with (first | ((with_reducible refine gate_callee (f:=61) rfl ?_);refine goesL_ (some 57) rfl rfl Try.func61 (by kernel_rfl) rfl #[.float .f64 ((rd_T58 l1 x5_1).f2)] rfl (by (try simp only [List.map_toArray,List.map_cons,List.map_nil]);first | done | rfl | (simp only [List.length_drop,List.length_take];rfl)) ?_;(with_reducible refine (beaconref06_Far.calls ((rd_T58 l1 x5_1).f2) true _ A40.out).mono ?_);rintro e w' ⟨rfl,⟨nd,rfl⟩⟩;refine ⟨_,rfl,?_⟩) | (go_at_call 60;(with_reducible refine (beaconref16_far.calls ((rd_T58 l1 x5_1).f2) false _ A42.out).mono ?_);rintro e w' ⟨rfl,⟨nd,rfl⟩⟩))
         go_meet
         case rel => exact ⟨_,(true),(by first | rfl | (simp;done) | (simp [*];done)),H',⟨by have:=HK1.out;have:=HJ4.out;have:=HJ11.out;first | omega | exact Nat.le_refl _⟩,⟨by (with_reducible repeat (first | refine blk_drewN ?_ _ | refine blk_drew ?_ | refine blk_alloc ?_ _));exact BK435.out⟩,⟨by repeat (first | (with_reducible first | exact HB.out | apply below_alloc | apply pw_below_drewN | apply below_drew1 | refine below_set ?_ GE435.out) | exact HB.out)⟩⟩
        rw [if_neg c45] at H
        have c45b0:(FloatKind.f64.format.order ((rd_T58 l1 x5_1).f2) 0 == some .eq) = false:=by simpa using c45
        (try (have c45b1:decide (FloatKind.f64.format.order ((rd_T58 l1 x5_1).f2) 0 = some .eq) = false:=by simpa using c45))
        (try (have c45b2:(FloatKind.f64.format.order ((rd_T58 l1 x5_1).f2) 0 == some .eq) = false:=by simpa using c45))
        (try (have c45b3:¬ (FloatKind.f64.format.order ((rd_T58 l1 x5_1).f2) 0 = some .eq):=by simpa using c45))
        clear c45
        (first | rw [c45b0] | (simp only [i64_w,i32_w];rw [c45b0]) | skip)
        replace H:=Option.bind_eq_some_iff.mp H
        obtain ⟨t444,A470,H⟩:=H
        replace H:(if t444 = true then (beaconref16_MayBalls.j3 kj11 a0 l1 x5_1 (FloatKind.f64.format.order ((rd_T58 l1 x5_1).f4) ((rd_T58 l1 x5_1).f2) == some .lt) ((rd_T58 l1 x5_1).f0) ((rd_T58 l1 x5_1).f1) ((rd_T58 l1 x5_1).f2) ((rd_T58 l1 x5_1).f3) ((rd_T58 l1 x5_1).f4) ((rd_T58 l1 x5_1).f5)) else (beaconref16_MayBalls.j3 kj11 a0 l1 x5_1 true ((rd_T58 l1 x5_1).f0) ((rd_T58 l1 x5_1).f1) ((rd_T58 l1 x5_1).f2) ((rd_T58 l1 x5_1).f3) ((rd_T58 l1 x5_1).f4) ((rd_T58 l1 x5_1).f5))) = some r:=H
        have A47:=Aside0.mk A470
        clear A470
        by_cases c48:t444 = true
        ·subst c48
         have H1:(beaconref16_MayBalls.j3 kj11 a0 l1 x5_1 (FloatKind.f64.format.order ((rd_T58 l1 x5_1).f4) ((rd_T58 l1 x5_1).f2) == some .lt) ((rd_T58 l1 x5_1).f0) ((rd_T58 l1 x5_1).f1) ((rd_T58 l1 x5_1).f2) ((rd_T58 l1 x5_1).f3) ((rd_T58 l1 x5_1).f4) ((rd_T58 l1 x5_1).f5)) = some r:=by rw [if_pos rfl] at H;exact H
         clear H
         have H:=H1
         clear H1
         have H':=Aside0.mk H
         clear H
         have hcz49_0:wc.cell? ⟨gb435,0,none⟩ = some (.int .i64 ((rd_T58 l1 x5_1).f0)):=(blk_cell BK435.out 0).trans rfl
         have hcz49_1:wc.cell? ⟨gb435,1,none⟩ = some (.int .i64 ((rd_T58 l1 x5_1).f1)):=(blk_cell BK435.out 1).trans rfl
         have hcz49_2:wc.cell? ⟨gb435,2,none⟩ = some (.float .f64 ((rd_T58 l1 x5_1).f2)):=(blk_cell BK435.out 2).trans rfl
         have hcz49_3:wc.cell? ⟨gb435,3,none⟩ = some (.int .i64 ((rd_T58 l1 x5_1).f3)):=(blk_cell BK435.out 3).trans rfl
         have hcz49_4:wc.cell? ⟨gb435,4,none⟩ = some (.float .f64 ((rd_T58 l1 x5_1).f4)):=(blk_cell BK435.out 4).trans rfl
         have hcz49_5:wc.cell? ⟨gb435,5,none⟩ = some (.int .i64 ((rd_T58 l1 x5_1).f5)):=(blk_cell BK435.out 5).trans rfl
         have hfz49_0:=blk_frozen BK435.out 0
         have hfz49_1:=blk_frozen BK435.out 1
         have hfz49_2:=blk_frozen BK435.out 2
         have hfz49_3:=blk_frozen BK435.out 3
         have hfz49_4:=blk_frozen BK435.out 4
         have hfz49_5:=blk_frozen BK435.out 5
         go_wp2_with (first | ((with_reducible refine gate_callee (f:=61) rfl ?_);refine goesL_ (some 57) rfl rfl Try.func61 (by kernel_rfl) rfl #[.float .f64 ((rd_T58 l1 x5_1).f2)] rfl (by (try simp only [List.map_toArray,List.map_cons,List.map_nil]);first | done | rfl | (simp only [List.length_drop,List.length_take];rfl)) ?_;(with_reducible refine (beaconref06_Far.calls ((rd_T58 l1 x5_1).f2) true _ A40.out).mono ?_);rintro e w' ⟨rfl,⟨nd,rfl⟩⟩;refine ⟨_,rfl,?_⟩) | (go_at_call 60;(with_reducible refine (beaconref16_far.calls ((rd_T58 l1 x5_1).f2) false _ A42.out).mono ?_);rintro e w' ⟨rfl,⟨nd,rfl⟩⟩) | (go_at_call 61;(with_reducible refine (beaconref06_Far.calls ((rd_T58 l1 x5_1).f4) true _ A47.out).mono ?_);rintro e w' ⟨rfl,⟨nd,rfl⟩⟩))
         go_meet
         case rel => exact ⟨_,((FloatKind.f64.format.order ((rd_T58 l1 x5_1).f4) ((rd_T58 l1 x5_1).f2) == some .lt)),(by first | rfl | (simp;done) | (simp [*];done)),H',⟨by have:=HK1.out;have:=HJ4.out;have:=HJ11.out;first | omega | exact Nat.le_refl _⟩,⟨by (with_reducible repeat (first | refine blk_drewN ?_ _ | refine blk_drew ?_ | refine blk_alloc ?_ _));exact BK435.out⟩,⟨by repeat (first | (with_reducible first | exact HB.out | apply below_alloc | apply pw_below_drewN | apply below_drew1 | refine below_set ?_ GE435.out) | exact HB.out)⟩⟩
        replace c48:=Bool.eq_false_iff.mpr c48
        subst c48
        have H1:(beaconref16_MayBalls.j3 kj11 a0 l1 x5_1 true ((rd_T58 l1 x5_1).f0) ((rd_T58 l1 x5_1).f1) ((rd_T58 l1 x5_1).f2) ((rd_T58 l1 x5_1).f3) ((rd_T58 l1 x5_1).f4) ((rd_T58 l1 x5_1).f5)) = some r:=by rw [if_neg (show ¬ (false = true) by decide)] at H;exact H
        clear H
        have H:=H1
        clear H1
        have H':=Aside0.mk H
        clear H
        have hcz50_0:wc.cell? ⟨gb435,0,none⟩ = some (.int .i64 ((rd_T58 l1 x5_1).f0)):=(blk_cell BK435.out 0).trans rfl
        have hcz50_1:wc.cell? ⟨gb435,1,none⟩ = some (.int .i64 ((rd_T58 l1 x5_1).f1)):=(blk_cell BK435.out 1).trans rfl
        have hcz50_2:wc.cell? ⟨gb435,2,none⟩ = some (.float .f64 ((rd_T58 l1 x5_1).f2)):=(blk_cell BK435.out 2).trans rfl
        have hcz50_3:wc.cell? ⟨gb435,3,none⟩ = some (.int .i64 ((rd_T58 l1 x5_1).f3)):=(blk_cell BK435.out 3).trans rfl
        have hcz50_4:wc.cell? ⟨gb435,4,none⟩ = some (.float .f64 ((rd_T58 l1 x5_1).f4)):=(blk_cell BK435.out 4).trans rfl
        have hcz50_5:wc.cell? ⟨gb435,5,none⟩ = some (.int .i64 ((rd_T58 l1 x5_1).f5)):=(blk_cell BK435.out 5).trans rfl
        have hfz50_0:=blk_frozen BK435.out 0
        have hfz50_1:=blk_frozen BK435.out 1
        have hfz50_2:=blk_frozen BK435.out 2
        have hfz50_3:=blk_frozen BK435.out 3
        have hfz50_4:=blk_frozen BK435.out 4
        have hfz50_5:=blk_frozen BK435.out 5
        go_wp2_with (first | ((with_reducible refine gate_callee (f:=61) rfl ?_);refine goesL_ (some 57) rfl rfl Try.func61 (by kernel_rfl) rfl #[.float .f64 ((rd_T58 l1 x5_1).f2)] rfl (by (try simp only [List.map_toArray,List.map_cons,List.map_nil]);first | done | rfl | (simp only [List.length_drop,List.length_take];rfl)) ?_;(with_reducible refine (beaconref06_Far.calls ((rd_T58 l1 x5_1).f2) true _ A40.out).mono ?_);rintro e w' ⟨rfl,⟨nd,rfl⟩⟩;refine ⟨_,rfl,?_⟩) | (go_at_call 60;(with_reducible refine (beaconref16_far.calls ((rd_T58 l1 x5_1).f2) false _ A42.out).mono ?_);rintro e w' ⟨rfl,⟨nd,rfl⟩⟩) | (go_at_call 61;(with_reducible refine (beaconref06_Far.calls ((rd_T58 l1 x5_1).f4) false _ A47.out).mono ?_);rintro e w' ⟨rfl,⟨nd,rfl⟩⟩))
        go_meet
        case rel => exact ⟨_,(true),(by first | rfl | (simp;done) | (simp [*];done)),H',⟨by have:=HK1.out;have:=HJ4.out;have:=HJ11.out;first | omega | exact Nat.le_refl _⟩,⟨by (with_reducible repeat (first | refine blk_drewN ?_ _ | refine blk_drew ?_ | refine blk_alloc ?_ _));exact BK435.out⟩,⟨by repeat (first | (with_reducible first | exact HB.out | apply below_alloc | apply pw_below_drewN | apply below_drew1 | refine below_set ?_ GE435.out) | exact HB.out)⟩⟩
       case rest =>
        clear HC39
        obtain ⟨kq,x81_38,rfl,HA,HJ38,BK435,HB⟩:=hcut
        cases kq with
        | zero => exact absurd HA.out (by simp [beaconref16_MayBalls.j3])
        | succ kj38 =>
         have H:=HA.out
         clear HA
         simp only [beaconref16_MayBalls.j3] at H
         by_cases c52:x81_38 = true
         ·subst c52
          have H1:(some false) = some r:=by rw [if_pos rfl] at H;exact H
          clear H
          have H:=H1
          clear H1
          obtain rfl:=Option.some.inj H
          go_wp2
          go_ret
          exact ⟨by first | rfl | (simp [errW_none,errW_some] <;> rfl) | (simp [*,errW_none,errW_some] <;> rfl),by repeat (first | (with_reducible first | exact HB.out | apply below_alloc | apply pw_below_drewN | apply below_drew1 | refine below_set ?_ GE435.out) | exact HB.out)⟩
         replace c52:=Bool.eq_false_iff.mpr c52
         subst c52
         have H1:((beaconref16_number.f ((rd_T58 l1 x5_1).f5)).bind fun t445 => (if t445 = true then (beaconref16_MayBalls.j4 kj38 a0 l1 x5_1 false ((rd_T58 l1 x5_1).f0) ((rd_T58 l1 x5_1).f1) ((rd_T58 l1 x5_1).f2) ((rd_T58 l1 x5_1).f3) ((rd_T58 l1 x5_1).f4) ((rd_T58 l1 x5_1).f5)) else (if ((rd_T58 l1 x5_1).f5) = 0 then ((beaconref16_far.f ((rd_T58 l1 x5_1).f4)).bind fun t446 => (beaconref16_MayBalls.j4 kj38 a0 l1 x5_1 (!t446) ((rd_T58 l1 x5_1).f0) ((rd_T58 l1 x5_1).f1) ((rd_T58 l1 x5_1).f2) ((rd_T58 l1 x5_1).f3) ((rd_T58 l1 x5_1).f4) ((rd_T58 l1 x5_1).f5))) else (beaconref16_MayBalls.j4 kj38 a0 l1 x5_1 (!false) ((rd_T58 l1 x5_1).f0) ((rd_T58 l1 x5_1).f1) ((rd_T58 l1 x5_1).f2) ((rd_T58 l1 x5_1).f3) ((rd_T58 l1 x5_1).f4) ((rd_T58 l1 x5_1).f5))))) = some r:=by rw [if_neg (show ¬ (false = true) by decide)] at H;exact H
         clear H
         have H:=H1
         clear H1
         have HC53:=Aside0.mk H
         clear H
         go_upto_region 11 with (fail)
         go_cut [96] (fun v96 wc => ∃ (kq:Nat) (x96_52:Bool),v96 = .bool x96_52 ∧ Aside0 (beaconref16_MayBalls.j4 kq a0 l1 x5_1 x96_52 ((rd_T58 l1 x5_1).f0) ((rd_T58 l1 x5_1).f1) ((rd_T58 l1 x5_1).f2) ((rd_T58 l1 x5_1).f3) ((rd_T58 l1 x5_1).f4) ((rd_T58 l1 x5_1).f5) = some r) ∧ Aside0 (kq ≤ kj38) ∧ Aside0 (wc.heap[gb435]? = some (.cells #[.int .i64 ((rd_T58 l1 x5_1).f0),.int .i64 ((rd_T58 l1 x5_1).f1),.float .f64 ((rd_T58 l1 x5_1).f2),.int .i64 ((rd_T58 l1 x5_1).f3),.float .f64 ((rd_T58 l1 x5_1).f4),.int .i64 ((rd_T58 l1 x5_1).f5)] 58 (0,0))) ∧ Aside0 (Below w.heap.size w wc))
         case first =>
          have H:=HC53.out
          clear HC53
          replace H:=Option.bind_eq_some_iff.mp H
          obtain ⟨t445,A540,H⟩:=H
          replace H:(if t445 = true then (beaconref16_MayBalls.j4 kj38 a0 l1 x5_1 false ((rd_T58 l1 x5_1).f0) ((rd_T58 l1 x5_1).f1) ((rd_T58 l1 x5_1).f2) ((rd_T58 l1 x5_1).f3) ((rd_T58 l1 x5_1).f4) ((rd_T58 l1 x5_1).f5)) else (if ((rd_T58 l1 x5_1).f5) = 0 then ((beaconref16_far.f ((rd_T58 l1 x5_1).f4)).bind fun t446 => (beaconref16_MayBalls.j4 kj38 a0 l1 x5_1 (!t446) ((rd_T58 l1 x5_1).f0) ((rd_T58 l1 x5_1).f1) ((rd_T58 l1 x5_1).f2) ((rd_T58 l1 x5_1).f3) ((rd_T58 l1 x5_1).f4) ((rd_T58 l1 x5_1).f5))) else (beaconref16_MayBalls.j4 kj38 a0 l1 x5_1 (!false) ((rd_T58 l1 x5_1).f0) ((rd_T58 l1 x5_1).f1) ((rd_T58 l1 x5_1).f2) ((rd_T58 l1 x5_1).f3) ((rd_T58 l1 x5_1).f4) ((rd_T58 l1 x5_1).f5)))) = some r:=H
          have A54:=Aside0.mk A540
          clear A540
          by_cases c55:t445 = true
          ·subst c55
           have H1:(beaconref16_MayBalls.j4 kj38 a0 l1 x5_1 false ((rd_T58 l1 x5_1).f0) ((rd_T58 l1 x5_1).f1) ((rd_T58 l1 x5_1).f2) ((rd_T58 l1 x5_1).f3) ((rd_T58 l1 x5_1).f4) ((rd_T58 l1 x5_1).f5)) = some r:=by rw [if_pos rfl] at H;exact H
           clear H
           have H:=H1
           clear H1
           have H':=Aside0.mk H
           clear H
           have hcz56_0:wc.cell? ⟨gb435,0,none⟩ = some (.int .i64 ((rd_T58 l1 x5_1).f0)):=(blk_cell BK435.out 0).trans rfl
           have hcz56_1:wc.cell? ⟨gb435,1,none⟩ = some (.int .i64 ((rd_T58 l1 x5_1).f1)):=(blk_cell BK435.out 1).trans rfl
           have hcz56_2:wc.cell? ⟨gb435,2,none⟩ = some (.float .f64 ((rd_T58 l1 x5_1).f2)):=(blk_cell BK435.out 2).trans rfl
           have hcz56_3:wc.cell? ⟨gb435,3,none⟩ = some (.int .i64 ((rd_T58 l1 x5_1).f3)):=(blk_cell BK435.out 3).trans rfl
           have hcz56_4:wc.cell? ⟨gb435,4,none⟩ = some (.float .f64 ((rd_T58 l1 x5_1).f4)):=(blk_cell BK435.out 4).trans rfl
           have hcz56_5:wc.cell? ⟨gb435,5,none⟩ = some (.int .i64 ((rd_T58 l1 x5_1).f5)):=(blk_cell BK435.out 5).trans rfl
           have hfz56_0:=blk_frozen BK435.out 0
           have hfz56_1:=blk_frozen BK435.out 1
           have hfz56_2:=blk_frozen BK435.out 2
           have hfz56_3:=blk_frozen BK435.out 3
           have hfz56_4:=blk_frozen BK435.out 4
           have hfz56_5:=blk_frozen BK435.out 5
           go_wp2_with (first | ((with_reducible refine gate_callee (f:=59) rfl ?_);refine goesL_ (some 84) rfl rfl Try.func59 (by kernel_rfl) rfl #[.int .i64 ((rd_T58 l1 x5_1).f5)] rfl (by (try simp only [List.map_toArray,List.map_cons,List.map_nil]);first | done | rfl | (simp only [List.length_drop,List.length_take];rfl)) ?_;(with_reducible refine (beaconref16_number.calls ((rd_T58 l1 x5_1).f5) true _ A54.out).mono ?_);rintro e w' ⟨rfl,⟨nd,rfl⟩⟩;refine ⟨_,rfl,?_⟩))
           go_meet
           case rel => exact ⟨_,(false),(by first | rfl | (simp;done) | (simp [*];done)),H',⟨by have:=HK1.out;have:=HJ4.out;have:=HJ11.out;have:=HJ38.out;first | omega | exact Nat.le_refl _⟩,⟨by (with_reducible repeat (first | refine blk_drewN ?_ _ | refine blk_drew ?_ | refine blk_alloc ?_ _));exact BK435.out⟩,⟨by repeat (first | (with_reducible first | exact HB.out | apply below_alloc | apply pw_below_drewN | apply below_drew1 | refine below_set ?_ GE435.out) | exact HB.out)⟩⟩
          replace c55:=Bool.eq_false_iff.mpr c55
          subst c55
          have H1:(if ((rd_T58 l1 x5_1).f5) = 0 then ((beaconref16_far.f ((rd_T58 l1 x5_1).f4)).bind fun t446 => (beaconref16_MayBalls.j4 kj38 a0 l1 x5_1 (!t446) ((rd_T58 l1 x5_1).f0) ((rd_T58 l1 x5_1).f1) ((rd_T58 l1 x5_1).f2) ((rd_T58 l1 x5_1).f3) ((rd_T58 l1 x5_1).f4) ((rd_T58 l1 x5_1).f5))) else (beaconref16_MayBalls.j4 kj38 a0 l1 x5_1 (!false) ((rd_T58 l1 x5_1).f0) ((rd_T58 l1 x5_1).f1) ((rd_T58 l1 x5_1).f2) ((rd_T58 l1 x5_1).f3) ((rd_T58 l1 x5_1).f4) ((rd_T58 l1 x5_1).f5))) = some r:=by rw [if_neg (show ¬ (false = true) by decide)] at H;exact H
          clear H
          have H:=H1
          clear H1
          by_cases c57:((rd_T58 l1 x5_1).f5) = 0
          ·rw [if_pos c57] at H
           have c57b0:(((rd_T58 l1 x5_1).f5) == 0) = true:=beq_iff_eq.mpr c57
           have c57b1:(((rd_T58 l1 x5_1).f5) != 0) = false:=bne_eq_false_iff_eq.mpr c57
           clear c57
           (first | rw [c57b0] | (simp only [i64_w,i32_w];rw [c57b0]) | skip)
           replace H:=Option.bind_eq_some_iff.mp H
           obtain ⟨t446,A580,H⟩:=H
           replace H:(beaconref16_MayBalls.j4 kj38 a0 l1 x5_1 (!t446) ((rd_T58 l1 x5_1).f0) ((rd_T58 l1 x5_1).f1) ((rd_T58 l1 x5_1).f2) ((rd_T58 l1 x5_1).f3) ((rd_T58 l1 x5_1).f4) ((rd_T58 l1 x5_1).f5)) = some r:=H
           have A58:=Aside0.mk A580
           clear A580
           have H':=Aside0.mk H
           clear H
           have hcz59_0:wc.cell? ⟨gb435,0,none⟩ = some (.int .i64 ((rd_T58 l1 x5_1).f0)):=(blk_cell BK435.out 0).trans rfl
           have hcz59_1:wc.cell? ⟨gb435,1,none⟩ = some (.int .i64 ((rd_T58 l1 x5_1).f1)):=(blk_cell BK435.out 1).trans rfl
           have hcz59_2:wc.cell? ⟨gb435,2,none⟩ = some (.float .f64 ((rd_T58 l1 x5_1).f2)):=(blk_cell BK435.out 2).trans rfl
           have hcz59_3:wc.cell? ⟨gb435,3,none⟩ = some (.int .i64 ((rd_T58 l1 x5_1).f3)):=(blk_cell BK435.out 3).trans rfl
           have hcz59_4:wc.cell? ⟨gb435,4,none⟩ = some (.float .f64 ((rd_T58 l1 x5_1).f4)):=(blk_cell BK435.out 4).trans rfl
           have hcz59_5:wc.cell? ⟨gb435,5,none⟩ = some (.int .i64 ((rd_T58 l1 x5_1).f5)):=(blk_cell BK435.out 5).trans rfl
           have hfz59_0:=blk_frozen BK435.out 0
           have hfz59_1:=blk_frozen BK435.out 1
           have hfz59_2:=blk_frozen BK435.out 2
           have hfz59_3:=blk_frozen BK435.out 3
           have hfz59_4:=blk_frozen BK435.out 4
           have hfz59_5:=blk_frozen BK435.out 5
           go_wp2_with (first | ((with_reducible refine gate_callee (f:=59) rfl ?_);refine goesL_ (some 84) rfl rfl Try.func59 (by kernel_rfl) rfl #[.int .i64 ((rd_T58 l1 x5_1).f5)] rfl (by (try simp only [List.map_toArray,List.map_cons,List.map_nil]);first | done | rfl | (simp only [List.length_drop,List.length_take];rfl)) ?_;(with_reducible refine (beaconref16_number.calls ((rd_T58 l1 x5_1).f5) false _ A54.out).mono ?_);rintro e w' ⟨rfl,⟨nd,rfl⟩⟩;refine ⟨_,rfl,?_⟩) | (go_at_call 60;(with_reducible refine (beaconref16_far.calls ((rd_T58 l1 x5_1).f4) t446 _ A58.out).mono ?_);rintro e w' ⟨rfl,⟨nd,rfl⟩⟩))
           go_meet
           case rel => exact ⟨_,(!t446),(by first | rfl | (simp;done) | (simp [*];done)),H',⟨by have:=HK1.out;have:=HJ4.out;have:=HJ11.out;have:=HJ38.out;first | omega | exact Nat.le_refl _⟩,⟨by (with_reducible repeat (first | refine blk_drewN ?_ _ | refine blk_drew ?_ | refine blk_alloc ?_ _));exact BK435.out⟩,⟨by repeat (first | (with_reducible first | exact HB.out | apply below_alloc | apply pw_below_drewN | apply below_drew1 | refine below_set ?_ GE435.out) | exact HB.out)⟩⟩
          rw [if_neg c57] at H
          have c57b0:(((rd_T58 l1 x5_1).f5) == 0) = false:=beq_eq_false_iff_ne.mpr c57
          have c57b1:(((rd_T58 l1 x5_1).f5) != 0) = true:=bne_iff_ne.mpr c57
          (first | rw [c57b0] | (simp only [i64_w,i32_w];rw [c57b0]) | skip)
          have H':=Aside0.mk H
          clear H
          have hcz60_0:wc.cell? ⟨gb435,0,none⟩ = some (.int .i64 ((rd_T58 l1 x5_1).f0)):=(blk_cell BK435.out 0).trans rfl
          have hcz60_1:wc.cell? ⟨gb435,1,none⟩ = some (.int .i64 ((rd_T58 l1 x5_1).f1)):=(blk_cell BK435.out 1).trans rfl
          have hcz60_2:wc.cell? ⟨gb435,2,none⟩ = some (.float .f64 ((rd_T58 l1 x5_1).f2)):=(blk_cell BK435.out 2).trans rfl
          have hcz60_3:wc.cell? ⟨gb435,3,none⟩ = some (.int .i64 ((rd_T58 l1 x5_1).f3)):=(blk_cell BK435.out 3).trans rfl
          have hcz60_4:wc.cell? ⟨gb435,4,none⟩ = some (.float .f64 ((rd_T58 l1 x5_1).f4)):=(blk_cell BK435.out 4).trans rfl
          have hcz60_5:wc.cell? ⟨gb435,5,none⟩ = some (.int .i64 ((rd_T58 l1 x5_1).f5)):=(blk_cell BK435.out 5).trans rfl
          have hfz60_0:=blk_frozen BK435.out 0
          have hfz60_1:=blk_frozen BK435.out 1
          have hfz60_2:=blk_frozen BK435.out 2
          have hfz60_3:=blk_frozen BK435.out 3
          have hfz60_4:=blk_frozen BK435.out 4
          have hfz60_5:=blk_frozen BK435.out 5
          go_wp2_with (first | ((with_reducible refine gate_callee (f:=59) rfl ?_);refine goesL_ (some 84) rfl rfl Try.func59 (by kernel_rfl) rfl #[.int .i64 ((rd_T58 l1 x5_1).f5)] rfl (by (try simp only [List.map_toArray,List.map_cons,List.map_nil]);first | done | rfl | (simp only [List.length_drop,List.length_take];rfl)) ?_;(with_reducible refine (beaconref16_number.calls ((rd_T58 l1 x5_1).f5) false _ A54.out).mono ?_);rintro e w' ⟨rfl,⟨nd,rfl⟩⟩;refine ⟨_,rfl,?_⟩))
          go_meet
          case rel => exact ⟨_,(!false),(by first | rfl | (simp;done) | (simp [*];done)),H',⟨by have:=HK1.out;have:=HJ4.out;have:=HJ11.out;have:=HJ38.out;first | omega | exact Nat.le_refl _⟩,⟨by (with_reducible repeat (first | refine blk_drewN ?_ _ | refine blk_drew ?_ | refine blk_alloc ?_ _));exact BK435.out⟩,⟨by repeat (first | (with_reducible first | exact HB.out | apply below_alloc | apply pw_below_drewN | apply below_drew1 | refine below_set ?_ GE435.out) | exact HB.out)⟩⟩
         case rest =>
          clear HC53
          obtain ⟨kq,x96_52,rfl,HA,HJ52,BK435,HB⟩:=hcut
          cases kq with
          | zero => exact absurd HA.out (by simp [beaconref16_MayBalls.j4])
          | succ kj52 =>
           have H:=HA.out
           clear HA
           simp only [beaconref16_MayBalls.j4] at H
           by_cases c61:x96_52 = true
           ·subst c61
            have H1:(some false) = some r:=by rw [if_pos rfl] at H;exact H
            clear H
            have H:=H1
            clear H1
            obtain rfl:=Option.some.inj H
            go_wp2
            go_ret
            exact ⟨by first | rfl | (simp [errW_none,errW_some] <;> rfl) | (simp [*,errW_none,errW_some] <;> rfl),by repeat (first | (with_reducible first | exact HB.out | apply below_alloc | apply pw_below_drewN | apply below_drew1 | refine below_set ?_ GE435.out) | exact HB.out)⟩
           replace c61:=Bool.eq_false_iff.mpr c61
           subst c61
           have H1:(if ((rd_T58 l1 x5_1).f5) = 0 then (beaconref16_MayBalls.l0 kj52 a0 l1 (wrap64 (x5_1 + 1))) else ((beaconref16_far.f ((rd_T58 l1 x5_1).f4)).bind fun t447 => (if t447 = true then (some false) else (beaconref16_MayBalls.l0 kj52 a0 l1 (wrap64 (x5_1 + 1)))))) = some r:=by rw [if_neg (show ¬ (false = true) by decide)] at H;exact H
           clear H
           have H:=H1
           clear H1
           by_cases c62:((rd_T58 l1 x5_1).f5) = 0
           ·rw [if_pos c62] at H
            have c62b0:(((rd_T58 l1 x5_1).f5) == 0) = true:=beq_iff_eq.mpr c62
            have c62b1:(((rd_T58 l1 x5_1).f5) != 0) = false:=bne_eq_false_iff_eq.mpr c62
            clear c62
            have H':=Aside0.mk H
            clear H
            have hcz63_0:wc.cell? ⟨gb435,0,none⟩ = some (.int .i64 ((rd_T58 l1 x5_1).f0)):=(blk_cell BK435.out 0).trans rfl
            have hcz63_1:wc.cell? ⟨gb435,1,none⟩ = some (.int .i64 ((rd_T58 l1 x5_1).f1)):=(blk_cell BK435.out 1).trans rfl
            have hcz63_2:wc.cell? ⟨gb435,2,none⟩ = some (.float .f64 ((rd_T58 l1 x5_1).f2)):=(blk_cell BK435.out 2).trans rfl
            have hcz63_3:wc.cell? ⟨gb435,3,none⟩ = some (.int .i64 ((rd_T58 l1 x5_1).f3)):=(blk_cell BK435.out 3).trans rfl
            have hcz63_4:wc.cell? ⟨gb435,4,none⟩ = some (.float .f64 ((rd_T58 l1 x5_1).f4)):=(blk_cell BK435.out 4).trans rfl
            have hcz63_5:wc.cell? ⟨gb435,5,none⟩ = some (.int .i64 ((rd_T58 l1 x5_1).f5)):=(blk_cell BK435.out 5).trans rfl
            have hfz63_0:=blk_frozen BK435.out 0
            have hfz63_1:=blk_frozen BK435.out 1
            have hfz63_2:=blk_frozen BK435.out 2
            have hfz63_3:=blk_frozen BK435.out 3
            have hfz63_4:=blk_frozen BK435.out 4
            have hfz63_5:=blk_frozen BK435.out 5
            go_wp2
            go_roundg kj52
            case measure => have:=HK1.out;have:=HJ4.out;have:=HJ11.out;have:=HJ38.out;have:=HJ52.out;omega
            case rel => exact ⟨(wrap64 (x5_1 + 1)),(by first | rfl | (simp;done) | (simp [*];done)),H',⟨by have:=HK1.out;have:=HJ4.out;have:=HJ11.out;have:=HJ38.out;have:=HJ52.out;omega⟩,⟨by repeat (first | (with_reducible first | exact HB.out | apply below_alloc | apply pw_below_drewN | apply below_drew1 | refine below_set ?_ GE435.out) | exact HB.out)⟩⟩
           rw [if_neg c62] at H
           have c62b0:(((rd_T58 l1 x5_1).f5) == 0) = false:=beq_eq_false_iff_ne.mpr c62
           have c62b1:(((rd_T58 l1 x5_1).f5) != 0) = true:=bne_iff_ne.mpr c62
           replace H:=Option.bind_eq_some_iff.mp H
           obtain ⟨t447,A640,H⟩:=H
           replace H:(if t447 = true then (some false) else (beaconref16_MayBalls.l0 kj52 a0 l1 (wrap64 (x5_1 + 1)))) = some r:=H
           have A64:=Aside0.mk A640
           clear A640
           by_cases c65:t447 = true
           ·subst c65
            have H1:(some false) = some r:=by rw [if_pos rfl] at H;exact H
            clear H
            have H:=H1
            clear H1
            obtain rfl:=Option.some.inj H
            have hcz66_0:wc.cell? ⟨gb435,0,none⟩ = some (.int .i64 ((rd_T58 l1 x5_1).f0)):=(blk_cell BK435.out 0).trans rfl
            have hcz66_1:wc.cell? ⟨gb435,1,none⟩ = some (.int .i64 ((rd_T58 l1 x5_1).f1)):=(blk_cell BK435.out 1).trans rfl
            have hcz66_2:wc.cell? ⟨gb435,2,none⟩ = some (.float .f64 ((rd_T58 l1 x5_1).f2)):=(blk_cell BK435.out 2).trans rfl
            have hcz66_3:wc.cell? ⟨gb435,3,none⟩ = some (.int .i64 ((rd_T58 l1 x5_1).f3)):=(blk_cell BK435.out 3).trans rfl
            have hcz66_4:wc.cell? ⟨gb435,4,none⟩ = some (.float .f64 ((rd_T58 l1 x5_1).f4)):=(blk_cell BK435.out 4).trans rfl
            have hcz66_5:wc.cell? ⟨gb435,5,none⟩ = some (.int .i64 ((rd_T58 l1 x5_1).f5)):=(blk_cell BK435.out 5).trans rfl
            have hfz66_0:=blk_frozen BK435.out 0
            have hfz66_1:=blk_frozen BK435.out 1
            have hfz66_2:=blk_frozen BK435.out 2
            have hfz66_3:=blk_frozen BK435.out 3
            have hfz66_4:=blk_frozen BK435.out 4
            have hfz66_5:=blk_frozen BK435.out 5
            go_wp2_with (first | (go_at_call 60;(with_reducible refine (beaconref16_far.calls ((rd_T58 l1 x5_1).f4) true _ A64.out).mono ?_);rintro e w' ⟨rfl,⟨nd,rfl⟩⟩))
            go_ret
            exact ⟨by first | rfl | (simp [errW_none,errW_some] <;> rfl) | (simp [*,errW_none,errW_some] <;> rfl),by repeat (first | (with_reducible first | exact HB.out | apply below_alloc | apply pw_below_drewN | apply below_drew1 | refine below_set ?_ GE435.out) | exact HB.out)⟩
           replace c65:=Bool.eq_false_iff.mpr c65
           subst c65
           have H1:(beaconref16_MayBalls.l0 kj52 a0 l1 (wrap64 (x5_1 + 1))) = some r:=by rw [if_neg (show ¬ (false = true) by decide)] at H;exact H
           clear H
           have H:=H1
           clear H1
           have H':=Aside0.mk H
           clear H
           have hcz67_0:wc.cell? ⟨gb435,0,none⟩ = some (.int .i64 ((rd_T58 l1 x5_1).f0)):=(blk_cell BK435.out 0).trans rfl
           have hcz67_1:wc.cell? ⟨gb435,1,none⟩ = some (.int .i64 ((rd_T58 l1 x5_1).f1)):=(blk_cell BK435.out 1).trans rfl
           have hcz67_2:wc.cell? ⟨gb435,2,none⟩ = some (.float .f64 ((rd_T58 l1 x5_1).f2)):=(blk_cell BK435.out 2).trans rfl
           have hcz67_3:wc.cell? ⟨gb435,3,none⟩ = some (.int .i64 ((rd_T58 l1 x5_1).f3)):=(blk_cell BK435.out 3).trans rfl
           have hcz67_4:wc.cell? ⟨gb435,4,none⟩ = some (.float .f64 ((rd_T58 l1 x5_1).f4)):=(blk_cell BK435.out 4).trans rfl
           have hcz67_5:wc.cell? ⟨gb435,5,none⟩ = some (.int .i64 ((rd_T58 l1 x5_1).f5)):=(blk_cell BK435.out 5).trans rfl
           have hfz67_0:=blk_frozen BK435.out 0
           have hfz67_1:=blk_frozen BK435.out 1
           have hfz67_2:=blk_frozen BK435.out 2
           have hfz67_3:=blk_frozen BK435.out 3
           have hfz67_4:=blk_frozen BK435.out 4
           have hfz67_5:=blk_frozen BK435.out 5
           go_wp2_with (first | (go_at_call 60;(with_reducible refine (beaconref16_far.calls ((rd_T58 l1 x5_1).f4) false _ A64.out).mono ?_);rintro e w' ⟨rfl,⟨nd,rfl⟩⟩))
           go_roundg kj52
           case measure => have:=HK1.out;have:=HJ4.out;have:=HJ11.out;have:=HJ38.out;have:=HJ52.out;omega
           case rel => exact ⟨(wrap64 (x5_1 + 1)),(by first | rfl | (simp;done) | (simp [*];done)),H',⟨by have:=HK1.out;have:=HJ4.out;have:=HJ11.out;have:=HJ38.out;have:=HJ52.out;omega⟩,⟨by repeat (first | (with_reducible first | exact HB.out | apply below_alloc | apply pw_below_drewN | apply below_drew1 | refine below_set ?_ GE435.out) | exact HB.out)⟩⟩
end Go.Proofs.Ytjcnmpkaiopihaa.PA
