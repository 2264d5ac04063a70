/- Printed by a program of this session (wip/tools/patch_print.py and pr.py, over the kit's print): each Go function as a plain Lean function, and that the Go code comes to just its answers. Conditions: those that each theorem names. -/
import Derived.Test.YtjcnmpkaiopihaaZgMn
import Derived.Test.YtjcnmpkaiopihaaZgPAx0
import Derived.Test.YtjcnmpkaiopihaaZgPAx2
import Derived.Test.YtjcnmpkaiopihaaZgPAx6
import Derived.Test.YtjcnmpkaiopihaaZgHn
namespace Go.Proofs.Ytjcnmpkaiopihaa.PA
open Go.RowKit Go.Proofs.YtjcnmpkaiopihaaW.PrintWords Go.Proofs.YtjcnmpkaiopihaaW.PrintLast Go.Proofs.YtjcnmpkaiopihaaW.PrintMore
attribute [local go_sem] max2_int min2_int max_two min_two max_three min_three max_four min_four
set_option linter.unusedVariables false
set_option linter.unusedSimpArgs false
mutual
def beaconref15_may.l0:Nat → Int → List (S58) → Int → Option (Int)
 | 0,_,_,_ => none
 | k + 1,x0,x1,x5 => if x5 < (x1.length:Int) then (if 0 ≤ x5 then (if ((rd_T58 x1 x5).f1) = 1 then ((beaconref06_May.f k ((rd_T58 x1 x5).f0) ((rd_T58 x1 x5).f1) ((rd_T58 x1 x5).f2) ((rd_T58 x1 x5).f4) ((rd_T58 x1 x5).f5)).bind fun t235 => (if t235 = true then (if ((rd_T58 x1 x5).f0) = x0 then (beaconref15_may.j1 k x0 x1 x5 true ((rd_T58 x1 x5).f0) ((rd_T58 x1 x5).f1) ((rd_T58 x1 x5).f2) ((rd_T58 x1 x5).f3) ((rd_T58 x1 x5).f4) ((rd_T58 x1 x5).f5)) else (if (FloatKind.f64.format.order ((rd_T58 x1 x5).f2) 0 == some .eq) = true then (beaconref15_may.j1 k x0 x1 x5 true ((rd_T58 x1 x5).f0) ((rd_T58 x1 x5).f1) ((rd_T58 x1 x5).f2) ((rd_T58 x1 x5).f3) ((rd_T58 x1 x5).f4) ((rd_T58 x1 x5).f5)) else (if x5 > 0 then (if 0 ≤ (wrap64 (x5 - 1)) then (if (wrap64 (x5 - 1)) < (x1.length:Int) then (beaconref15_may.j1 k x0 x1 x5 (decide (((rd_T58 x1 (wrap64 (x5 - 1))).f0) ≥ ((rd_T58 x1 x5).f0))) ((rd_T58 x1 x5).f0) ((rd_T58 x1 x5).f1) ((rd_T58 x1 x5).f2) ((rd_T58 x1 x5).f3) ((rd_T58 x1 x5).f4) ((rd_T58 x1 x5).f5)) else (none)) else (none)) else (beaconref15_may.j1 k x0 x1 x5 false ((rd_T58 x1 x5).f0) ((rd_T58 x1 x5).f1) ((rd_T58 x1 x5).f2) ((rd_T58 x1 x5).f3) ((rd_T58 x1 x5).f4) ((rd_T58 x1 x5).f5))))) else (beaconref15_may.j1 k x0 x1 x5 true ((rd_T58 x1 x5).f0) ((rd_T58 x1 x5).f1) ((rd_T58 x1 x5).f2) ((rd_T58 x1 x5).f3) ((rd_T58 x1 x5).f4) ((rd_T58 x1 x5).f5)))) else (beaconref15_may.j1 k x0 x1 x5 true ((rd_T58 x1 x5).f0) ((rd_T58 x1 x5).f1) ((rd_T58 x1 x5).f2) ((rd_T58 x1 x5).f3) ((rd_T58 x1 x5).f4) ((rd_T58 x1 x5).f5))) else (none)) else (some 0)
def beaconref15_may.j1:Nat → Int → List (S58) → Int → Bool → Int → Int → Nat → Int → Nat → Int → Option (Int)
 | 0,_,_,_,_,_,_,_,_,_,_ => none
 | k + 1,x0,x1,x5,x65,x234000,x234001,x234002,x234003,x234004,x234005 => if x65 = true then (some 1) else ((beaconref15_Far.f x234002).bind fun t237 => (if t237 = true then (if x234003 = 0 then ((beaconref15_Far.f x234002).bind fun t238 => (if t238 = true then (beaconref15_may.j2 k x0 x1 x5 false) else ((beaconref15_number.f x234003).bind fun t239 => (beaconref15_may.j2 k x0 x1 x5 (!t239))))) else (beaconref15_may.j2 k x0 x1 x5 true)) else ((beaconref15_Far.f x234002).bind fun t240 => (if t240 = true then (beaconref15_may.j2 k x0 x1 x5 false) else ((beaconref15_number.f x234003).bind fun t241 => (beaconref15_may.j2 k x0 x1 x5 (!t241)))))))
def beaconref15_may.j2:Nat → Int → List (S58) → Int → Bool → Option (Int)
 | 0,_,_,_,_ => none
 | k + 1,x0,x1,x5,x85 => if x85 = true then (some 1) else (beaconref15_may.l0 k x0 x1 (wrap64 (x5 + 1)))
end
def beaconref15_may.f (k:Nat) (a0:Int) (l1:List (S58)):Option (Int):=(beaconref15_number.f a0).bind fun t231 => (if t231 = true then (beaconref15_may.l0 k a0 l1 0) else (some 20))
def beaconref15_may.T8:Bool × List (List Nat × List Nat):=(true,[([],[]),([0],[0]),([1],[1]),([2],[2]),([3],[3]),([4,3,3],[3,4]),([5,3],[3,5]),([3,6],[3,6]),([7,5],[7]),([8],[8]),([9,8],[8,9]),([8],[8]),([10,11,8],[8,10,11]),([8,12],[8,12]),([13,8],[13]),([14],[14]),([15,14],[14,15]),([16,14],[14,16]),([14,17],[14,17]),([18,14],[18]),([19],[19]),([20,19],[19,20]),([21,19,19],[19,21]),([22],[22]),([22],[22]),([24,22],[22,24]),([23,25,22],[22,23,25]),([26,22],[22,26]),([27,22],[22,27]),([22],[22]),([29,22],[22,29]),([28,30,22],[22,28,30]),([22,31,19],[19,22,31]),([19,32],[19,32])])
def beaconref15_may.B8:List Nat:=[0,1,3,7,15,31,63,127,255,511,1023,511,4095,8191,16383,32767,65535,131071,262143,524287,1048575,2097151,4194303,8388607,8388607,25165823,67108863,134217727,268435455,8388607,545259519,2147483647,4294967295,8589934591]
theorem beaconref15_may.tab8:rtab .any (opsOf Try.f65 8) = beaconref15_may.T8:=by kernel_rfl
theorem beaconref15_may.bits8:waitsOk beaconref15_may.T8.2 beaconref15_may.B8 = true:=by kernel_rfl
set_option maxHeartbeats 8000000 in
set_option maxRecDepth 100000 in
theorem beaconref15_may.calls (k:Nat) (a0:Int) (A1:Option Addr) (c1:Nat) (l1:List (S58)) (r:Int) (w:World) (hr1:Kd.C k58 w A1 l1.length l1) (hc1:l1.length ≤ c1) (h:beaconref15_may.f k a0 l1 = some r) :
  Calls Try.prog 65 #[.int .i64 a0,.slice A1 l1.length c1] w fun e w' => e = .returned (.int .i64 r) ∧ Below w.heap.size w w':=by
 have hu58:=Try.underlying58
 have hu56:=Try.underlying56
 have HR1:=Aside0.mk hr1
 have HC1:=Aside0.mk hc1
 clear hr1 hc1
 have HB:=Aside0.mk (Below.refl w.heap.size w)
 have H:((beaconref15_number.f a0).bind fun t231 => (if t231 = true then (beaconref15_may.l0 k a0 l1 0) else (some 20))) = some r:=h
 clear h
 replace H:=Option.bind_eq_some_iff.mp H
 obtain ⟨t231,A30,H⟩:=H
 replace H:(if t231 = true then (beaconref15_may.l0 k a0 l1 0) else (some 20)) = some r:=H
 have A3:=Aside0.mk A30
 clear A30
 by_cases c4:t231 = true
 rotate_left
 ·replace c4:=Bool.eq_false_iff.mpr c4
  subst c4
  have H1:(some 20) = some r:=by rw [if_neg (show ¬ (false = true) by decide)] at H;exact H
  clear H
  have H:=H1
  clear H1
  obtain rfl:=Option.some.inj H
  go_enter Try.func65,Try.ntmps65
  go_wp2_with (first | ((with_reducible refine gate_callee (f:=52) rfl ?_);refine goesL_ (some 9) rfl rfl Try.func52 (by kernel_rfl) rfl #[.int .i64 a0] rfl (by (try simp only [List.map_toArray,List.map_cons,List.map_nil]);first | done | rfl | (simp only [List.length_drop,List.length_take];rfl)) ?_;(with_reducible refine (beaconref15_number.calls a0 false _ A3.out).mono ?_);rintro e w' ⟨rfl,⟨nd,rfl⟩⟩;refine ⟨_,rfl,?_⟩))
  go_ret
  exact ⟨by first | rfl | (simp [errW_none,errW_some] <;> rfl) | (simp [*,errW_none,errW_some] <;> rfl),by repeat (first | (with_reducible first | exact HB.out | apply below_alloc | apply pw_below_drewN | apply below_drew1) | exact HB.out)⟩
 subst c4
 have H1:(beaconref15_may.l0 k a0 l1 0) = some r:=by rw [if_pos rfl] at H;exact H
 clear H
 have H:=H1
 clear H1
 have H':=Aside0.mk H
 clear H
 go_enter Try.func65,Try.ntmps65
 go_wp2_with (first | ((with_reducible refine gate_callee (f:=52) rfl ?_);refine goesL_ (some 9) rfl rfl Try.func52 (by kernel_rfl) rfl #[.int .i64 a0] rfl (by (try simp only [List.map_toArray,List.map_cons,List.map_nil]);first | done | rfl | (simp only [List.length_drop,List.length_take];rfl)) ?_;(with_reducible refine (beaconref15_number.calls a0 true _ A3.out).mono ?_);rintro e w' ⟨rfl,⟨nd,rfl⟩⟩;refine ⟨_,rfl,?_⟩))
 go_loopg [5] k (fun kq v5 w' => ∃ (x5_1:Int),v5 = .int .i64 x5_1 ∧ Aside0 (beaconref15_may.l0 kq a0 l1 x5_1 = some r) ∧ Aside0 (kq ≤ k) ∧ Aside0 (Below w.heap.size w w'))
 case atStart => exact ⟨(0),(by first | rfl | (simp;done) | (simp [*];done)),H',⟨Nat.le_refl _⟩,⟨by repeat (first | (with_reducible first | exact HB.out | apply below_alloc | apply pw_below_drewN | apply below_drew1) | exact HB.out)⟩⟩
 case round =>
  clear H'
  obtain ⟨x5_1,rfl,HA,HK1,HB⟩:=hrel
  cases gk with
  | zero => exact absurd HA.out (by simp [beaconref15_may.l0])
  | succ k1 =>
   have H:=HA.out
   clear HA
   simp only [beaconref15_may.l0] at H
   by_cases c5:x5_1 < (l1.length:Int)
   rotate_left
   ·rw [if_neg c5] at H
    have c5b0:decide (x5_1 < (l1.length:Int)) = false:=decide_eq_false c5
    clear c5
    obtain rfl:=Option.some.inj H
    go_wp2
    go_ret
    exact ⟨by first | rfl | (simp [errW_none,errW_some] <;> rfl) | (simp [*,errW_none,errW_some] <;> rfl),by repeat (first | (with_reducible first | exact HB.out | apply below_alloc | apply pw_below_drewN | apply below_drew1) | exact HB.out)⟩
   rw [if_pos c5] at H
   have c5b0:decide (x5_1 < (l1.length:Int)) = true:=decide_eq_true c5
   clear c5
   by_cases c6:0 ≤ x5_1
   rotate_left
   ·rw [if_neg c6] at H
    exact absurd H (by simp)
   rw [if_pos c6] at H
   have c6b0:decide (0 ≤ x5_1) = true:=decide_eq_true c6
   clear c6
   have HC7:=Aside0.mk H
   clear H
   have p232:0 ≤ (x5_1:Int):=of_decide_eq_true (by first | (with_reducible assumption) | assumption)
   have q232:x5_1 < (l1.length:Int):=of_decide_eq_true (by first | (with_reducible assumption) | assumption)
   obtain ⟨ad232,e232,hx232_0,hx232_1,hx232_2,hx232_3,hx232_4,hx232_5⟩:=at_T58 HR1.out x5_1 p232 q232
   cases e232
   replace hx232_0:=(HB.out.cell (World.block_lt_of_cell? w _ hx232_0)).trans hx232_0
   replace hx232_1:=(HB.out.cell (World.block_lt_of_cell? w _ hx232_1)).trans hx232_1
   replace hx232_2:=(HB.out.cell (World.block_lt_of_cell? w _ hx232_2)).trans hx232_2
   replace hx232_3:=(HB.out.cell (World.block_lt_of_cell? w _ hx232_3)).trans hx232_3
   replace hx232_4:=(HB.out.cell (World.block_lt_of_cell? w _ hx232_4)).trans hx232_4
   replace hx232_5:=(HB.out.cell (World.block_lt_of_cell? w _ hx232_5)).trans hx232_5
   replace p232:=eq_true p232
   replace q232:=eq_true q232
   go_upto_region 8 with (first | ((with_reducible refine gate_dst (N:=6) rfl ?_);refine box_event ?hg (N:=6) ?hd (cs:=#[.int .i64 0,.int .i64 0,.float .f64 0,.int .i64 0,.float .f64 0,.int .i64 0]) (t:=58) ?hr ?_;(case hd => rfl);(case hg => rfl);(case hr => first | (go_simp;done) | (go_simp;rfl));intro gb233 hg w8 hbox hb;have n0_:=Aside0.mk (below_step (by repeat (first | (with_reducible first | exact HB.out | apply below_alloc | apply pw_below_drewN | apply below_drew1) | exact HB.out)) hb);have n1_:=Aside0.mk (hbox);have n2_:=Aside0.mk ((by rw [hg];exact (below_size (by repeat (first | (with_reducible first | exact HB.out | apply below_alloc | apply pw_below_drewN | apply below_drew1) | exact HB.out))):w.heap.size ≤ gb233));have n3_:=Aside0.mk ((by rw [hg];exact (below_size (by repeat (first | (with_reducible first | exact HB.out | apply below_alloc | apply pw_below_drewN | apply below_drew1) | exact HB.out))):w.heap.size ≤ gb233));clear HB;have HB:=n0_;have BK233:=n1_;have GW233:=n2_;have GE233:=n3_;clear n0_ n1_ n2_ n3_;clear hb hbox hg;have hcz9_0:w8.cell? ⟨gb233,0,none⟩ = some (.int .i64 0):=(blk_cell BK233.out 0).trans rfl;have hcz9_1:w8.cell? ⟨gb233,1,none⟩ = some (.int .i64 0):=(blk_cell BK233.out 1).trans rfl;have hcz9_2:w8.cell? ⟨gb233,2,none⟩ = some (.float .f64 0):=(blk_cell BK233.out 2).trans rfl;have hcz9_3:w8.cell? ⟨gb233,3,none⟩ = some (.int .i64 0):=(blk_cell BK233.out 3).trans rfl;have hcz9_4:w8.cell? ⟨gb233,4,none⟩ = some (.float .f64 0):=(blk_cell BK233.out 4).trans rfl;have hcz9_5:w8.cell? ⟨gb233,5,none⟩ = some (.int .i64 0):=(blk_cell BK233.out 5).trans rfl;have hfz9_0:=blk_frozen BK233.out 0;have hfz9_1:=blk_frozen BK233.out 1;have hfz9_2:=blk_frozen BK233.out 2;have hfz9_3:=blk_frozen BK233.out 3;have hfz9_4:=blk_frozen BK233.out 4;have hfz9_5:=blk_frozen BK233.out 5) | ((with_reducible refine gate_dst (N:=7) rfl ?_);refine box_event ?hg (N:=7) ?hd (cs:=#[.int .i64 0,.int .i64 0,.float .f64 0,.float .f64 0,.int .i64 0]) (t:=56) ?hr ?_;(case hd => rfl);(case hg => rfl);(case hr => first | (go_simp;done) | (go_simp;rfl));intro gb234 hg w10 hbox hb;have n0_:=Aside0.mk (blk_below (g:=gb233) (o:=.cells #[.int .i64 ((rd_T58 l1 x5_1).f0),.int .i64 ((rd_T58 l1 x5_1).f1),.float .f64 ((rd_T58 l1 x5_1).f2),.int .i64 ((rd_T58 l1 x5_1).f3),.float .f64 ((rd_T58 l1 x5_1).f4),.int .i64 ((rd_T58 l1 x5_1).f5)] 58 (0,0)) (by (with_reducible repeat (first | refine blk_drewN ?_ _ | refine blk_drew ?_ | refine blk_alloc ?_ _));refine blk_put (cs:=#[.int .i64 ((rd_T58 l1 x5_1).f0),.int .i64 ((rd_T58 l1 x5_1).f1),.float .f64 ((rd_T58 l1 x5_1).f2),.int .i64 ((rd_T58 l1 x5_1).f3),.float .f64 ((rd_T58 l1 x5_1).f4),.int .i64 0]) ?_ 5 _ rfl;(with_reducible repeat (first | refine blk_drewN ?_ _ | refine blk_drew ?_ | refine blk_alloc ?_ _));refine blk_put (cs:=#[.int .i64 ((rd_T58 l1 x5_1).f0),.int .i64 ((rd_T58 l1 x5_1).f1),.float .f64 ((rd_T58 l1 x5_1).f2),.int .i64 ((rd_T58 l1 x5_1).f3),.float .f64 0,.int .i64 0]) ?_ 4 _ rfl;(with_reducible repeat (first | refine blk_drewN ?_ _ | refine blk_drew ?_ | refine blk_alloc ?_ _));refine blk_put (cs:=#[.int .i64 ((rd_T58 l1 x5_1).f0),.int .i64 ((rd_T58 l1 x5_1).f1),.float .f64 ((rd_T58 l1 x5_1).f2),.int .i64 0,.float .f64 0,.int .i64 0]) ?_ 3 _ rfl;(with_reducible repeat (first | refine blk_drewN ?_ _ | refine blk_drew ?_ | refine blk_alloc ?_ _));refine blk_put (cs:=#[.int .i64 ((rd_T58 l1 x5_1).f0),.int .i64 ((rd_T58 l1 x5_1).f1),.float .f64 0,.int .i64 0,.float .f64 0,.int .i64 0]) ?_ 2 _ rfl;(with_reducible repeat (first | refine blk_drewN ?_ _ | refine blk_drew ?_ | refine blk_alloc ?_ _));refine blk_put (cs:=#[.int .i64 ((rd_T58 l1 x5_1).f0),.int .i64 0,.float .f64 0,.int .i64 0,.float .f64 0,.int .i64 0]) ?_ 1 _ rfl;(with_reducible repeat (first | refine blk_drewN ?_ _ | refine blk_drew ?_ | refine blk_alloc ?_ _));refine blk_put (cs:=#[.int .i64 0,.int .i64 0,.float .f64 0,.int .i64 0,.float .f64 0,.int .i64 0]) ?_ 0 _ rfl;(with_reducible repeat (first | refine blk_drewN ?_ _ | refine blk_drew ?_ | refine blk_alloc ?_ _));exact BK233.out) hb);have n1_:=Aside0.mk (below_step (by repeat (first | (with_reducible first | exact HB.out | apply below_alloc | apply pw_below_drewN | apply below_drew1 | refine below_set ?_ GE233.out) | exact HB.out)) hb);have n2_:=Aside0.mk (hbox);have n3_:=Aside0.mk ((by rw [hg];exact (below_size (by repeat (first | (with_reducible first | exact HB.out | apply below_alloc | apply pw_below_drewN | apply below_drew1 | refine below_set ?_ GE233.out) | exact HB.out))):w.heap.size ≤ gb234));have n4_:=Aside0.mk ((by rw [hg];exact (below_size (by repeat (first | (with_reducible first | exact HB.out | apply below_alloc | apply pw_below_drewN | apply below_drew1 | refine below_set ?_ GE233.out) | exact HB.out))):w.heap.size ≤ gb234));have n5_:=Aside0.mk ((by rw [hg];exact Nat.ne_of_lt (blk_lt (g:=gb233) (o:=.cells #[.int .i64 ((rd_T58 l1 x5_1).f0),.int .i64 ((rd_T58 l1 x5_1).f1),.float .f64 ((rd_T58 l1 x5_1).f2),.int .i64 ((rd_T58 l1 x5_1).f3),.float .f64 ((rd_T58 l1 x5_1).f4),.int .i64 ((rd_T58 l1 x5_1).f5)] 58 (0,0)) (by (with_reducible repeat (first | refine blk_drewN ?_ _ | refine blk_drew ?_ | refine blk_alloc ?_ _));refine blk_put (cs:=#[.int .i64 ((rd_T58 l1 x5_1).f0),.int .i64 ((rd_T58 l1 x5_1).f1),.float .f64 ((rd_T58 l1 x5_1).f2),.int .i64 ((rd_T58 l1 x5_1).f3),.float .f64 ((rd_T58 l1 x5_1).f4),.int .i64 0]) ?_ 5 _ rfl;(with_reducible repeat (first | refine blk_drewN ?_ _ | refine blk_drew ?_ | refine blk_alloc ?_ _));refine blk_put (cs:=#[.int .i64 ((rd_T58 l1 x5_1).f0),.int .i64 ((rd_T58 l1 x5_1).f1),.float .f64 ((rd_T58 l1 x5_1).f2),.int .i64 ((rd_T58 l1 x5_1).f3),.float .f64 0,.int .i64 0]) ?_ 4 _ rfl;(with_reducible repeat (first | refine blk_drewN ?_ _ | refine blk_drew ?_ | refine blk_alloc ?_ _));refine blk_put (cs:=#[.int .i64 ((rd_T58 l1 x5_1).f0),.int .i64 ((rd_T58 l1 x5_1).f1),.float .f64 ((rd_T58 l1 x5_1).f2),.int .i64 0,.float .f64 0,.int .i64 0]) ?_ 3 _ rfl;(with_reducible repeat (first | refine blk_drewN ?_ _ | refine blk_drew ?_ | refine blk_alloc ?_ _));refine blk_put (cs:=#[.int .i64 ((rd_T58 l1 x5_1).f0),.int .i64 ((rd_T58 l1 x5_1).f1),.float .f64 0,.int .i64 0,.float .f64 0,.int .i64 0]) ?_ 2 _ rfl;(with_reducible repeat (first | refine blk_drewN ?_ _ | refine blk_drew ?_ | refine blk_alloc ?_ _));refine blk_put (cs:=#[.int .i64 ((rd_T58 l1 x5_1).f0),.int .i64 0,.float .f64 0,.int .i64 0,.float .f64 0,.int .i64 0]) ?_ 1 _ rfl;(with_reducible repeat (first | refine blk_drewN ?_ _ | refine blk_drew ?_ | refine blk_alloc ?_ _));refine blk_put (cs:=#[.int .i64 0,.int .i64 0,.float .f64 0,.int .i64 0,.float .f64 0,.int .i64 0]) ?_ 0 _ rfl;(with_reducible repeat (first | refine blk_drewN ?_ _ | refine blk_drew ?_ | refine blk_alloc ?_ _));exact BK233.out)):gb233 ≠ gb234));have n6_:=Aside0.mk ((by rw [hg];exact Nat.ne_of_gt (blk_lt (g:=gb233) (o:=.cells #[.int .i64 ((rd_T58 l1 x5_1).f0),.int .i64 ((rd_T58 l1 x5_1).f1),.float .f64 ((rd_T58 l1 x5_1).f2),.int .i64 ((rd_T58 l1 x5_1).f3),.float .f64 ((rd_T58 l1 x5_1).f4),.int .i64 ((rd_T58 l1 x5_1).f5)] 58 (0,0)) (by (with_reducible repeat (first | refine blk_drewN ?_ _ | refine blk_drew ?_ | refine blk_alloc ?_ _));refine blk_put (cs:=#[.int .i64 ((rd_T58 l1 x5_1).f0),.int .i64 ((rd_T58 l1 x5_1).f1),.float .f64 ((rd_T58 l1 x5_1).f2),.int .i64 ((rd_T58 l1 x5_1).f3),.float .f64 ((rd_T58 l1 x5_1).f4),.int .i64 0]) ?_ 5 _ rfl;(with_reducible repeat (first | refine blk_drewN ?_ _ | refine blk_drew ?_ | refine blk_alloc ?_ _));refine blk_put (cs:=#[.int .i64 ((rd_T58 l1 x5_1).f0),.int .i64 ((rd_T58 l1 x5_1).f1),.float .f64 ((rd_T58 l1 x5_1).f2),.int .i64 ((rd_T58 l1 x5_1).f3),.float .f64 0,.int .i64 0]) ?_ 4 _ rfl;(with_reducible repeat (first | refine blk_drewN ?_ _ | refine blk_drew ?_ | refine blk_alloc ?_ _));refine blk_put (cs:=#[.int .i64 ((rd_T58 l1 x5_1).f0),.int .i64 ((rd_T58 l1 x5_1).f1),.float .f64 ((rd_T58 l1 x5_1).f2),.int .i64 0,.float .f64 0,.int .i64 0]) ?_ 3 _ rfl;(with_reducible repeat (first | refine blk_drewN ?_ _ | refine blk_drew ?_ | refine blk_alloc ?_ _));refine blk_put (cs:=#[.int .i64 ((rd_T58 l1 x5_1).f0),.int .i64 ((rd_T58 l1 x5_1).f1),.float .f64 0,.int .i64 0,.float .f64 0,.int .i64 0]) ?_ 2 _ rfl;(with_reducible repeat (first | refine blk_drewN ?_ _ | refine blk_drew ?_ | refine blk_alloc ?_ _));refine blk_put (cs:=#[.int .i64 ((rd_T58 l1 x5_1).f0),.int .i64 0,.float .f64 0,.int .i64 0,.float .f64 0,.int .i64 0]) ?_ 1 _ rfl;(with_reducible repeat (first | refine blk_drewN ?_ _ | refine blk_drew ?_ | refine blk_alloc ?_ _));refine blk_put (cs:=#[.int .i64 0,.int .i64 0,.float .f64 0,.int .i64 0,.float .f64 0,.int .i64 0]) ?_ 0 _ rfl;(with_reducible repeat (first | refine blk_drewN ?_ _ | refine blk_drew ?_ | refine blk_alloc ?_ _));exact BK233.out)):gb234 ≠ gb233));clear BK233;clear HB;have BK233:=n0_;have HB:=n1_;have BK234:=n2_;have GW234:=n3_;have GE234:=n4_;have NB233_234:=n5_;have NB234_233:=n6_;clear n0_ n1_ n2_ n3_ n4_ n5_ n6_;clear hb hbox hg;have hnb11:=NB234_233.out;have hnc11:=NB233_234.out;have hcz12_0:w10.cell? ⟨gb234,0,none⟩ = some (.int .i64 0):=(blk_cell BK234.out 0).trans rfl;have hcz12_1:w10.cell? ⟨gb234,1,none⟩ = some (.int .i64 0):=(blk_cell BK234.out 1).trans rfl;have hcz12_2:w10.cell? ⟨gb234,2,none⟩ = some (.float .f64 0):=(blk_cell BK234.out 2).trans rfl;have hcz12_3:w10.cell? ⟨gb234,3,none⟩ = some (.float .f64 0):=(blk_cell BK234.out 3).trans rfl;have hcz12_4:w10.cell? ⟨gb234,4,none⟩ = some (.int .i64 0):=(blk_cell BK234.out 4).trans rfl;have hfz12_0:=blk_frozen BK234.out 0;have hfz12_1:=blk_frozen BK234.out 1;have hfz12_2:=blk_frozen BK234.out 2;have hfz12_3:=blk_frozen BK234.out 3;have hfz12_4:=blk_frozen BK234.out 4))
   (try simp only [Act.put,List.setIfInBounds_toArray,List.set_cons_zero,List.set_cons_succ])
   go_cut [65] (fun v65 wc => ∃ (kq:Nat) (x65_6:Bool),v65 = .bool x65_6 ∧ Aside0 (beaconref15_may.j1 kq a0 l1 x5_1 x65_6 ((rd_T58 l1 x5_1).f0) ((rd_T58 l1 x5_1).f1) ((rd_T58 l1 x5_1).f2) ((rd_T58 l1 x5_1).f3) ((rd_T58 l1 x5_1).f4) ((rd_T58 l1 x5_1).f5) = some r) ∧ Aside0 (kq ≤ k1) ∧ Aside0 (wc.heap[gb233]? = some (.cells #[.int .i64 ((rd_T58 l1 x5_1).f0),.int .i64 ((rd_T58 l1 x5_1).f1),.float .f64 ((rd_T58 l1 x5_1).f2),.int .i64 ((rd_T58 l1 x5_1).f3),.float .f64 ((rd_T58 l1 x5_1).f4),.int .i64 ((rd_T58 l1 x5_1).f5)] 58 (0,0))) ∧ Aside0 (wc.heap[gb234]? = some (.cells #[.int .i64 ((rd_T58 l1 x5_1).f0),.int .i64 ((rd_T58 l1 x5_1).f1),.float .f64 ((rd_T58 l1 x5_1).f2),.float .f64 ((rd_T58 l1 x5_1).f4),.int .i64 ((rd_T58 l1 x5_1).f5)] 56 (0,0))) ∧ Aside0 (Below w.heap.size w wc))
   case first =>
    have H:=HC7.out
    clear HC7
    by_cases c13:((rd_T58 l1 x5_1).f1) = 1
    rotate_left
    ·rw [if_neg c13] at H
     have c13b0:(((rd_T58 l1 x5_1).f1) == 1) = false:=beq_eq_false_iff_ne.mpr c13
     have c13b1:(((rd_T58 l1 x5_1).f1) != 1) = true:=bne_iff_ne.mpr c13
     (first | rw [c13b0] | (simp only [i64_w,i32_w];rw [c13b0]) | skip)
     have H':=Aside0.mk H
     clear H
     try go_wp2
     have n0_:Aside0 ((((((w10.setCell ⟨gb234,0,none⟩ (.int .i64 ((rd_T58 l1 x5_1).f0))).setCell ⟨gb234,1,none⟩ (.int .i64 ((rd_T58 l1 x5_1).f1))).setCell ⟨gb234,2,none⟩ (.float .f64 ((rd_T58 l1 x5_1).f2))).setCell ⟨gb234,3,none⟩ (.float .f64 ((rd_T58 l1 x5_1).f4))).setCell ⟨gb234,4,none⟩ (.int .i64 ((rd_T58 l1 x5_1).f5))).heap[gb233]? = some (.cells #[.int .i64 ((rd_T58 l1 x5_1).f0),.int .i64 ((rd_T58 l1 x5_1).f1),.float .f64 ((rd_T58 l1 x5_1).f2),.int .i64 ((rd_T58 l1 x5_1).f3),.float .f64 ((rd_T58 l1 x5_1).f4),.int .i64 ((rd_T58 l1 x5_1).f5)] 58 (0,0))):=⟨by (with_reducible repeat (first | refine blk_drewN ?_ _ | refine blk_drew ?_ | refine blk_alloc ?_ _));refine blk_far ?_ NB233_234.out _;(with_reducible repeat (first | refine blk_drewN ?_ _ | refine blk_drew ?_ | refine blk_alloc ?_ _));refine blk_far ?_ NB233_234.out _;(with_reducible repeat (first | refine blk_drewN ?_ _ | refine blk_drew ?_ | refine blk_alloc ?_ _));refine blk_far ?_ NB233_234.out _;(with_reducible repeat (first | refine blk_drewN ?_ _ | refine blk_drew ?_ | refine blk_alloc ?_ _));refine blk_far ?_ NB233_234.out _;(with_reducible repeat (first | refine blk_drewN ?_ _ | refine blk_drew ?_ | refine blk_alloc ?_ _));refine blk_far ?_ NB233_234.out _;(with_reducible repeat (first | refine blk_drewN ?_ _ | refine blk_drew ?_ | refine blk_alloc ?_ _));exact BK233.out⟩
     have n1_:Aside0 ((((((w10.setCell ⟨gb234,0,none⟩ (.int .i64 ((rd_T58 l1 x5_1).f0))).setCell ⟨gb234,1,none⟩ (.int .i64 ((rd_T58 l1 x5_1).f1))).setCell ⟨gb234,2,none⟩ (.float .f64 ((rd_T58 l1 x5_1).f2))).setCell ⟨gb234,3,none⟩ (.float .f64 ((rd_T58 l1 x5_1).f4))).setCell ⟨gb234,4,none⟩ (.int .i64 ((rd_T58 l1 x5_1).f5))).heap[gb234]? = some (.cells #[.int .i64 ((rd_T58 l1 x5_1).f0),.int .i64 ((rd_T58 l1 x5_1).f1),.float .f64 ((rd_T58 l1 x5_1).f2),.float .f64 ((rd_T58 l1 x5_1).f4),.int .i64 ((rd_T58 l1 x5_1).f5)] 56 (0,0))):=⟨by (with_reducible repeat (first | refine blk_drewN ?_ _ | refine blk_drew ?_ | refine blk_alloc ?_ _));refine blk_put (cs:=#[.int .i64 ((rd_T58 l1 x5_1).f0),.int .i64 ((rd_T58 l1 x5_1).f1),.float .f64 ((rd_T58 l1 x5_1).f2),.float .f64 ((rd_T58 l1 x5_1).f4),.int .i64 0]) ?_ 4 _ rfl;(with_reducible repeat (first | refine blk_drewN ?_ _ | refine blk_drew ?_ | refine blk_alloc ?_ _));refine blk_put (cs:=#[.int .i64 ((rd_T58 l1 x5_1).f0),.int .i64 ((rd_T58 l1 x5_1).f1),.float .f64 ((rd_T58 l1 x5_1).f2),.float .f64 0,.int .i64 0]) ?_ 3 _ rfl;(with_reducible repeat (first | refine blk_drewN ?_ _ | refine blk_drew ?_ | refine blk_alloc ?_ _));refine blk_put (cs:=#[.int .i64 ((rd_T58 l1 x5_1).f0),.int .i64 ((rd_T58 l1 x5_1).f1),.float .f64 0,.float .f64 0,.int .i64 0]) ?_ 2 _ rfl;(with_reducible repeat (first | refine blk_drewN ?_ _ | refine blk_drew ?_ | refine blk_alloc ?_ _));refine blk_put (cs:=#[.int .i64 ((rd_T58 l1 x5_1).f0),.int .i64 0,.float .f64 0,.float .f64 0,.int .i64 0]) ?_ 1 _ rfl;(with_reducible repeat (first | refine blk_drewN ?_ _ | refine blk_drew ?_ | refine blk_alloc ?_ _));refine blk_put (cs:=#[.int .i64 0,.int .i64 0,.float .f64 0,.float .f64 0,.int .i64 0]) ?_ 0 _ rfl;(with_reducible repeat (first | refine blk_drewN ?_ _ | refine blk_drew ?_ | refine blk_alloc ?_ _));exact BK234.out⟩
     have n2_:Aside0 (Below w.heap.size w (((((w10.setCell ⟨gb234,0,none⟩ (.int .i64 ((rd_T58 l1 x5_1).f0))).setCell ⟨gb234,1,none⟩ (.int .i64 ((rd_T58 l1 x5_1).f1))).setCell ⟨gb234,2,none⟩ (.float .f64 ((rd_T58 l1 x5_1).f2))).setCell ⟨gb234,3,none⟩ (.float .f64 ((rd_T58 l1 x5_1).f4))).setCell ⟨gb234,4,none⟩ (.int .i64 ((rd_T58 l1 x5_1).f5)))):=⟨by repeat (first | (with_reducible first | exact HB.out | apply below_alloc | apply pw_below_drewN | apply below_drew1 | refine below_set ?_ GE233.out | refine below_set ?_ GE234.out) | exact HB.out)⟩
     (try clear BK233)
     (try clear BK234)
     (try clear HB)
     generalize (((((w10.setCell ⟨gb234,0,none⟩ (.int .i64 ((rd_T58 l1 x5_1).f0))).setCell ⟨gb234,1,none⟩ (.int .i64 ((rd_T58 l1 x5_1).f1))).setCell ⟨gb234,2,none⟩ (.float .f64 ((rd_T58 l1 x5_1).f2))).setCell ⟨gb234,3,none⟩ (.float .f64 ((rd_T58 l1 x5_1).f4))).setCell ⟨gb234,4,none⟩ (.int .i64 ((rd_T58 l1 x5_1).f5))) = w37 at n0_ n1_ n2_ ⊢
     have BK233:=n0_
     have BK234:=n1_
     have HB:=n2_
     clear n0_ n1_ n2_
     have n0_:=Aside0.mk (blk_drew BK233.out)
     have n1_:=Aside0.mk (blk_drew BK234.out)
     have n2_:=Aside0.mk (below_drew1 HB.out)
     clear BK233
     clear BK234
     clear HB
     have BK233:=n0_
     have BK234:=n1_
     have HB:=n2_
     clear n0_ n1_ n2_
     refine start_ (n:=34) (S:=fun w' => w'.cell? ⟨gb233,0,none⟩ = some (.int .i64 ((rd_T58 l1 x5_1).f0)) ∧ w'.cell? ⟨gb233,1,none⟩ = some (.int .i64 ((rd_T58 l1 x5_1).f1)) ∧ w'.cell? ⟨gb233,2,none⟩ = some (.float .f64 ((rd_T58 l1 x5_1).f2)) ∧ w'.cell? ⟨gb233,3,none⟩ = some (.int .i64 ((rd_T58 l1 x5_1).f3)) ∧ w'.cell? ⟨gb233,4,none⟩ = some (.float .f64 ((rd_T58 l1 x5_1).f4)) ∧ w'.cell? ⟨gb233,5,none⟩ = some (.int .i64 ((rd_T58 l1 x5_1).f5))) (ds:=[]) #[false,false,false,false,false,false,false,false,false,false,false,false,false,false,false,false,false,false,false,false,false,false,false,false,false,false,false,false,false,false,false,false,false,false] (by kernel_rfl) rfl rfl ⟨(blk_cell BK233.out 0).trans rfl,(blk_cell BK233.out 1).trans rfl,(blk_cell BK233.out 2).trans rfl,(blk_cell BK233.out 3).trans rfl,(blk_cell BK233.out 4).trans rfl,(blk_cell BK233.out 5).trans rfl⟩ (fun hHeld => ?_);refine with_tabW beaconref15_may.tab8 beaconref15_may.bits8 (fun HT_ HW_ => ?_)
     generalize w37.drew = w38 at BK233 BK234 HB hHeld ⊢
     refine manyW_ (fuel:=0) (a':=?_) ((0,0) :: (1,2) :: (2,0) :: (3,0) :: (4,1) :: (5,1) :: (6,1) :: (7,0) :: (8,0) :: (9,1) :: (10,1) :: (11,1) :: (12,1) :: (13,0) :: (14,0) :: (15,1) :: (16,1) :: (17,1) :: (18,0) :: (19,0) :: (20,1) :: (21,1) :: (22,1) :: (23,1) :: (24,1) :: (25,1) :: (26,1) :: (27,1) :: (28,1) :: (29,1) :: (30,1) :: (31,1) :: (32,1) :: (33,0) :: []) #[true,true,true,true,true,true,true,true,true,true,true,true,true,true,true,true,true,true,true,true,true,true,true,true,true,true,true,true,true,true,true,true,true,true] rfl HT_ HW_ (by kernel_rfl) (fun _ _ _ _ _ h => h) (fun _ => hHeld) ?_ ?_
     rotate_left
     ·repeat (first | exact Chain.nil _ | (apply Chain.on;rfl;rfl;(focus intro w';go_simp;with_reducible rfl);(focus simp only [Act.put,List.setIfInBounds_toArray,List.set_cons_zero,List.set_cons_succ,i64_w,i32_w];rfl)) | (apply Chain.take;rfl;rfl;(focus rintro w' ⟨s0,s1,s2,s3,s4,s5⟩;go_simp;with_reducible rfl);(focus simp only [Act.put,List.setIfInBounds_toArray,List.set_cons_zero,List.set_cons_succ,i64_w,i32_w];rfl)) | (apply Chain.off;rfl;rfl;(focus simp only [Act.put,List.setIfInBounds_toArray,List.set_cons_zero,List.set_cons_succ,i64_w,i32_w];rfl)))
     refine done_ (done_of HT_.out (by kernel_rfl)) ?_
     try go_wp2
     go_meet
     case rel => exact ⟨_,(true),(by first | rfl | (simp;done) | (simp [*];done)),H',⟨by have:=HK1.out;first | omega | exact Nat.le_refl _⟩,⟨by (with_reducible repeat (first | refine blk_drewN ?_ _ | refine blk_drew ?_ | refine blk_alloc ?_ _));exact BK233.out⟩,⟨by (with_reducible repeat (first | refine blk_drewN ?_ _ | refine blk_drew ?_ | refine blk_alloc ?_ _));exact BK234.out⟩,⟨by repeat (first | (with_reducible first | exact HB.out | apply below_alloc | apply pw_below_drewN | apply below_drew1 | refine below_set ?_ GE233.out | refine below_set ?_ GE234.out) | exact HB.out)⟩⟩
    rw [if_pos c13] at H
    have c13b0:(((rd_T58 l1 x5_1).f1) == 1) = true:=beq_iff_eq.mpr c13
    have c13b1:(((rd_T58 l1 x5_1).f1) != 1) = false:=bne_eq_false_iff_eq.mpr c13
    clear c13
    (first | rw [c13b0] | (simp only [i64_w,i32_w];rw [c13b0]) | skip)
    replace H:=Option.bind_eq_some_iff.mp H
    obtain ⟨t235,A140,H⟩:=H
    replace H:(if t235 = true then (if ((rd_T58 l1 x5_1).f0) = a0 then (beaconref15_may.j1 k1 a0 l1 x5_1 true ((rd_T58 l1 x5_1).f0) ((rd_T58 l1 x5_1).f1) ((rd_T58 l1 x5_1).f2) ((rd_T58 l1 x5_1).f3) ((rd_T58 l1 x5_1).f4) ((rd_T58 l1 x5_1).f5)) else (if (FloatKind.f64.format.order ((rd_T58 l1 x5_1).f2) 0 == some .eq) = true then (beaconref15_may.j1 k1 a0 l1 x5_1 true ((rd_T58 l1 x5_1).f0) ((rd_T58 l1 x5_1).f1) ((rd_T58 l1 x5_1).f2) ((rd_T58 l1 x5_1).f3) ((rd_T58 l1 x5_1).f4) ((rd_T58 l1 x5_1).f5)) else (if x5_1 > 0 then (if 0 ≤ (wrap64 (x5_1 - 1)) then (if (wrap64 (x5_1 - 1)) < (l1.length:Int) then (beaconref15_may.j1 k1 a0 l1 x5_1 (decide (((rd_T58 l1 (wrap64 (x5_1 - 1))).f0) ≥ ((rd_T58 l1 x5_1).f0))) ((rd_T58 l1 x5_1).f0) ((rd_T58 l1 x5_1).f1) ((rd_T58 l1 x5_1).f2) ((rd_T58 l1 x5_1).f3) ((rd_T58 l1 x5_1).f4) ((rd_T58 l1 x5_1).f5)) else (none)) else (none)) else (beaconref15_may.j1 k1 a0 l1 x5_1 false ((rd_T58 l1 x5_1).f0) ((rd_T58 l1 x5_1).f1) ((rd_T58 l1 x5_1).f2) ((rd_T58 l1 x5_1).f3) ((rd_T58 l1 x5_1).f4) ((rd_T58 l1 x5_1).f5))))) else (beaconref15_may.j1 k1 a0 l1 x5_1 true ((rd_T58 l1 x5_1).f0) ((rd_T58 l1 x5_1).f1) ((rd_T58 l1 x5_1).f2) ((rd_T58 l1 x5_1).f3) ((rd_T58 l1 x5_1).f4) ((rd_T58 l1 x5_1).f5))) = some r:=H
    have A14:=Aside0.mk A140
    clear A140
    by_cases c15:t235 = true
    rotate_left
    ·replace c15:=Bool.eq_false_iff.mpr c15
     subst c15
     have H1:(beaconref15_may.j1 k1 a0 l1 x5_1 true ((rd_T58 l1 x5_1).f0) ((rd_T58 l1 x5_1).f1) ((rd_T58 l1 x5_1).f2) ((rd_T58 l1 x5_1).f3) ((rd_T58 l1 x5_1).f4) ((rd_T58 l1 x5_1).f5)) = some r:=by rw [if_neg (show ¬ (false = true) by decide)] at H;exact H
     clear H
     have H:=H1
     clear H1
     have H':=Aside0.mk H
     clear H
     try go_wp2
     have n0_:Aside0 ((((((w10.setCell ⟨gb234,0,none⟩ (.int .i64 ((rd_T58 l1 x5_1).f0))).setCell ⟨gb234,1,none⟩ (.int .i64 ((rd_T58 l1 x5_1).f1))).setCell ⟨gb234,2,none⟩ (.float .f64 ((rd_T58 l1 x5_1).f2))).setCell ⟨gb234,3,none⟩ (.float .f64 ((rd_T58 l1 x5_1).f4))).setCell ⟨gb234,4,none⟩ (.int .i64 ((rd_T58 l1 x5_1).f5))).heap[gb233]? = some (.cells #[.int .i64 ((rd_T58 l1 x5_1).f0),.int .i64 ((rd_T58 l1 x5_1).f1),.float .f64 ((rd_T58 l1 x5_1).f2),.int .i64 ((rd_T58 l1 x5_1).f3),.float .f64 ((rd_T58 l1 x5_1).f4),.int .i64 ((rd_T58 l1 x5_1).f5)] 58 (0,0))):=⟨by (with_reducible repeat (first | refine blk_drewN ?_ _ | refine blk_drew ?_ | refine blk_alloc ?_ _));refine blk_far ?_ NB233_234.out _;(with_reducible repeat (first | refine blk_drewN ?_ _ | refine blk_drew ?_ | refine blk_alloc ?_ _));refine blk_far ?_ NB233_234.out _;(with_reducible repeat (first | refine blk_drewN ?_ _ | refine blk_drew ?_ | refine blk_alloc ?_ _));refine blk_far ?_ NB233_234.out _;(with_reducible repeat (first | refine blk_drewN ?_ _ | refine blk_drew ?_ | refine blk_alloc ?_ _));refine blk_far ?_ NB233_234.out _;(with_reducible repeat (first | refine blk_drewN ?_ _ | refine blk_drew ?_ | refine blk_alloc ?_ _));refine blk_far ?_ NB233_234.out _;(with_reducible repeat (first | refine blk_drewN ?_ _ | refine blk_drew ?_ | refine blk_alloc ?_ _));exact BK233.out⟩
     have n1_:Aside0 ((((((w10.setCell ⟨gb234,0,none⟩ (.int .i64 ((rd_T58 l1 x5_1).f0))).setCell ⟨gb234,1,none⟩ (.int .i64 ((rd_T58 l1 x5_1).f1))).setCell ⟨gb234,2,none⟩ (.float .f64 ((rd_T58 l1 x5_1).f2))).setCell ⟨gb234,3,none⟩ (.float .f64 ((rd_T58 l1 x5_1).f4))).setCell ⟨gb234,4,none⟩ (.int .i64 ((rd_T58 l1 x5_1).f5))).heap[gb234]? = some (.cells #[.int .i64 ((rd_T58 l1 x5_1).f0),.int .i64 ((rd_T58 l1 x5_1).f1),.float .f64 ((rd_T58 l1 x5_1).f2),.float .f64 ((rd_T58 l1 x5_1).f4),.int .i64 ((rd_T58 l1 x5_1).f5)] 56 (0,0))):=⟨by (with_reducible repeat (first | refine blk_drewN ?_ _ | refine blk_drew ?_ | refine blk_alloc ?_ _));refine blk_put (cs:=#[.int .i64 ((rd_T58 l1 x5_1).f0),.int .i64 ((rd_T58 l1 x5_1).f1),.float .f64 ((rd_T58 l1 x5_1).f2),.float .f64 ((rd_T58 l1 x5_1).f4),.int .i64 0]) ?_ 4 _ rfl;(with_reducible repeat (first | refine blk_drewN ?_ _ | refine blk_drew ?_ | refine blk_alloc ?_ _));refine blk_put (cs:=#[.int .i64 ((rd_T58 l1 x5_1).f0),.int .i64 ((rd_T58 l1 x5_1).f1),.float .f64 ((rd_T58 l1 x5_1).f2),.float .f64 0,.int .i64 0]) ?_ 3 _ rfl;(with_reducible repeat (first | refine blk_drewN ?_ _ | refine blk_drew ?_ | refine blk_alloc ?_ _));refine blk_put (cs:=#[.int .i64 ((rd_T58 l1 x5_1).f0),.int .i64 ((rd_T58 l1 x5_1).f1),.float .f64 0,.float .f64 0,.int .i64 0]) ?_ 2 _ rfl;(with_reducible repeat (first | refine blk_drewN ?_ _ | refine blk_drew ?_ | refine blk_alloc ?_ _));refine blk_put (cs:=#[.int .i64 ((rd_T58 l1 x5_1).f0),.int .i64 0,.float .f64 0,.float .f64 0,.int .i64 0]) ?_ 1 _ rfl;(with_reducible repeat (first | refine blk_drewN ?_ _ | refine blk_drew ?_ | refine blk_alloc ?_ _));refine blk_put (cs:=#[.int .i64 0,.int .i64 0,.float .f64 0,.float .f64 0,.int .i64 0]) ?_ 0 _ rfl;(with_reducible repeat (first | refine blk_drewN ?_ _ | refine blk_drew ?_ | refine blk_alloc ?_ _));exact BK234.out⟩
     have n2_:Aside0 (Below w.heap.size w (((((w10.setCell ⟨gb234,0,none⟩ (.int .i64 ((rd_T58 l1 x5_1).f0))).setCell ⟨gb234,1,none⟩ (.int .i64 ((rd_T58 l1 x5_1).f1))).setCell ⟨gb234,2,none⟩ (.float .f64 ((rd_T58 l1 x5_1).f2))).setCell ⟨gb234,3,none⟩ (.float .f64 ((rd_T58 l1 x5_1).f4))).setCell ⟨gb234,4,none⟩ (.int .i64 ((rd_T58 l1 x5_1).f5)))):=⟨by repeat (first | (with_reducible first | exact HB.out | apply below_alloc | apply pw_below_drewN | apply below_drew1 | refine below_set ?_ GE233.out | refine below_set ?_ GE234.out) | exact HB.out)⟩
     (try clear BK233)
     (try clear BK234)
     (try clear HB)
     generalize (((((w10.setCell ⟨gb234,0,none⟩ (.int .i64 ((rd_T58 l1 x5_1).f0))).setCell ⟨gb234,1,none⟩ (.int .i64 ((rd_T58 l1 x5_1).f1))).setCell ⟨gb234,2,none⟩ (.float .f64 ((rd_T58 l1 x5_1).f2))).setCell ⟨gb234,3,none⟩ (.float .f64 ((rd_T58 l1 x5_1).f4))).setCell ⟨gb234,4,none⟩ (.int .i64 ((rd_T58 l1 x5_1).f5))) = w34 at n0_ n1_ n2_ ⊢
     have BK233:=n0_
     have BK234:=n1_
     have HB:=n2_
     clear n0_ n1_ n2_
     have n0_:=Aside0.mk (blk_drew BK233.out)
     have n1_:=Aside0.mk (blk_drew BK234.out)
     have n2_:=Aside0.mk (below_drew1 HB.out)
     clear BK233
     clear BK234
     clear HB
     have BK233:=n0_
     have BK234:=n1_
     have HB:=n2_
     clear n0_ n1_ n2_
     refine start_ (n:=34) (S:=fun w' => w'.cell? ⟨gb233,0,none⟩ = some (.int .i64 ((rd_T58 l1 x5_1).f0)) ∧ w'.cell? ⟨gb233,1,none⟩ = some (.int .i64 ((rd_T58 l1 x5_1).f1)) ∧ w'.cell? ⟨gb233,2,none⟩ = some (.float .f64 ((rd_T58 l1 x5_1).f2)) ∧ w'.cell? ⟨gb233,3,none⟩ = some (.int .i64 ((rd_T58 l1 x5_1).f3)) ∧ w'.cell? ⟨gb233,4,none⟩ = some (.float .f64 ((rd_T58 l1 x5_1).f4)) ∧ w'.cell? ⟨gb233,5,none⟩ = some (.int .i64 ((rd_T58 l1 x5_1).f5)) ∧ w'.cell? ⟨gb234,0,none⟩ = some (.int .i64 ((rd_T58 l1 x5_1).f0)) ∧ w'.cell? ⟨gb234,1,none⟩ = some (.int .i64 ((rd_T58 l1 x5_1).f1)) ∧ w'.cell? ⟨gb234,2,none⟩ = some (.float .f64 ((rd_T58 l1 x5_1).f2)) ∧ w'.cell? ⟨gb234,3,none⟩ = some (.float .f64 ((rd_T58 l1 x5_1).f4)) ∧ w'.cell? ⟨gb234,4,none⟩ = some (.int .i64 ((rd_T58 l1 x5_1).f5))) (ds:=[]) #[false,false,false,false,false,false,false,false,false,false,false,false,false,false,false,false,false,false,false,false,false,false,false,false,false,false,false,false,false,false,false,false,false,false] (by kernel_rfl) rfl rfl ⟨(blk_cell BK233.out 0).trans rfl,(blk_cell BK233.out 1).trans rfl,(blk_cell BK233.out 2).trans rfl,(blk_cell BK233.out 3).trans rfl,(blk_cell BK233.out 4).trans rfl,(blk_cell BK233.out 5).trans rfl,(blk_cell BK234.out 0).trans rfl,(blk_cell BK234.out 1).trans rfl,(blk_cell BK234.out 2).trans rfl,(blk_cell BK234.out 3).trans rfl,(blk_cell BK234.out 4).trans rfl⟩ (fun hHeld => ?_);refine with_tabW beaconref15_may.tab8 beaconref15_may.bits8 (fun HT_ HW_ => ?_)
     generalize w34.drew = w35 at BK233 BK234 HB hHeld ⊢
     refine manyW_ (fuel:=29) (a':=?_) ((0,0) :: (1,2) :: (2,0) :: (3,0) :: (4,2) :: []) #[true,true,true,true,true,false,false,false,false,false,false,false,false,false,false,false,false,false,false,false,false,false,false,false,false,false,false,false,false,false,false,false,false,false] rfl HT_ HW_ (by kernel_rfl) (fun _ _ _ _ _ h => h) (fun _ => hHeld) ?_ ?_
     rotate_left
     ·repeat (first | exact Chain.nil _ | (apply Chain.on;rfl;rfl;(focus intro w';go_simp;with_reducible rfl);(focus simp only [Act.put,List.setIfInBounds_toArray,List.set_cons_zero,List.set_cons_succ,i64_w,i32_w];rfl)) | (apply Chain.take;rfl;rfl;(focus rintro w' ⟨s0,s1,s2,s3,s4,s5,s6,s7,s8,s9,s10⟩;go_simp;with_reducible rfl);(focus simp only [Act.put,List.setIfInBounds_toArray,List.set_cons_zero,List.set_cons_succ,i64_w,i32_w];rfl)))
     refine one_ (i:=5) (N:=some 37) #[true,true,true,true,true,true,false,false,false,false,false,false,false,false,false,false,false,false,false,false,false,false,false,false,false,false,false,false,false,false,false,false,false,false] rfl rfl (one_of HT_.out (by kernel_rfl)) (by decide) (fun K hK => ?_)
     refine goes_ Try.func87 (by kernel_rfl) rfl #[.agg #[.int .i64 ((rd_T58 l1 x5_1).f0),.int .i64 ((rd_T58 l1 x5_1).f1),.float .f64 ((rd_T58 l1 x5_1).f2),.float .f64 ((rd_T58 l1 x5_1).f4),.int .i64 ((rd_T58 l1 x5_1).f5)]] (by rfl) rfl rfl (by (try simp only [List.map_toArray,List.map_cons,List.map_nil]);first | done | rfl | (simp only [List.length_drop,List.length_take];rfl)) ?_
     with_reducible refine (beaconref06_May.calls k1 ((rd_T58 l1 x5_1).f0) ((rd_T58 l1 x5_1).f1) ((rd_T58 l1 x5_1).f2) ((rd_T58 l1 x5_1).f4) ((rd_T58 l1 x5_1).f5) false _ A14.out).mono ?_
     rintro e w36 ⟨rfl,hb⟩
     refine ⟨_,rfl,?_⟩
     have n0_:=Aside0.mk (blk_below (g:=gb233) (o:=.cells #[.int .i64 ((rd_T58 l1 x5_1).f0),.int .i64 ((rd_T58 l1 x5_1).f1),.float .f64 ((rd_T58 l1 x5_1).f2),.int .i64 ((rd_T58 l1 x5_1).f3),.float .f64 ((rd_T58 l1 x5_1).f4),.int .i64 ((rd_T58 l1 x5_1).f5)] 58 (0,0)) (by (with_reducible repeat (first | refine blk_drewN ?_ _ | refine blk_drew ?_ | refine blk_alloc ?_ _));exact BK233.out) hb)
     have n1_:=Aside0.mk (blk_below (g:=gb234) (o:=.cells #[.int .i64 ((rd_T58 l1 x5_1).f0),.int .i64 ((rd_T58 l1 x5_1).f1),.float .f64 ((rd_T58 l1 x5_1).f2),.float .f64 ((rd_T58 l1 x5_1).f4),.int .i64 ((rd_T58 l1 x5_1).f5)] 56 (0,0)) (by (with_reducible repeat (first | refine blk_drewN ?_ _ | refine blk_drew ?_ | refine blk_alloc ?_ _));exact BK234.out) hb)
     have n2_:=Aside0.mk (below_step (by repeat (first | (with_reducible first | exact HB.out | apply below_alloc | apply pw_below_drewN | apply below_drew1 | refine below_set ?_ GE233.out | refine below_set ?_ GE234.out) | exact HB.out)) hb)
     clear BK233
     clear BK234
     clear HB
     have BK233:=n0_
     have BK234:=n1_
     have HB:=n2_
     clear n0_ n1_ n2_
     (try clear hb)
     (try clear hb2)
     (try clear hk)
     (try clear hi)
     refine hK.out _ _ ⟨(blk_cell BK233.out 0).trans rfl,(blk_cell BK233.out 1).trans rfl,(blk_cell BK233.out 2).trans rfl,(blk_cell BK233.out 3).trans rfl,(blk_cell BK233.out 4).trans rfl,(blk_cell BK233.out 5).trans rfl,(blk_cell BK234.out 0).trans rfl,(blk_cell BK234.out 1).trans rfl,(blk_cell BK234.out 2).trans rfl,(blk_cell BK234.out 3).trans rfl,(blk_cell BK234.out 4).trans rfl⟩ (fun hHeld => ?_)
     clear hK K
     refine norm_ (a':=?_) ?_ ?_
     rotate_left
     ·show Act.put _ (some 37) _ = _
      simp only [Act.put,List.setIfInBounds_toArray,List.set_cons_zero,List.set_cons_succ,i64_w,i32_w]
      rfl
     refine manyT_ (fuel:=0) (a':=?_) ((6,0) :: (7,0) :: (8,0) :: (9,1) :: (10,1) :: (11,1) :: (12,1) :: (13,0) :: (14,0) :: (15,1) :: (16,1) :: (17,1) :: (18,0) :: (19,0) :: (20,1) :: (21,1) :: (22,1) :: (23,1) :: (24,1) :: (25,1) :: (26,1) :: (27,1) :: (28,1) :: (29,1) :: (30,1) :: (31,1) :: (32,1) :: (33,0) :: []) #[true,true,true,true,true,true,true,true,true,true,true,true,true,true,true,true,true,true,true,true,true,true,true,true,true,true,true,true,true,true,true,true,true,true] rfl HT_ (by kernel_rfl) (fun _ _ _ _ _ h => h) (fun h => absurd h (by decide)) ?_ ?_
     rotate_left
     ·repeat (first | exact Chain.nil _ | (apply Chain.on;rfl;rfl;(focus intro w';go_simp;with_reducible rfl);(focus simp only [Act.put,List.setIfInBounds_toArray,List.set_cons_zero,List.set_cons_succ,i64_w,i32_w];rfl)) | (apply Chain.off;rfl;rfl;(focus simp only [Act.put,List.setIfInBounds_toArray,List.set_cons_zero,List.set_cons_succ,i64_w,i32_w];rfl)))
     refine done_ (done_of HT_.out (by kernel_rfl)) ?_
     try go_wp2
     go_meet
     case rel => exact ⟨_,(true),(by first | rfl | (simp;done) | (simp [*];done)),H',⟨by have:=HK1.out;first | omega | exact Nat.le_refl _⟩,⟨by (with_reducible repeat (first | refine blk_drewN ?_ _ | refine blk_drew ?_ | refine blk_alloc ?_ _));exact BK233.out⟩,⟨by (with_reducible repeat (first | refine blk_drewN ?_ _ | refine blk_drew ?_ | refine blk_alloc ?_ _));exact BK234.out⟩,⟨by repeat (first | (with_reducible first | exact HB.out | apply below_alloc | apply pw_below_drewN | apply below_drew1 | refine below_set ?_ GE233.out | refine below_set ?_ GE234.out) | exact HB.out)⟩⟩
    subst c15
    have H1:(if ((rd_T58 l1 x5_1).f0) = a0 then (beaconref15_may.j1 k1 a0 l1 x5_1 true ((rd_T58 l1 x5_1).f0) ((rd_T58 l1 x5_1).f1) ((rd_T58 l1 x5_1).f2) ((rd_T58 l1 x5_1).f3) ((rd_T58 l1 x5_1).f4) ((rd_T58 l1 x5_1).f5)) else (if (FloatKind.f64.format.order ((rd_T58 l1 x5_1).f2) 0 == some .eq) = true then (beaconref15_may.j1 k1 a0 l1 x5_1 true ((rd_T58 l1 x5_1).f0) ((rd_T58 l1 x5_1).f1) ((rd_T58 l1 x5_1).f2) ((rd_T58 l1 x5_1).f3) ((rd_T58 l1 x5_1).f4) ((rd_T58 l1 x5_1).f5)) else (if x5_1 > 0 then (if 0 ≤ (wrap64 (x5_1 - 1)) then (if (wrap64 (x5_1 - 1)) < (l1.length:Int) then (beaconref15_may.j1 k1 a0 l1 x5_1 (decide (((rd_T58 l1 (wrap64 (x5_1 - 1))).f0) ≥ ((rd_T58 l1 x5_1).f0))) ((rd_T58 l1 x5_1).f0) ((rd_T58 l1 x5_1).f1) ((rd_T58 l1 x5_1).f2) ((rd_T58 l1 x5_1).f3) ((rd_T58 l1 x5_1).f4) ((rd_T58 l1 x5_1).f5)) else (none)) else (none)) else (beaconref15_may.j1 k1 a0 l1 x5_1 false ((rd_T58 l1 x5_1).f0) ((rd_T58 l1 x5_1).f1) ((rd_T58 l1 x5_1).f2) ((rd_T58 l1 x5_1).f3) ((rd_T58 l1 x5_1).f4) ((rd_T58 l1 x5_1).f5))))) = some r:=by rw [if_pos rfl] at H;exact H
    clear H
    have H:=H1
    clear H1
    by_cases c16:((rd_T58 l1 x5_1).f0) = a0
    ·rw [if_pos c16] at H
     have c16b0:(((rd_T58 l1 x5_1).f0) == a0) = true:=beq_iff_eq.mpr c16
     have c16b1:(((rd_T58 l1 x5_1).f0) != a0) = false:=bne_eq_false_iff_eq.mpr c16
     clear c16
     have H':=Aside0.mk H
     clear H
     try go_wp2
     have n0_:Aside0 ((((((w10.setCell ⟨gb234,0,none⟩ (.int .i64 ((rd_T58 l1 x5_1).f0))).setCell ⟨gb234,1,none⟩ (.int .i64 ((rd_T58 l1 x5_1).f1))).setCell ⟨gb234,2,none⟩ (.float .f64 ((rd_T58 l1 x5_1).f2))).setCell ⟨gb234,3,none⟩ (.float .f64 ((rd_T58 l1 x5_1).f4))).setCell ⟨gb234,4,none⟩ (.int .i64 ((rd_T58 l1 x5_1).f5))).heap[gb233]? = some (.cells #[.int .i64 ((rd_T58 l1 x5_1).f0),.int .i64 ((rd_T58 l1 x5_1).f1),.float .f64 ((rd_T58 l1 x5_1).f2),.int .i64 ((rd_T58 l1 x5_1).f3),.float .f64 ((rd_T58 l1 x5_1).f4),.int .i64 ((rd_T58 l1 x5_1).f5)] 58 (0,0))):=⟨by (with_reducible repeat (first | refine blk_drewN ?_ _ | refine blk_drew ?_ | refine blk_alloc ?_ _));refine blk_far ?_ NB233_234.out _;(with_reducible repeat (first | refine blk_drewN ?_ _ | refine blk_drew ?_ | refine blk_alloc ?_ _));refine blk_far ?_ NB233_234.out _;(with_reducible repeat (first | refine blk_drewN ?_ _ | refine blk_drew ?_ | refine blk_alloc ?_ _));refine blk_far ?_ NB233_234.out _;(with_reducible repeat (first | refine blk_drewN ?_ _ | refine blk_drew ?_ | refine blk_alloc ?_ _));refine blk_far ?_ NB233_234.out _;(with_reducible repeat (first | refine blk_drewN ?_ _ | refine blk_drew ?_ | refine blk_alloc ?_ _));refine blk_far ?_ NB233_234.out _;(with_reducible repeat (first | refine blk_drewN ?_ _ | refine blk_drew ?_ | refine blk_alloc ?_ _));exact BK233.out⟩
     have n1_:Aside0 ((((((w10.setCell ⟨gb234,0,none⟩ (.int .i64 ((rd_T58 l1 x5_1).f0))).setCell ⟨gb234,1,none⟩ (.int .i64 ((rd_T58 l1 x5_1).f1))).setCell ⟨gb234,2,none⟩ (.float .f64 ((rd_T58 l1 x5_1).f2))).setCell ⟨gb234,3,none⟩ (.float .f64 ((rd_T58 l1 x5_1).f4))).setCell ⟨gb234,4,none⟩ (.int .i64 ((rd_T58 l1 x5_1).f5))).heap[gb234]? = some (.cells #[.int .i64 ((rd_T58 l1 x5_1).f0),.int .i64 ((rd_T58 l1 x5_1).f1),.float .f64 ((rd_T58 l1 x5_1).f2),.float .f64 ((rd_T58 l1 x5_1).f4),.int .i64 ((rd_T58 l1 x5_1).f5)] 56 (0,0))):=⟨by (with_reducible repeat (first | refine blk_drewN ?_ _ | refine blk_drew ?_ | refine blk_alloc ?_ _));refine blk_put (cs:=#[.int .i64 ((rd_T58 l1 x5_1).f0),.int .i64 ((rd_T58 l1 x5_1).f1),.float .f64 ((rd_T58 l1 x5_1).f2),.float .f64 ((rd_T58 l1 x5_1).f4),.int .i64 0]) ?_ 4 _ rfl;(with_reducible repeat (first | refine blk_drewN ?_ _ | refine blk_drew ?_ | refine blk_alloc ?_ _));refine blk_put (cs:=#[.int .i64 ((rd_T58 l1 x5_1).f0),.int .i64 ((rd_T58 l1 x5_1).f1),.float .f64 ((rd_T58 l1 x5_1).f2),.float .f64 0,.int .i64 0]) ?_ 3 _ rfl;(with_reducible repeat (first | refine blk_drewN ?_ _ | refine blk_drew ?_ | refine blk_alloc ?_ _));refine blk_put (cs:=#[.int .i64 ((rd_T58 l1 x5_1).f0),.int .i64 ((rd_T58 l1 x5_1).f1),.float .f64 0,.float .f64 0,.int .i64 0]) ?_ 2 _ rfl;(with_reducible repeat (first | refine blk_drewN ?_ _ | refine blk_drew ?_ | refine blk_alloc ?_ _));refine blk_put (cs:=#[.int .i64 ((rd_T58 l1 x5_1).f0),.int .i64 0,.float .f64 0,.float .f64 0,.int .i64 0]) ?_ 1 _ rfl;(with_reducible repeat (first | refine blk_drewN ?_ _ | refine blk_drew ?_ | refine blk_alloc ?_ _));refine blk_put (cs:=#[.int .i64 0,.int .i64 0,.float .f64 0,.float .f64 0,.int .i64 0]) ?_ 0 _ rfl;(with_reducible repeat (first | refine blk_drewN ?_ _ | refine blk_drew ?_ | refine blk_alloc ?_ _));exact BK234.out⟩
     have n2_:Aside0 (Below w.heap.size w (((((w10.setCell ⟨gb234,0,none⟩ (.int .i64 ((rd_T58 l1 x5_1).f0))).setCell ⟨gb234,1,none⟩ (.int .i64 ((rd_T58 l1 x5_1).f1))).setCell ⟨gb234,2,none⟩ (.float .f64 ((rd_T58 l1 x5_1).f2))).setCell ⟨gb234,3,none⟩ (.float .f64 ((rd_T58 l1 x5_1).f4))).setCell ⟨gb234,4,none⟩ (.int .i64 ((rd_T58 l1 x5_1).f5)))):=⟨by repeat (first | (with_reducible first | exact HB.out | apply below_alloc | apply pw_below_drewN | apply below_drew1 | refine below_set ?_ GE233.out | refine below_set ?_ GE234.out) | exact HB.out)⟩
     (try clear BK233)
     (try clear BK234)
     (try clear HB)
     generalize (((((w10.setCell ⟨gb234,0,none⟩ (.int .i64 ((rd_T58 l1 x5_1).f0))).setCell ⟨gb234,1,none⟩ (.int .i64 ((rd_T58 l1 x5_1).f1))).setCell ⟨gb234,2,none⟩ (.float .f64 ((rd_T58 l1 x5_1).f2))).setCell ⟨gb234,3,none⟩ (.float .f64 ((rd_T58 l1 x5_1).f4))).setCell ⟨gb234,4,none⟩ (.int .i64 ((rd_T58 l1 x5_1).f5))) = w17 at n0_ n1_ n2_ ⊢
     have BK233:=n0_
     have BK234:=n1_
     have HB:=n2_
     clear n0_ n1_ n2_
     have n0_:=Aside0.mk (blk_drew BK233.out)
     have n1_:=Aside0.mk (blk_drew BK234.out)
     have n2_:=Aside0.mk (below_drew1 HB.out)
     clear BK233
     clear BK234
     clear HB
     have BK233:=n0_
     have BK234:=n1_
     have HB:=n2_
     clear n0_ n1_ n2_
     refine start_ (n:=34) (S:=fun w' => w'.cell? ⟨gb233,0,none⟩ = some (.int .i64 ((rd_T58 l1 x5_1).f0)) ∧ w'.cell? ⟨gb233,1,none⟩ = some (.int .i64 ((rd_T58 l1 x5_1).f1)) ∧ w'.cell? ⟨gb233,2,none⟩ = some (.float .f64 ((rd_T58 l1 x5_1).f2)) ∧ w'.cell? ⟨gb233,3,none⟩ = some (.int .i64 ((rd_T58 l1 x5_1).f3)) ∧ w'.cell? ⟨gb233,4,none⟩ = some (.float .f64 ((rd_T58 l1 x5_1).f4)) ∧ w'.cell? ⟨gb233,5,none⟩ = some (.int .i64 ((rd_T58 l1 x5_1).f5)) ∧ w'.cell? ⟨gb234,0,none⟩ = some (.int .i64 ((rd_T58 l1 x5_1).f0)) ∧ w'.cell? ⟨gb234,1,none⟩ = some (.int .i64 ((rd_T58 l1 x5_1).f1)) ∧ w'.cell? ⟨gb234,2,none⟩ = some (.float .f64 ((rd_T58 l1 x5_1).f2)) ∧ w'.cell? ⟨gb234,3,none⟩ = some (.float .f64 ((rd_T58 l1 x5_1).f4)) ∧ w'.cell? ⟨gb234,4,none⟩ = some (.int .i64 ((rd_T58 l1 x5_1).f5))) (ds:=[]) #[false,false,false,false,false,false,false,false,false,false,false,false,false,false,false,false,false,false,false,false,false,false,false,false,false,false,false,false,false,false,false,false,false,false] (by kernel_rfl) rfl rfl ⟨(blk_cell BK233.out 0).trans rfl,(blk_cell BK233.out 1).trans rfl,(blk_cell BK233.out 2).trans rfl,(blk_cell BK233.out 3).trans rfl,(blk_cell BK233.out 4).trans rfl,(blk_cell BK233.out 5).trans rfl,(blk_cell BK234.out 0).trans rfl,(blk_cell BK234.out 1).trans rfl,(blk_cell BK234.out 2).trans rfl,(blk_cell BK234.out 3).trans rfl,(blk_cell BK234.out 4).trans rfl⟩ (fun hHeld => ?_);refine with_tabW beaconref15_may.tab8 beaconref15_may.bits8 (fun HT_ HW_ => ?_)
     generalize w17.drew = w18 at BK233 BK234 HB hHeld ⊢
     refine manyW_ (fuel:=29) (a':=?_) ((0,0) :: (1,2) :: (2,0) :: (3,0) :: (4,2) :: []) #[true,true,true,true,true,false,false,false,false,false,false,false,false,false,false,false,false,false,false,false,false,false,false,false,false,false,false,false,false,false,false,false,false,false] rfl HT_ HW_ (by kernel_rfl) (fun _ _ _ _ _ h => h) (fun _ => hHeld) ?_ ?_
     rotate_left
     ·repeat (first | exact Chain.nil _ | (apply Chain.on;rfl;rfl;(focus intro w';go_simp;with_reducible rfl);(focus simp only [Act.put,List.setIfInBounds_toArray,List.set_cons_zero,List.set_cons_succ,i64_w,i32_w];rfl)) | (apply Chain.take;rfl;rfl;(focus rintro w' ⟨s0,s1,s2,s3,s4,s5,s6,s7,s8,s9,s10⟩;go_simp;with_reducible rfl);(focus simp only [Act.put,List.setIfInBounds_toArray,List.set_cons_zero,List.set_cons_succ,i64_w,i32_w];rfl)))
     refine one_ (i:=5) (N:=some 37) #[true,true,true,true,true,true,false,false,false,false,false,false,false,false,false,false,false,false,false,false,false,false,false,false,false,false,false,false,false,false,false,false,false,false] rfl rfl (one_of HT_.out (by kernel_rfl)) (by decide) (fun K hK => ?_)
     refine goes_ Try.func87 (by kernel_rfl) rfl #[.agg #[.int .i64 ((rd_T58 l1 x5_1).f0),.int .i64 ((rd_T58 l1 x5_1).f1),.float .f64 ((rd_T58 l1 x5_1).f2),.float .f64 ((rd_T58 l1 x5_1).f4),.int .i64 ((rd_T58 l1 x5_1).f5)]] (by rfl) rfl rfl (by (try simp only [List.map_toArray,List.map_cons,List.map_nil]);first | done | rfl | (simp only [List.length_drop,List.length_take];rfl)) ?_
     with_reducible refine (beaconref06_May.calls k1 ((rd_T58 l1 x5_1).f0) ((rd_T58 l1 x5_1).f1) ((rd_T58 l1 x5_1).f2) ((rd_T58 l1 x5_1).f4) ((rd_T58 l1 x5_1).f5) true _ A14.out).mono ?_
     rintro e w19 ⟨rfl,hb⟩
     refine ⟨_,rfl,?_⟩
     have n0_:=Aside0.mk (blk_below (g:=gb233) (o:=.cells #[.int .i64 ((rd_T58 l1 x5_1).f0),.int .i64 ((rd_T58 l1 x5_1).f1),.float .f64 ((rd_T58 l1 x5_1).f2),.int .i64 ((rd_T58 l1 x5_1).f3),.float .f64 ((rd_T58 l1 x5_1).f4),.int .i64 ((rd_T58 l1 x5_1).f5)] 58 (0,0)) (by (with_reducible repeat (first | refine blk_drewN ?_ _ | refine blk_drew ?_ | refine blk_alloc ?_ _));exact BK233.out) hb)
     have n1_:=Aside0.mk (blk_below (g:=gb234) (o:=.cells #[.int .i64 ((rd_T58 l1 x5_1).f0),.int .i64 ((rd_T58 l1 x5_1).f1),.float .f64 ((rd_T58 l1 x5_1).f2),.float .f64 ((rd_T58 l1 x5_1).f4),.int .i64 ((rd_T58 l1 x5_1).f5)] 56 (0,0)) (by (with_reducible repeat (first | refine blk_drewN ?_ _ | refine blk_drew ?_ | refine blk_alloc ?_ _));exact BK234.out) hb)
     have n2_:=Aside0.mk (below_step (by repeat (first | (with_reducible first | exact HB.out | apply below_alloc | apply pw_below_drewN | apply below_drew1 | refine below_set ?_ GE233.out | refine below_set ?_ GE234.out) | exact HB.out)) hb)
     clear BK233
     clear BK234
     clear HB
     have BK233:=n0_
     have BK234:=n1_
     have HB:=n2_
     clear n0_ n1_ n2_
     (try clear hb)
     (try clear hb2)
     (try clear hk)
     (try clear hi)
     refine hK.out _ _ ⟨(blk_cell BK233.out 0).trans rfl,(blk_cell BK233.out 1).trans rfl,(blk_cell BK233.out 2).trans rfl,(blk_cell BK233.out 3).trans rfl,(blk_cell BK233.out 4).trans rfl,(blk_cell BK233.out 5).trans rfl,(blk_cell BK234.out 0).trans rfl,(blk_cell BK234.out 1).trans rfl,(blk_cell BK234.out 2).trans rfl,(blk_cell BK234.out 3).trans rfl,(blk_cell BK234.out 4).trans rfl⟩ (fun hHeld => ?_)
     clear hK K
     refine norm_ (a':=?_) ?_ ?_
     rotate_left
     ·show Act.put _ (some 37) _ = _
      simp only [Act.put,List.setIfInBounds_toArray,List.set_cons_zero,List.set_cons_succ,i64_w,i32_w]
      rfl
     refine manyW_ (fuel:=0) (a':=?_) ((6,0) :: (7,0) :: (8,0) :: (9,0) :: (11,0) :: (10,2) :: (12,0) :: (13,0) :: (14,0) :: (15,1) :: (16,1) :: (17,1) :: (18,0) :: (19,0) :: (20,1) :: (21,1) :: (22,1) :: (23,1) :: (24,1) :: (25,1) :: (26,1) :: (27,1) :: (28,1) :: (29,1) :: (30,1) :: (31,1) :: (32,1) :: (33,0) :: []) #[true,true,true,true,true,true,true,true,true,true,true,true,true,true,true,true,true,true,true,true,true,true,true,true,true,true,true,true,true,true,true,true,true,true] rfl HT_ HW_ (by kernel_rfl) (fun _ _ _ _ _ h => h) (fun _ => hHeld) ?_ ?_
     rotate_left
     ·repeat (first | exact Chain.nil _ | (apply Chain.on;rfl;rfl;(focus intro w';go_simp;with_reducible rfl);(focus simp only [Act.put,List.setIfInBounds_toArray,List.set_cons_zero,List.set_cons_succ,i64_w,i32_w];rfl)) | (apply Chain.take;rfl;rfl;(focus rintro w' ⟨s0,s1,s2,s3,s4,s5,s6,s7,s8,s9,s10⟩;go_simp;with_reducible rfl);(focus simp only [Act.put,List.setIfInBounds_toArray,List.set_cons_zero,List.set_cons_succ,i64_w,i32_w];rfl)) | (apply Chain.off;rfl;rfl;(focus simp only [Act.put,List.setIfInBounds_toArray,List.set_cons_zero,List.set_cons_succ,i64_w,i32_w];rfl)))
     refine done_ (done_of HT_.out (by kernel_rfl)) ?_
     try go_wp2
     go_meet
     case rel => exact ⟨_,(true),(by first | rfl | (simp;done) | (simp [*];done)),H',⟨by have:=HK1.out;first | omega | exact Nat.le_refl _⟩,⟨by (with_reducible repeat (first | refine blk_drewN ?_ _ | refine blk_drew ?_ | refine blk_alloc ?_ _));exact BK233.out⟩,⟨by (with_reducible repeat (first | refine blk_drewN ?_ _ | refine blk_drew ?_ | refine blk_alloc ?_ _));exact BK234.out⟩,⟨by repeat (first | (with_reducible first | exact HB.out | apply below_alloc | apply pw_below_drewN | apply below_drew1 | refine below_set ?_ GE233.out | refine below_set ?_ GE234.out) | exact HB.out)⟩⟩
    rw [if_neg c16] at H
    have c16b0:(((rd_T58 l1 x5_1).f0) == a0) = false:=beq_eq_false_iff_ne.mpr c16
    have c16b1:(((rd_T58 l1 x5_1).f0) != a0) = true:=bne_iff_ne.mpr c16
    by_cases c20:(FloatKind.f64.format.order ((rd_T58 l1 x5_1).f2) 0 == some .eq) = true
    ·rw [if_pos c20] at H
     have c20b0:(FloatKind.f64.format.order ((rd_T58 l1 x5_1).f2) 0 == some .eq) = true:=c20
     (try (have c20b1:decide (FloatKind.f64.format.order ((rd_T58 l1 x5_1).f2) 0 = some .eq) = true:=by simpa using c20))
     (try (have c20b2:(FloatKind.f64.format.order ((rd_T58 l1 x5_1).f2) 0 == some .eq) = true:=by simpa using c20))
     clear c20
     have H':=Aside0.mk H
     clear H
     try go_wp2
     have n0_:Aside0 ((((((w10.setCell ⟨gb234,0,none⟩ (.int .i64 ((rd_T58 l1 x5_1).f0))).setCell ⟨gb234,1,none⟩ (.int .i64 ((rd_T58 l1 x5_1).f1))).setCell ⟨gb234,2,none⟩ (.float .f64 ((rd_T58 l1 x5_1).f2))).setCell ⟨gb234,3,none⟩ (.float .f64 ((rd_T58 l1 x5_1).f4))).setCell ⟨gb234,4,none⟩ (.int .i64 ((rd_T58 l1 x5_1).f5))).heap[gb233]? = some (.cells #[.int .i64 ((rd_T58 l1 x5_1).f0),.int .i64 ((rd_T58 l1 x5_1).f1),.float .f64 ((rd_T58 l1 x5_1).f2),.int .i64 ((rd_T58 l1 x5_1).f3),.float .f64 ((rd_T58 l1 x5_1).f4),.int .i64 ((rd_T58 l1 x5_1).f5)] 58 (0,0))):=⟨by (with_reducible repeat (first | refine blk_drewN ?_ _ | refine blk_drew ?_ | refine blk_alloc ?_ _));refine blk_far ?_ NB233_234.out _;(with_reducible repeat (first | refine blk_drewN ?_ _ | refine blk_drew ?_ | refine blk_alloc ?_ _));refine blk_far ?_ NB233_234.out _;(with_reducible repeat (first | refine blk_drewN ?_ _ | refine blk_drew ?_ | refine blk_alloc ?_ _));refine blk_far ?_ NB233_234.out _;(with_reducible repeat (first | refine blk_drewN ?_ _ | refine blk_drew ?_ | refine blk_alloc ?_ _));refine blk_far ?_ NB233_234.out _;(with_reducible repeat (first | refine blk_drewN ?_ _ | refine blk_drew ?_ | refine blk_alloc ?_ _));refine blk_far ?_ NB233_234.out _;(with_reducible repeat (first | refine blk_drewN ?_ _ | refine blk_drew ?_ | refine blk_alloc ?_ _));exact BK233.out⟩
     have n1_:Aside0 ((((((w10.setCell ⟨gb234,0,none⟩ (.int .i64 ((rd_T58 l1 x5_1).f0))).setCell ⟨gb234,1,none⟩ (.int .i64 ((rd_T58 l1 x5_1).f1))).setCell ⟨gb234,2,none⟩ (.float .f64 ((rd_T58 l1 x5_1).f2))).setCell ⟨gb234,3,none⟩ (.float .f64 ((rd_T58 l1 x5_1).f4))).setCell ⟨gb234,4,none⟩ (.int .i64 ((rd_T58 l1 x5_1).f5))).heap[gb234]? = some (.cells #[.int .i64 ((rd_T58 l1 x5_1).f0),.int .i64 ((rd_T58 l1 x5_1).f1),.float .f64 ((rd_T58 l1 x5_1).f2),.float .f64 ((rd_T58 l1 x5_1).f4),.int .i64 ((rd_T58 l1 x5_1).f5)] 56 (0,0))):=⟨by (with_reducible repeat (first | refine blk_drewN ?_ _ | refine blk_drew ?_ | refine blk_alloc ?_ _));refine blk_put (cs:=#[.int .i64 ((rd_T58 l1 x5_1).f0),.int .i64 ((rd_T58 l1 x5_1).f1),.float .f64 ((rd_T58 l1 x5_1).f2),.float .f64 ((rd_T58 l1 x5_1).f4),.int .i64 0]) ?_ 4 _ rfl;(with_reducible repeat (first | refine blk_drewN ?_ _ | refine blk_drew ?_ | refine blk_alloc ?_ _));refine blk_put (cs:=#[.int .i64 ((rd_T58 l1 x5_1).f0),.int .i64 ((rd_T58 l1 x5_1).f1),.float .f64 ((rd_T58 l1 x5_1).f2),.float .f64 0,.int .i64 0]) ?_ 3 _ rfl;(with_reducible repeat (first | refine blk_drewN ?_ _ | refine blk_drew ?_ | refine blk_alloc ?_ _));refine blk_put (cs:=#[.int .i64 ((rd_T58 l1 x5_1).f0),.int .i64 ((rd_T58 l1 x5_1).f1),.float .f64 0,.float .f64 0,.int .i64 0]) ?_ 2 _ rfl;(with_reducible repeat (first | refine blk_drewN ?_ _ | refine blk_drew ?_ | refine blk_alloc ?_ _));refine blk_put (cs:=#[.int .i64 ((rd_T58 l1 x5_1).f0),.int .i64 0,.float .f64 0,.float .f64 0,.int .i64 0]) ?_ 1 _ rfl;(with_reducible repeat (first | refine blk_drewN ?_ _ | refine blk_drew ?_ | refine blk_alloc ?_ _));refine blk_put (cs:=#[.int .i64 0,.int .i64 0,.float .f64 0,.float .f64 0,.int .i64 0]) ?_ 0 _ rfl;(with_reducible repeat (first | refine blk_drewN ?_ _ | refine blk_drew ?_ | refine blk_alloc ?_ _));exact BK234.out⟩
     have n2_:Aside0 (Below w.heap.size w (((((w10.setCell ⟨gb234,0,none⟩ (.int .i64 ((rd_T58 l1 x5_1).f0))).setCell ⟨gb234,1,none⟩ (.int .i64 ((rd_T58 l1 x5_1).f1))).setCell ⟨gb234,2,none⟩ (.float .f64 ((rd_T58 l1 x5_1).f2))).setCell ⟨gb234,3,none⟩ (.float .f64 ((rd_T58 l1 x5_1).f4))).setCell ⟨gb234,4,none⟩ (.int .i64 ((rd_T58 l1 x5_1).f5)))):=⟨by repeat (first | (with_reducible first | exact HB.out | apply below_alloc | apply pw_below_drewN | apply below_drew1 | refine below_set ?_ GE233.out | refine below_set ?_ GE234.out) | exact HB.out)⟩
     (try clear BK233)
     (try clear BK234)
     (try clear HB)
     generalize (((((w10.setCell ⟨gb234,0,none⟩ (.int .i64 ((rd_T58 l1 x5_1).f0))).setCell ⟨gb234,1,none⟩ (.int .i64 ((rd_T58 l1 x5_1).f1))).setCell ⟨gb234,2,none⟩ (.float .f64 ((rd_T58 l1 x5_1).f2))).setCell ⟨gb234,3,none⟩ (.float .f64 ((rd_T58 l1 x5_1).f4))).setCell ⟨gb234,4,none⟩ (.int .i64 ((rd_T58 l1 x5_1).f5))) = w21 at n0_ n1_ n2_ ⊢
     have BK233:=n0_
     have BK234:=n1_
     have HB:=n2_
     clear n0_ n1_ n2_
     have n0_:=Aside0.mk (blk_drew BK233.out)
     have n1_:=Aside0.mk (blk_drew BK234.out)
     have n2_:=Aside0.mk (below_drew1 HB.out)
     clear BK233
     clear BK234
     clear HB
     have BK233:=n0_
     have BK234:=n1_
     have HB:=n2_
     clear n0_ n1_ n2_
     refine start_ (n:=34) (S:=fun w' => w'.cell? ⟨gb233,0,none⟩ = some (.int .i64 ((rd_T58 l1 x5_1).f0)) ∧ w'.cell? ⟨gb233,1,none⟩ = some (.int .i64 ((rd_T58 l1 x5_1).f1)) ∧ w'.cell? ⟨gb233,2,none⟩ = some (.float .f64 ((rd_T58 l1 x5_1).f2)) ∧ w'.cell? ⟨gb233,3,none⟩ = some (.int .i64 ((rd_T58 l1 x5_1).f3)) ∧ w'.cell? ⟨gb233,4,none⟩ = some (.float .f64 ((rd_T58 l1 x5_1).f4)) ∧ w'.cell? ⟨gb233,5,none⟩ = some (.int .i64 ((rd_T58 l1 x5_1).f5)) ∧ w'.cell? ⟨gb234,0,none⟩ = some (.int .i64 ((rd_T58 l1 x5_1).f0)) ∧ w'.cell? ⟨gb234,1,none⟩ = some (.int .i64 ((rd_T58 l1 x5_1).f1)) ∧ w'.cell? ⟨gb234,2,none⟩ = some (.float .f64 ((rd_T58 l1 x5_1).f2)) ∧ w'.cell? ⟨gb234,3,none⟩ = some (.float .f64 ((rd_T58 l1 x5_1).f4)) ∧ w'.cell? ⟨gb234,4,none⟩ = some (.int .i64 ((rd_T58 l1 x5_1).f5))) (ds:=[]) #[false,false,false,false,false,false,false,false,false,false,false,false,false,false,false,false,false,false,false,false,false,false,false,false,false,false,false,false,false,false,false,false,false,false] (by kernel_rfl) rfl rfl ⟨(blk_cell BK233.out 0).trans rfl,(blk_cell BK233.out 1).trans rfl,(blk_cell BK233.out 2).trans rfl,(blk_cell BK233.out 3).trans rfl,(blk_cell BK233.out 4).trans rfl,(blk_cell BK233.out 5).trans rfl,(blk_cell BK234.out 0).trans rfl,(blk_cell BK234.out 1).trans rfl,(blk_cell BK234.out 2).trans rfl,(blk_cell BK234.out 3).trans rfl,(blk_cell BK234.out 4).trans rfl⟩ (fun hHeld => ?_);refine with_tabW beaconref15_may.tab8 beaconref15_may.bits8 (fun HT_ HW_ => ?_)
     generalize w21.drew = w22 at BK233 BK234 HB hHeld ⊢
     refine manyW_ (fuel:=29) (a':=?_) ((0,0) :: (1,2) :: (2,0) :: (3,0) :: (4,2) :: []) #[true,true,true,true,true,false,false,false,false,false,false,false,false,false,false,false,false,false,false,false,false,false,false,false,false,false,false,false,false,false,false,false,false,false] rfl HT_ HW_ (by kernel_rfl) (fun _ _ _ _ _ h => h) (fun _ => hHeld) ?_ ?_
     rotate_left
     ·repeat (first | exact Chain.nil _ | (apply Chain.on;rfl;rfl;(focus intro w';go_simp;with_reducible rfl);(focus simp only [Act.put,List.setIfInBounds_toArray,List.set_cons_zero,List.set_cons_succ,i64_w,i32_w];rfl)) | (apply Chain.take;rfl;rfl;(focus rintro w' ⟨s0,s1,s2,s3,s4,s5,s6,s7,s8,s9,s10⟩;go_simp;with_reducible rfl);(focus simp only [Act.put,List.setIfInBounds_toArray,List.set_cons_zero,List.set_cons_succ,i64_w,i32_w];rfl)))
     refine one_ (i:=5) (N:=some 37) #[true,true,true,true,true,true,false,false,false,false,false,false,false,false,false,false,false,false,false,false,false,false,false,false,false,false,false,false,false,false,false,false,false,false] rfl rfl (one_of HT_.out (by kernel_rfl)) (by decide) (fun K hK => ?_)
     refine goes_ Try.func87 (by kernel_rfl) rfl #[.agg #[.int .i64 ((rd_T58 l1 x5_1).f0),.int .i64 ((rd_T58 l1 x5_1).f1),.float .f64 ((rd_T58 l1 x5_1).f2),.float .f64 ((rd_T58 l1 x5_1).f4),.int .i64 ((rd_T58 l1 x5_1).f5)]] (by rfl) rfl rfl (by (try simp only [List.map_toArray,List.map_cons,List.map_nil]);first | done | rfl | (simp only [List.length_drop,List.length_take];rfl)) ?_
     with_reducible refine (beaconref06_May.calls k1 ((rd_T58 l1 x5_1).f0) ((rd_T58 l1 x5_1).f1) ((rd_T58 l1 x5_1).f2) ((rd_T58 l1 x5_1).f4) ((rd_T58 l1 x5_1).f5) true _ A14.out).mono ?_
     rintro e w23 ⟨rfl,hb⟩
     refine ⟨_,rfl,?_⟩
     have n0_:=Aside0.mk (blk_below (g:=gb233) (o:=.cells #[.int .i64 ((rd_T58 l1 x5_1).f0),.int .i64 ((rd_T58 l1 x5_1).f1),.float .f64 ((rd_T58 l1 x5_1).f2),.int .i64 ((rd_T58 l1 x5_1).f3),.float .f64 ((rd_T58 l1 x5_1).f4),.int .i64 ((rd_T58 l1 x5_1).f5)] 58 (0,0)) (by (with_reducible repeat (first | refine blk_drewN ?_ _ | refine blk_drew ?_ | refine blk_alloc ?_ _));exact BK233.out) hb)
     have n1_:=Aside0.mk (blk_below (g:=gb234) (o:=.cells #[.int .i64 ((rd_T58 l1 x5_1).f0),.int .i64 ((rd_T58 l1 x5_1).f1),.float .f64 ((rd_T58 l1 x5_1).f2),.float .f64 ((rd_T58 l1 x5_1).f4),.int .i64 ((rd_T58 l1 x5_1).f5)] 56 (0,0)) (by (with_reducible repeat (first | refine blk_drewN ?_ _ | refine blk_drew ?_ | refine blk_alloc ?_ _));exact BK234.out) hb)
     have n2_:=Aside0.mk (below_step (by repeat (first | (with_reducible first | exact HB.out | apply below_alloc | apply pw_below_drewN | apply below_drew1 | refine below_set ?_ GE233.out | refine below_set ?_ GE234.out) | exact HB.out)) hb)
     clear BK233
     clear BK234
     clear HB
     have BK233:=n0_
     have BK234:=n1_
     have HB:=n2_
     clear n0_ n1_ n2_
     (try clear hb)
     (try clear hb2)
     (try clear hk)
     (try clear hi)
     refine hK.out _ _ ⟨(blk_cell BK233.out 0).trans rfl,(blk_cell BK233.out 1).trans rfl,(blk_cell BK233.out 2).trans rfl,(blk_cell BK233.out 3).trans rfl,(blk_cell BK233.out 4).trans rfl,(blk_cell BK233.out 5).trans rfl,(blk_cell BK234.out 0).trans rfl,(blk_cell BK234.out 1).trans rfl,(blk_cell BK234.out 2).trans rfl,(blk_cell BK234.out 3).trans rfl,(blk_cell BK234.out 4).trans rfl⟩ (fun hHeld => ?_)
     clear hK K
     refine norm_ (a':=?_) ?_ ?_
     rotate_left
     ·show Act.put _ (some 37) _ = _
      simp only [Act.put,List.setIfInBounds_toArray,List.set_cons_zero,List.set_cons_succ,i64_w,i32_w]
      rfl
     refine manyW_ (fuel:=0) (a':=?_) ((6,0) :: (7,0) :: (8,0) :: (9,0) :: (11,0) :: (10,2) :: (12,0) :: (13,0) :: (14,0) :: (15,0) :: (16,2) :: (17,0) :: (18,0) :: (19,0) :: (20,1) :: (21,1) :: (22,1) :: (23,1) :: (24,1) :: (25,1) :: (26,1) :: (27,1) :: (28,1) :: (29,1) :: (30,1) :: (31,1) :: (32,1) :: (33,0) :: []) #[true,true,true,true,true,true,true,true,true,true,true,true,true,true,true,true,true,true,true,true,true,true,true,true,true,true,true,true,true,true,true,true,true,true] rfl HT_ HW_ (by kernel_rfl) (fun _ _ _ _ _ h => h) (fun _ => hHeld) ?_ ?_
     rotate_left
     ·repeat (first | exact Chain.nil _ | (apply Chain.on;rfl;rfl;(focus intro w';go_simp;with_reducible rfl);(focus simp only [Act.put,List.setIfInBounds_toArray,List.set_cons_zero,List.set_cons_succ,i64_w,i32_w];rfl)) | (apply Chain.take;rfl;rfl;(focus rintro w' ⟨s0,s1,s2,s3,s4,s5,s6,s7,s8,s9,s10⟩;go_simp;with_reducible rfl);(focus simp only [Act.put,List.setIfInBounds_toArray,List.set_cons_zero,List.set_cons_succ,i64_w,i32_w];rfl)) | (apply Chain.off;rfl;rfl;(focus simp only [Act.put,List.setIfInBounds_toArray,List.set_cons_zero,List.set_cons_succ,i64_w,i32_w];rfl)))
     refine done_ (done_of HT_.out (by kernel_rfl)) ?_
     try go_wp2
     go_meet
     case rel => exact ⟨_,(true),(by first | rfl | (simp;done) | (simp [*];done)),H',⟨by have:=HK1.out;first | omega | exact Nat.le_refl _⟩,⟨by (with_reducible repeat (first | refine blk_drewN ?_ _ | refine blk_drew ?_ | refine blk_alloc ?_ _));exact BK233.out⟩,⟨by (with_reducible repeat (first | refine blk_drewN ?_ _ | refine blk_drew ?_ | refine blk_alloc ?_ _));exact BK234.out⟩,⟨by repeat (first | (with_reducible first | exact HB.out | apply below_alloc | apply pw_below_drewN | apply below_drew1 | refine below_set ?_ GE233.out | refine below_set ?_ GE234.out) | exact HB.out)⟩⟩
    rw [if_neg c20] at H
    have c20b0:(FloatKind.f64.format.order ((rd_T58 l1 x5_1).f2) 0 == some .eq) = false:=by simpa using c20
    (try (have c20b1:decide (FloatKind.f64.format.order ((rd_T58 l1 x5_1).f2) 0 = some .eq) = false:=by simpa using c20))
    (try (have c20b2:(FloatKind.f64.format.order ((rd_T58 l1 x5_1).f2) 0 == some .eq) = false:=by simpa using c20))
    (try (have c20b3:¬ (FloatKind.f64.format.order ((rd_T58 l1 x5_1).f2) 0 = some .eq):=by simpa using c20))
    clear c20
    by_cases c24:x5_1 > 0
    rotate_left
    ·rw [if_neg c24] at H
     have c24b0:decide (0 < x5_1) = false:=decide_eq_false c24
     clear c24
     have H':=Aside0.mk H
     clear H
     try go_wp2
     have n0_:Aside0 ((((((w10.setCell ⟨gb234,0,none⟩ (.int .i64 ((rd_T58 l1 x5_1).f0))).setCell ⟨gb234,1,none⟩ (.int .i64 ((rd_T58 l1 x5_1).f1))).setCell ⟨gb234,2,none⟩ (.float .f64 ((rd_T58 l1 x5_1).f2))).setCell ⟨gb234,3,none⟩ (.float .f64 ((rd_T58 l1 x5_1).f4))).setCell ⟨gb234,4,none⟩ (.int .i64 ((rd_T58 l1 x5_1).f5))).heap[gb233]? = some (.cells #[.int .i64 ((rd_T58 l1 x5_1).f0),.int .i64 ((rd_T58 l1 x5_1).f1),.float .f64 ((rd_T58 l1 x5_1).f2),.int .i64 ((rd_T58 l1 x5_1).f3),.float .f64 ((rd_T58 l1 x5_1).f4),.int .i64 ((rd_T58 l1 x5_1).f5)] 58 (0,0))):=⟨by (with_reducible repeat (first | refine blk_drewN ?_ _ | refine blk_drew ?_ | refine blk_alloc ?_ _));refine blk_far ?_ NB233_234.out _;(with_reducible repeat (first | refine blk_drewN ?_ _ | refine blk_drew ?_ | refine blk_alloc ?_ _));refine blk_far ?_ NB233_234.out _;(with_reducible repeat (first | refine blk_drewN ?_ _ | refine blk_drew ?_ | refine blk_alloc ?_ _));refine blk_far ?_ NB233_234.out _;(with_reducible repeat (first | refine blk_drewN ?_ _ | refine blk_drew ?_ | refine blk_alloc ?_ _));refine blk_far ?_ NB233_234.out _;(with_reducible repeat (first | refine blk_drewN ?_ _ | refine blk_drew ?_ | refine blk_alloc ?_ _));refine blk_far ?_ NB233_234.out _;(with_reducible repeat (first | refine blk_drewN ?_ _ | refine blk_drew ?_ | refine blk_alloc ?_ _));exact BK233.out⟩
     have n1_:Aside0 ((((((w10.setCell ⟨gb234,0,none⟩ (.int .i64 ((rd_T58 l1 x5_1).f0))).setCell ⟨gb234,1,none⟩ (.int .i64 ((rd_T58 l1 x5_1).f1))).setCell ⟨gb234,2,none⟩ (.float .f64 ((rd_T58 l1 x5_1).f2))).setCell ⟨gb234,3,none⟩ (.float .f64 ((rd_T58 l1 x5_1).f4))).setCell ⟨gb234,4,none⟩ (.int .i64 ((rd_T58 l1 x5_1).f5))).heap[gb234]? = some (.cells #[.int .i64 ((rd_T58 l1 x5_1).f0),.int .i64 ((rd_T58 l1 x5_1).f1),.float .f64 ((rd_T58 l1 x5_1).f2),.float .f64 ((rd_T58 l1 x5_1).f4),.int .i64 ((rd_T58 l1 x5_1).f5)] 56 (0,0))):=⟨by (with_reducible repeat (first | refine blk_drewN ?_ _ | refine blk_drew ?_ | refine blk_alloc ?_ _));refine blk_put (cs:=#[.int .i64 ((rd_T58 l1 x5_1).f0),.int .i64 ((rd_T58 l1 x5_1).f1),.float .f64 ((rd_T58 l1 x5_1).f2),.float .f64 ((rd_T58 l1 x5_1).f4),.int .i64 0]) ?_ 4 _ rfl;(with_reducible repeat (first | refine blk_drewN ?_ _ | refine blk_drew ?_ | refine blk_alloc ?_ _));refine blk_put (cs:=#[.int .i64 ((rd_T58 l1 x5_1).f0),.int .i64 ((rd_T58 l1 x5_1).f1),.float .f64 ((rd_T58 l1 x5_1).f2),.float .f64 0,.int .i64 0]) ?_ 3 _ rfl;(with_reducible repeat (first | refine blk_drewN ?_ _ | refine blk_drew ?_ | refine blk_alloc ?_ _));refine blk_put (cs:=#[.int .i64 ((rd_T58 l1 x5_1).f0),.int .i64 ((rd_T58 l1 x5_1).f1),.float .f64 0,.float .f64 0,.int .i64 0]) ?_ 2 _ rfl;(with_reducible repeat (first | refine blk_drewN ?_ _ | refine blk_drew ?_ | refine blk_alloc ?_ _));refine blk_put (cs:=#[.int .i64 ((rd_T58 l1 x5_1).f0),.int .i64 0,.float .f64 0,.float .f64 0,.int .i64 0]) ?_ 1 _ rfl;(with_reducible repeat (first | refine blk_drewN ?_ _ | refine blk_drew ?_ | refine blk_alloc ?_ _));refine blk_put (cs:=#[.int .i64 0,.int .i64 0,.float .f64 0,.float .f64 0,.int .i64 0]) ?_ 0 _ rfl;(with_reducible repeat (first | refine blk_drewN ?_ _ | refine blk_drew ?_ | refine blk_alloc ?_ _));exact BK234.out⟩
     have n2_:Aside0 (Below w.heap.size w (((((w10.setCell ⟨gb234,0,none⟩ (.int .i64 ((rd_T58 l1 x5_1).f0))).setCell ⟨gb234,1,none⟩ (.int .i64 ((rd_T58 l1 x5_1).f1))).setCell ⟨gb234,2,none⟩ (.float .f64 ((rd_T58 l1 x5_1).f2))).setCell ⟨gb234,3,none⟩ (.float .f64 ((rd_T58 l1 x5_1).f4))).setCell ⟨gb234,4,none⟩ (.int .i64 ((rd_T58 l1 x5_1).f5)))):=⟨by repeat (first | (with_reducible first | exact HB.out | apply below_alloc | apply pw_below_drewN | apply below_drew1 | refine below_set ?_ GE233.out | refine below_set ?_ GE234.out) | exact HB.out)⟩
     (try clear BK233)
     (try clear BK234)
     (try clear HB)
     generalize (((((w10.setCell ⟨gb234,0,none⟩ (.int .i64 ((rd_T58 l1 x5_1).f0))).setCell ⟨gb234,1,none⟩ (.int .i64 ((rd_T58 l1 x5_1).f1))).setCell ⟨gb234,2,none⟩ (.float .f64 ((rd_T58 l1 x5_1).f2))).setCell ⟨gb234,3,none⟩ (.float .f64 ((rd_T58 l1 x5_1).f4))).setCell ⟨gb234,4,none⟩ (.int .i64 ((rd_T58 l1 x5_1).f5))) = w31 at n0_ n1_ n2_ ⊢
     have BK233:=n0_
     have BK234:=n1_
     have HB:=n2_
     clear n0_ n1_ n2_
     have n0_:=Aside0.mk (blk_drew BK233.out)
     have n1_:=Aside0.mk (blk_drew BK234.out)
     have n2_:=Aside0.mk (below_drew1 HB.out)
     clear BK233
     clear BK234
     clear HB
     have BK233:=n0_
     have BK234:=n1_
     have HB:=n2_
     clear n0_ n1_ n2_
     refine start_ (n:=34) (S:=fun w' => w'.cell? ⟨gb233,0,none⟩ = some (.int .i64 ((rd_T58 l1 x5_1).f0)) ∧ w'.cell? ⟨gb233,1,none⟩ = some (.int .i64 ((rd_T58 l1 x5_1).f1)) ∧ w'.cell? ⟨gb233,2,none⟩ = some (.float .f64 ((rd_T58 l1 x5_1).f2)) ∧ w'.cell? ⟨gb233,3,none⟩ = some (.int .i64 ((rd_T58 l1 x5_1).f3)) ∧ w'.cell? ⟨gb233,4,none⟩ = some (.float .f64 ((rd_T58 l1 x5_1).f4)) ∧ w'.cell? ⟨gb233,5,none⟩ = some (.int .i64 ((rd_T58 l1 x5_1).f5)) ∧ w'.cell? ⟨gb234,0,none⟩ = some (.int .i64 ((rd_T58 l1 x5_1).f0)) ∧ w'.cell? ⟨gb234,1,none⟩ = some (.int .i64 ((rd_T58 l1 x5_1).f1)) ∧ w'.cell? ⟨gb234,2,none⟩ = some (.float .f64 ((rd_T58 l1 x5_1).f2)) ∧ w'.cell? ⟨gb234,3,none⟩ = some (.float .f64 ((rd_T58 l1 x5_1).f4)) ∧ w'.cell? ⟨gb234,4,none⟩ = some (.int .i64 ((rd_T58 l1 x5_1).f5))) (ds:=[]) #[false,false,false,false,false,false,false,false,false,false,false,false,false,false,false,false,false,false,false,false,false,false,false,false,false,false,false,false,false,false,false,false,false,false] (by kernel_rfl) rfl rfl ⟨(blk_cell BK233.out 0).trans rfl,(blk_cell BK233.out 1).trans rfl,(blk_cell BK233.out 2).trans rfl,(blk_cell BK233.out 3).trans rfl,(blk_cell BK233.out 4).trans rfl,(blk_cell BK233.out 5).trans rfl,(blk_cell BK234.out 0).trans rfl,(blk_cell BK234.out 1).trans rfl,(blk_cell BK234.out 2).trans rfl,(blk_cell BK234.out 3).trans rfl,(blk_cell BK234.out 4).trans rfl⟩ (fun hHeld => ?_);refine with_tabW beaconref15_may.tab8 beaconref15_may.bits8 (fun HT_ HW_ => ?_)
     generalize w31.drew = w32 at BK233 BK234 HB hHeld ⊢
     refine manyW_ (fuel:=29) (a':=?_) ((0,0) :: (1,2) :: (2,0) :: (3,0) :: (4,2) :: []) #[true,true,true,true,true,false,false,false,false,false,false,false,false,false,false,false,false,false,false,false,false,false,false,false,false,false,false,false,false,false,false,false,false,false] rfl HT_ HW_ (by kernel_rfl) (fun _ _ _ _ _ h => h) (fun _ => hHeld) ?_ ?_
     rotate_left
     ·repeat (first | exact Chain.nil _ | (apply Chain.on;rfl;rfl;(focus intro w';go_simp;with_reducible rfl);(focus simp only [Act.put,List.setIfInBounds_toArray,List.set_cons_zero,List.set_cons_succ,i64_w,i32_w];rfl)) | (apply Chain.take;rfl;rfl;(focus rintro w' ⟨s0,s1,s2,s3,s4,s5,s6,s7,s8,s9,s10⟩;go_simp;with_reducible rfl);(focus simp only [Act.put,List.setIfInBounds_toArray,List.set_cons_zero,List.set_cons_succ,i64_w,i32_w];rfl)))
     refine one_ (i:=5) (N:=some 37) #[true,true,true,true,true,true,false,false,false,false,false,false,false,false,false,false,false,false,false,false,false,false,false,false,false,false,false,false,false,false,false,false,false,false] rfl rfl (one_of HT_.out (by kernel_rfl)) (by decide) (fun K hK => ?_)
     refine goes_ Try.func87 (by kernel_rfl) rfl #[.agg #[.int .i64 ((rd_T58 l1 x5_1).f0),.int .i64 ((rd_T58 l1 x5_1).f1),.float .f64 ((rd_T58 l1 x5_1).f2),.float .f64 ((rd_T58 l1 x5_1).f4),.int .i64 ((rd_T58 l1 x5_1).f5)]] (by rfl) rfl rfl (by (try simp only [List.map_toArray,List.map_cons,List.map_nil]);first | done | rfl | (simp only [List.length_drop,List.length_take];rfl)) ?_
     with_reducible refine (beaconref06_May.calls k1 ((rd_T58 l1 x5_1).f0) ((rd_T58 l1 x5_1).f1) ((rd_T58 l1 x5_1).f2) ((rd_T58 l1 x5_1).f4) ((rd_T58 l1 x5_1).f5) true _ A14.out).mono ?_
     rintro e w33 ⟨rfl,hb⟩
     refine ⟨_,rfl,?_⟩
     have n0_:=Aside0.mk (blk_below (g:=gb233) (o:=.cells #[.int .i64 ((rd_T58 l1 x5_1).f0),.int .i64 ((rd_T58 l1 x5_1).f1),.float .f64 ((rd_T58 l1 x5_1).f2),.int .i64 ((rd_T58 l1 x5_1).f3),.float .f64 ((rd_T58 l1 x5_1).f4),.int .i64 ((rd_T58 l1 x5_1).f5)] 58 (0,0)) (by (with_reducible repeat (first | refine blk_drewN ?_ _ | refine blk_drew ?_ | refine blk_alloc ?_ _));exact BK233.out) hb)
     have n1_:=Aside0.mk (blk_below (g:=gb234) (o:=.cells #[.int .i64 ((rd_T58 l1 x5_1).f0),.int .i64 ((rd_T58 l1 x5_1).f1),.float .f64 ((rd_T58 l1 x5_1).f2),.float .f64 ((rd_T58 l1 x5_1).f4),.int .i64 ((rd_T58 l1 x5_1).f5)] 56 (0,0)) (by (with_reducible repeat (first | refine blk_drewN ?_ _ | refine blk_drew ?_ | refine blk_alloc ?_ _));exact BK234.out) hb)
     have n2_:=Aside0.mk (below_step (by repeat (first | (with_reducible first | exact HB.out | apply below_alloc | apply pw_below_drewN | apply below_drew1 | refine below_set ?_ GE233.out | refine below_set ?_ GE234.out) | exact HB.out)) hb)
     clear BK233
     clear BK234
     clear HB
     have BK233:=n0_
     have BK234:=n1_
     have HB:=n2_
     clear n0_ n1_ n2_
     (try clear hb)
     (try clear hb2)
     (try clear hk)
     (try clear hi)
     refine hK.out _ _ ⟨(blk_cell BK233.out 0).trans rfl,(blk_cell BK233.out 1).trans rfl,(blk_cell BK233.out 2).trans rfl,(blk_cell BK233.out 3).trans rfl,(blk_cell BK233.out 4).trans rfl,(blk_cell BK233.out 5).trans rfl,(blk_cell BK234.out 0).trans rfl,(blk_cell BK234.out 1).trans rfl,(blk_cell BK234.out 2).trans rfl,(blk_cell BK234.out 3).trans rfl,(blk_cell BK234.out 4).trans rfl⟩ (fun hHeld => ?_)
     clear hK K
     refine norm_ (a':=?_) ?_ ?_
     rotate_left
     ·show Act.put _ (some 37) _ = _
      simp only [Act.put,List.setIfInBounds_toArray,List.set_cons_zero,List.set_cons_succ,i64_w,i32_w]
      rfl
     refine manyW_ (fuel:=0) (a':=?_) ((6,0) :: (7,0) :: (8,0) :: (9,0) :: (11,0) :: (10,2) :: (12,0) :: (13,0) :: (14,0) :: (15,0) :: (16,2) :: (17,0) :: (18,0) :: (19,0) :: (20,0) :: (21,0) :: (22,0) :: (23,1) :: (24,1) :: (25,1) :: (26,1) :: (27,1) :: (28,1) :: (29,1) :: (30,1) :: (31,1) :: (32,0) :: (33,0) :: []) #[true,true,true,true,true,true,true,true,true,true,true,true,true,true,true,true,true,true,true,true,true,true,true,true,true,true,true,true,true,true,true,true,true,true] rfl HT_ HW_ (by kernel_rfl) (fun _ _ _ _ _ h => h) (fun _ => hHeld) ?_ ?_
     rotate_left
     ·repeat (first | exact Chain.nil _ | (apply Chain.on;rfl;rfl;(focus intro w';go_simp;with_reducible rfl);(focus simp only [Act.put,List.setIfInBounds_toArray,List.set_cons_zero,List.set_cons_succ,i64_w,i32_w];rfl)) | (apply Chain.take;rfl;rfl;(focus rintro w' ⟨s0,s1,s2,s3,s4,s5,s6,s7,s8,s9,s10⟩;go_simp;with_reducible rfl);(focus simp only [Act.put,List.setIfInBounds_toArray,List.set_cons_zero,List.set_cons_succ,i64_w,i32_w];rfl)) | (apply Chain.off;rfl;rfl;(focus simp only [Act.put,List.setIfInBounds_toArray,List.set_cons_zero,List.set_cons_succ,i64_w,i32_w];rfl)))
     refine done_ (done_of HT_.out (by kernel_rfl)) ?_
     try go_wp2
     go_meet
     case rel => exact ⟨_,(false),(by first | rfl | (simp;done) | (simp [*];done)),H',⟨by have:=HK1.out;first | omega | exact Nat.le_refl _⟩,⟨by (with_reducible repeat (first | refine blk_drewN ?_ _ | refine blk_drew ?_ | refine blk_alloc ?_ _));exact BK233.out⟩,⟨by (with_reducible repeat (first | refine blk_drewN ?_ _ | refine blk_drew ?_ | refine blk_alloc ?_ _));exact BK234.out⟩,⟨by repeat (first | (with_reducible first | exact HB.out | apply below_alloc | apply pw_below_drewN | apply below_drew1 | refine below_set ?_ GE233.out | refine below_set ?_ GE234.out) | exact HB.out)⟩⟩
    rw [if_pos c24] at H
    have c24b0:decide (0 < x5_1) = true:=decide_eq_true c24
    clear c24
    obtain ⟨ji25,hji25⟩:∃ j_:Int,(wrap64 (x5_1 - 1)) = j_:=⟨_,rfl⟩
    replace H:(if 0 ≤ (ji25) then (if (ji25) < (l1.length:Int) then (beaconref15_may.j1 k1 a0 l1 x5_1 (decide (((rd_T58 l1 (ji25)).f0) ≥ ((rd_T58 l1 x5_1).f0))) ((rd_T58 l1 x5_1).f0) ((rd_T58 l1 x5_1).f1) ((rd_T58 l1 x5_1).f2) ((rd_T58 l1 x5_1).f3) ((rd_T58 l1 x5_1).f4) ((rd_T58 l1 x5_1).f5)) else (none)) else (none)) = some r:=by first | (rw [hji25] at H;exact H) | (simp only [hji25] at H ⊢;exact H)
    (try rw [hji25] at A14)
    have hji25w:(IntKind.i64.wrap (x5_1 - 1)) = ji25:=(i64_w _).trans hji25
    by_cases c26:0 ≤ (ji25)
    rotate_left
    ·rw [if_neg c26] at H
     exact absurd H (by simp)
    rw [if_pos c26] at H
    have c26b0:decide (0 ≤ (ji25)) = true:=decide_eq_true c26
    clear c26
    by_cases c27:(ji25) < (l1.length:Int)
    rotate_left
    ·rw [if_neg c27] at H
     exact absurd H (by simp)
    rw [if_pos c27] at H
    have c27b0:decide ((ji25) < (l1.length:Int)) = true:=decide_eq_true c27
    clear c27
    have H':=Aside0.mk H
    clear H
    try go_wp2
    have n0_:Aside0 ((((((w10.setCell ⟨gb234,0,none⟩ (.int .i64 ((rd_T58 l1 x5_1).f0))).setCell ⟨gb234,1,none⟩ (.int .i64 ((rd_T58 l1 x5_1).f1))).setCell ⟨gb234,2,none⟩ (.float .f64 ((rd_T58 l1 x5_1).f2))).setCell ⟨gb234,3,none⟩ (.float .f64 ((rd_T58 l1 x5_1).f4))).setCell ⟨gb234,4,none⟩ (.int .i64 ((rd_T58 l1 x5_1).f5))).heap[gb233]? = some (.cells #[.int .i64 ((rd_T58 l1 x5_1).f0),.int .i64 ((rd_T58 l1 x5_1).f1),.float .f64 ((rd_T58 l1 x5_1).f2),.int .i64 ((rd_T58 l1 x5_1).f3),.float .f64 ((rd_T58 l1 x5_1).f4),.int .i64 ((rd_T58 l1 x5_1).f5)] 58 (0,0))):=⟨by (with_reducible repeat (first | refine blk_drewN ?_ _ | refine blk_drew ?_ | refine blk_alloc ?_ _));refine blk_far ?_ NB233_234.out _;(with_reducible repeat (first | refine blk_drewN ?_ _ | refine blk_drew ?_ | refine blk_alloc ?_ _));refine blk_far ?_ NB233_234.out _;(with_reducible repeat (first | refine blk_drewN ?_ _ | refine blk_drew ?_ | refine blk_alloc ?_ _));refine blk_far ?_ NB233_234.out _;(with_reducible repeat (first | refine blk_drewN ?_ _ | refine blk_drew ?_ | refine blk_alloc ?_ _));refine blk_far ?_ NB233_234.out _;(with_reducible repeat (first | refine blk_drewN ?_ _ | refine blk_drew ?_ | refine blk_alloc ?_ _));refine blk_far ?_ NB233_234.out _;(with_reducible repeat (first | refine blk_drewN ?_ _ | refine blk_drew ?_ | refine blk_alloc ?_ _));exact BK233.out⟩
    have n1_:Aside0 ((((((w10.setCell ⟨gb234,0,none⟩ (.int .i64 ((rd_T58 l1 x5_1).f0))).setCell ⟨gb234,1,none⟩ (.int .i64 ((rd_T58 l1 x5_1).f1))).setCell ⟨gb234,2,none⟩ (.float .f64 ((rd_T58 l1 x5_1).f2))).setCell ⟨gb234,3,none⟩ (.float .f64 ((rd_T58 l1 x5_1).f4))).setCell ⟨gb234,4,none⟩ (.int .i64 ((rd_T58 l1 x5_1).f5))).heap[gb234]? = some (.cells #[.int .i64 ((rd_T58 l1 x5_1).f0),.int .i64 ((rd_T58 l1 x5_1).f1),.float .f64 ((rd_T58 l1 x5_1).f2),.float .f64 ((rd_T58 l1 x5_1).f4),.int .i64 ((rd_T58 l1 x5_1).f5)] 56 (0,0))):=⟨by (with_reducible repeat (first | refine blk_drewN ?_ _ | refine blk_drew ?_ | refine blk_alloc ?_ _));refine blk_put (cs:=#[.int .i64 ((rd_T58 l1 x5_1).f0),.int .i64 ((rd_T58 l1 x5_1).f1),.float .f64 ((rd_T58 l1 x5_1).f2),.float .f64 ((rd_T58 l1 x5_1).f4),.int .i64 0]) ?_ 4 _ rfl;(with_reducible repeat (first | refine blk_drewN ?_ _ | refine blk_drew ?_ | refine blk_alloc ?_ _));refine blk_put (cs:=#[.int .i64 ((rd_T58 l1 x5_1).f0),.int .i64 ((rd_T58 l1 x5_1).f1),.float .f64 ((rd_T58 l1 x5_1).f2),.float .f64 0,.int .i64 0]) ?_ 3 _ rfl;(with_reducible repeat (first | refine blk_drewN ?_ _ | refine blk_drew ?_ | refine blk_alloc ?_ _));refine blk_put (cs:=#[.int .i64 ((rd_T58 l1 x5_1).f0),.int .i64 ((rd_T58 l1 x5_1).f1),.float .f64 0,.float .f64 0,.int .i64 0]) ?_ 2 _ rfl;(with_reducible repeat (first | refine blk_drewN ?_ _ | refine blk_drew ?_ | refine blk_alloc ?_ _));refine blk_put (cs:=#[.int .i64 ((rd_T58 l1 x5_1).f0),.int .i64 0,.float .f64 0,.float .f64 0,.int .i64 0]) ?_ 1 _ rfl;(with_reducible repeat (first | refine blk_drewN ?_ _ | refine blk_drew ?_ | refine blk_alloc ?_ _));refine blk_put (cs:=#[.int .i64 0,.int .i64 0,.float .f64 0,.float .f64 0,.int .i64 0]) ?_ 0 _ rfl;(with_reducible repeat (first | refine blk_drewN ?_ _ | refine blk_drew ?_ | refine blk_alloc ?_ _));exact BK234.out⟩
    have n2_:Aside0 (Below w.heap.size w (((((w10.setCell ⟨gb234,0,none⟩ (.int .i64 ((rd_T58 l1 x5_1).f0))).setCell ⟨gb234,1,none⟩ (.int .i64 ((rd_T58 l1 x5_1).f1))).setCell ⟨gb234,2,none⟩ (.float .f64 ((rd_T58 l1 x5_1).f2))).setCell ⟨gb234,3,none⟩ (.float .f64 ((rd_T58 l1 x5_1).f4))).setCell ⟨gb234,4,none⟩ (.int .i64 ((rd_T58 l1 x5_1).f5)))):=⟨by repeat (first | (with_reducible first | exact HB.out | apply below_alloc | apply pw_below_drewN | apply below_drew1 | refine below_set ?_ GE233.out | refine below_set ?_ GE234.out) | exact HB.out)⟩
    (try clear BK233)
    (try clear BK234)
    (try clear HB)
    generalize (((((w10.setCell ⟨gb234,0,none⟩ (.int .i64 ((rd_T58 l1 x5_1).f0))).setCell ⟨gb234,1,none⟩ (.int .i64 ((rd_T58 l1 x5_1).f1))).setCell ⟨gb234,2,none⟩ (.float .f64 ((rd_T58 l1 x5_1).f2))).setCell ⟨gb234,3,none⟩ (.float .f64 ((rd_T58 l1 x5_1).f4))).setCell ⟨gb234,4,none⟩ (.int .i64 ((rd_T58 l1 x5_1).f5))) = w28 at n0_ n1_ n2_ ⊢
    have BK233:=n0_
    have BK234:=n1_
    have HB:=n2_
    clear n0_ n1_ n2_
    have n0_:=Aside0.mk (blk_drew BK233.out)
    have n1_:=Aside0.mk (blk_drew BK234.out)
    have n2_:=Aside0.mk (below_drew1 HB.out)
    clear BK233
    clear BK234
    clear HB
    have BK233:=n0_
    have BK234:=n1_
    have HB:=n2_
    clear n0_ n1_ n2_
    have p236:0 ≤ ((ji25):Int):=of_decide_eq_true (by first | (with_reducible assumption) | assumption)
    have q236:(ji25) < (l1.length:Int):=of_decide_eq_true (by first | (with_reducible assumption) | assumption)
    obtain ⟨ad236,e236,hx236_0,hx236_1,hx236_2,hx236_3,hx236_4,hx236_5⟩:=at_T58 HR1.out (ji25) p236 q236
    have hw236_5:=hx236_5
    have hw236_4:=hx236_4
    have hw236_3:=hx236_3
    have hw236_2:=hx236_2
    have hw236_1:=hx236_1
    have hw236_0:=hx236_0
    obtain rfl:ad232 = ad236:=(by injection e236)
    replace hx236_0:=(HB.out.cell (World.block_lt_of_cell? w _ hx236_0)).trans hx236_0
    replace hx236_1:=(HB.out.cell (World.block_lt_of_cell? w _ hx236_1)).trans hx236_1
    replace hx236_2:=(HB.out.cell (World.block_lt_of_cell? w _ hx236_2)).trans hx236_2
    replace hx236_3:=(HB.out.cell (World.block_lt_of_cell? w _ hx236_3)).trans hx236_3
    replace hx236_4:=(HB.out.cell (World.block_lt_of_cell? w _ hx236_4)).trans hx236_4
    replace hx236_5:=(HB.out.cell (World.block_lt_of_cell? w _ hx236_5)).trans hx236_5
    replace p236:=eq_true p236
    replace q236:=eq_true q236
    refine start_ (n:=34) (S:=fun w' => w'.cell? ⟨gb233,0,none⟩ = some (.int .i64 ((rd_T58 l1 x5_1).f0)) ∧ w'.cell? ⟨gb233,1,none⟩ = some (.int .i64 ((rd_T58 l1 x5_1).f1)) ∧ w'.cell? ⟨gb233,2,none⟩ = some (.float .f64 ((rd_T58 l1 x5_1).f2)) ∧ w'.cell? ⟨gb233,3,none⟩ = some (.int .i64 ((rd_T58 l1 x5_1).f3)) ∧ w'.cell? ⟨gb233,4,none⟩ = some (.float .f64 ((rd_T58 l1 x5_1).f4)) ∧ w'.cell? ⟨gb233,5,none⟩ = some (.int .i64 ((rd_T58 l1 x5_1).f5)) ∧ w'.cell? ⟨gb234,0,none⟩ = some (.int .i64 ((rd_T58 l1 x5_1).f0)) ∧ w'.cell? ⟨gb234,1,none⟩ = some (.int .i64 ((rd_T58 l1 x5_1).f1)) ∧ w'.cell? ⟨gb234,2,none⟩ = some (.float .f64 ((rd_T58 l1 x5_1).f2)) ∧ w'.cell? ⟨gb234,3,none⟩ = some (.float .f64 ((rd_T58 l1 x5_1).f4)) ∧ w'.cell? ⟨gb234,4,none⟩ = some (.int .i64 ((rd_T58 l1 x5_1).f5)) ∧ w'.cell? (ad232.add (((ji25)).toNat * 6)) = some (.int .i64 ((rd_T58 l1 (ji25)).f0)) ∧ w'.cell? ⟨(ad232.add (((ji25)).toNat * 6)).block,(ad232.add (((ji25)).toNat * 6)).off + 1,none⟩ = some (.int .i64 ((rd_T58 l1 (ji25)).f1)) ∧ w'.cell? ⟨(ad232.add (((ji25)).toNat * 6)).block,(ad232.add (((ji25)).toNat * 6)).off + 2,none⟩ = some (.float .f64 ((rd_T58 l1 (ji25)).f2)) ∧ w'.cell? ⟨(ad232.add (((ji25)).toNat * 6)).block,(ad232.add (((ji25)).toNat * 6)).off + 3,none⟩ = some (.int .i64 ((rd_T58 l1 (ji25)).f3)) ∧ w'.cell? ⟨(ad232.add (((ji25)).toNat * 6)).block,(ad232.add (((ji25)).toNat * 6)).off + 4,none⟩ = some (.float .f64 ((rd_T58 l1 (ji25)).f4)) ∧ w'.cell? ⟨(ad232.add (((ji25)).toNat * 6)).block,(ad232.add (((ji25)).toNat * 6)).off + 5,none⟩ = some (.int .i64 ((rd_T58 l1 (ji25)).f5))) (ds:=[]) #[false,false,false,false,false,false,false,false,false,false,false,false,false,false,false,false,false,false,false,false,false,false,false,false,false,false,false,false,false,false,false,false,false,false] (by kernel_rfl) rfl rfl ⟨(blk_cell BK233.out 0).trans rfl,(blk_cell BK233.out 1).trans rfl,(blk_cell BK233.out 2).trans rfl,(blk_cell BK233.out 3).trans rfl,(blk_cell BK233.out 4).trans rfl,(blk_cell BK233.out 5).trans rfl,(blk_cell BK234.out 0).trans rfl,(blk_cell BK234.out 1).trans rfl,(blk_cell BK234.out 2).trans rfl,(blk_cell BK234.out 3).trans rfl,(blk_cell BK234.out 4).trans rfl,((HB.out.cell (World.block_lt_of_cell? w _ hw236_0)).trans hw236_0),((HB.out.cell (World.block_lt_of_cell? w _ hw236_1)).trans hw236_1),((HB.out.cell (World.block_lt_of_cell? w _ hw236_2)).trans hw236_2),((HB.out.cell (World.block_lt_of_cell? w _ hw236_3)).trans hw236_3),((HB.out.cell (World.block_lt_of_cell? w _ hw236_4)).trans hw236_4),((HB.out.cell (World.block_lt_of_cell? w _ hw236_5)).trans hw236_5)⟩ (fun hHeld => ?_);refine with_tabW beaconref15_may.tab8 beaconref15_may.bits8 (fun HT_ HW_ => ?_)
    generalize w28.drew = w29 at BK233 BK234 HB hx236_0 hx236_1 hx236_2 hx236_3 hx236_4 hx236_5 hHeld ⊢
    refine manyW_ (fuel:=29) (a':=?_) ((0,0) :: (1,2) :: (2,0) :: (3,0) :: (4,2) :: []) #[true,true,true,true,true,false,false,false,false,false,false,false,false,false,false,false,false,false,false,false,false,false,false,false,false,false,false,false,false,false,false,false,false,false] rfl HT_ HW_ (by kernel_rfl) (fun _ _ _ _ _ h => h) (fun _ => hHeld) ?_ ?_
    rotate_left
    ·repeat (first | exact Chain.nil _ | (apply Chain.on;rfl;rfl;(focus intro w';go_simp;with_reducible rfl);(focus simp only [Act.put,List.setIfInBounds_toArray,List.set_cons_zero,List.set_cons_succ,i64_w,i32_w];rfl)) | (apply Chain.take;rfl;rfl;(focus rintro w' ⟨s0,s1,s2,s3,s4,s5,s6,s7,s8,s9,s10,s11,s12,s13,s14,s15,s16⟩;go_simp;with_reducible rfl);(focus simp only [Act.put,List.setIfInBounds_toArray,List.set_cons_zero,List.set_cons_succ,i64_w,i32_w];rfl)))
    refine one_ (i:=5) (N:=some 37) #[true,true,true,true,true,true,false,false,false,false,false,false,false,false,false,false,false,false,false,false,false,false,false,false,false,false,false,false,false,false,false,false,false,false] rfl rfl (one_of HT_.out (by kernel_rfl)) (by decide) (fun K hK => ?_)
    refine goes_ Try.func87 (by kernel_rfl) rfl #[.agg #[.int .i64 ((rd_T58 l1 x5_1).f0),.int .i64 ((rd_T58 l1 x5_1).f1),.float .f64 ((rd_T58 l1 x5_1).f2),.float .f64 ((rd_T58 l1 x5_1).f4),.int .i64 ((rd_T58 l1 x5_1).f5)]] (by rfl) rfl rfl (by (try simp only [List.map_toArray,List.map_cons,List.map_nil]);first | done | rfl | (simp only [List.length_drop,List.length_take];rfl)) ?_
    with_reducible refine (beaconref06_May.calls k1 ((rd_T58 l1 x5_1).f0) ((rd_T58 l1 x5_1).f1) ((rd_T58 l1 x5_1).f2) ((rd_T58 l1 x5_1).f4) ((rd_T58 l1 x5_1).f5) true _ A14.out).mono ?_
    rintro e w30 ⟨rfl,hb⟩
    refine ⟨_,rfl,?_⟩
    have n0_:=Aside0.mk (blk_below (g:=gb233) (o:=.cells #[.int .i64 ((rd_T58 l1 x5_1).f0),.int .i64 ((rd_T58 l1 x5_1).f1),.float .f64 ((rd_T58 l1 x5_1).f2),.int .i64 ((rd_T58 l1 x5_1).f3),.float .f64 ((rd_T58 l1 x5_1).f4),.int .i64 ((rd_T58 l1 x5_1).f5)] 58 (0,0)) (by (with_reducible repeat (first | refine blk_drewN ?_ _ | refine blk_drew ?_ | refine blk_alloc ?_ _));exact BK233.out) hb)
    have n1_:=Aside0.mk (blk_below (g:=gb234) (o:=.cells #[.int .i64 ((rd_T58 l1 x5_1).f0),.int .i64 ((rd_T58 l1 x5_1).f1),.float .f64 ((rd_T58 l1 x5_1).f2),.float .f64 ((rd_T58 l1 x5_1).f4),.int .i64 ((rd_T58 l1 x5_1).f5)] 56 (0,0)) (by (with_reducible repeat (first | refine blk_drewN ?_ _ | refine blk_drew ?_ | refine blk_alloc ?_ _));exact BK234.out) hb)
    have n2_:=Aside0.mk (below_step (by repeat (first | (with_reducible first | exact HB.out | apply below_alloc | apply pw_below_drewN | apply below_drew1 | refine below_set ?_ GE233.out | refine below_set ?_ GE234.out) | exact HB.out)) hb)
    clear BK233
    clear BK234
    clear HB
    have BK233:=n0_
    have BK234:=n1_
    have HB:=n2_
    clear n0_ n1_ n2_
    (try clear hb)
    (try clear hb2)
    (try clear hk)
    (try clear hi)
    refine hK.out _ _ ⟨(blk_cell BK233.out 0).trans rfl,(blk_cell BK233.out 1).trans rfl,(blk_cell BK233.out 2).trans rfl,(blk_cell BK233.out 3).trans rfl,(blk_cell BK233.out 4).trans rfl,(blk_cell BK233.out 5).trans rfl,(blk_cell BK234.out 0).trans rfl,(blk_cell BK234.out 1).trans rfl,(blk_cell BK234.out 2).trans rfl,(blk_cell BK234.out 3).trans rfl,(blk_cell BK234.out 4).trans rfl,((HB.out.cell (World.block_lt_of_cell? w _ hw236_0)).trans hw236_0),((HB.out.cell (World.block_lt_of_cell? w _ hw236_1)).trans hw236_1),((HB.out.cell (World.block_lt_of_cell? w _ hw236_2)).trans hw236_2),((HB.out.cell (World.block_lt_of_cell? w _ hw236_3)).trans hw236_3),((HB.out.cell (World.block_lt_of_cell? w _ hw236_4)).trans hw236_4),((HB.out.cell (World.block_lt_of_cell? w _ hw236_5)).trans hw236_5)⟩ (fun hHeld => ?_)
    clear hK K
    refine norm_ (a':=?_) ?_ ?_
    rotate_left
    ·show Act.put _ (some 37) _ = _
     simp only [Act.put,List.setIfInBounds_toArray,List.set_cons_zero,List.set_cons_succ,i64_w,i32_w]
     rfl
    refine manyW_ (fuel:=0) (a':=?_) ((6,0) :: (7,0) :: (8,0) :: (9,0) :: (11,0) :: (10,2) :: (12,0) :: (13,0) :: (14,0) :: (15,0) :: (16,2) :: (17,0) :: (18,0) :: (19,0) :: (20,0) :: (21,0) :: (22,0) :: (23,0) :: (24,0) :: (25,0) :: (26,0) :: (27,0) :: (29,0) :: (28,2) :: (30,2) :: (31,0) :: (32,0) :: (33,0) :: []) #[true,true,true,true,true,true,true,true,true,true,true,true,true,true,true,true,true,true,true,true,true,true,true,true,true,true,true,true,true,true,true,true,true,true] rfl HT_ HW_ (by kernel_rfl) (fun _ _ _ _ _ h => h) (fun _ => hHeld) ?_ ?_
    rotate_left
    ·repeat (first | exact Chain.nil _ | (apply Chain.on;rfl;rfl;(focus intro w';go_simp;with_reducible rfl);(focus simp only [Act.put,List.setIfInBounds_toArray,List.set_cons_zero,List.set_cons_succ,i64_w,i32_w];rfl)) | (apply Chain.take;rfl;rfl;(focus rintro w' ⟨s0,s1,s2,s3,s4,s5,s6,s7,s8,s9,s10,s11,s12,s13,s14,s15,s16⟩;go_simp;with_reducible rfl);(focus simp only [Act.put,List.setIfInBounds_toArray,List.set_cons_zero,List.set_cons_succ,i64_w,i32_w];rfl)))
    refine done_ (done_of HT_.out (by kernel_rfl)) ?_
    try go_wp2
    go_meet
    case rel => exact ⟨_,(decide (((rd_T58 l1 (ji25)).f0) ≥ ((rd_T58 l1 x5_1).f0))),(by first | rfl | (simp;done) | (simp only [← hji25] <;> (first | rfl | simp)) | (simp [*];done)),H',⟨by have:=HK1.out;first | omega | exact Nat.le_refl _⟩,⟨by (with_reducible repeat (first | refine blk_drewN ?_ _ | refine blk_drew ?_ | refine blk_alloc ?_ _));exact BK233.out⟩,⟨by (with_reducible repeat (first | refine blk_drewN ?_ _ | refine blk_drew ?_ | refine blk_alloc ?_ _));exact BK234.out⟩,⟨by repeat (first | (with_reducible first | exact HB.out | apply below_alloc | apply pw_below_drewN | apply below_drew1 | refine below_set ?_ GE233.out | refine below_set ?_ GE234.out) | exact HB.out)⟩⟩
   case rest =>
    clear HC7
    obtain ⟨kq,x65_6,rfl,HA,HJ6,BK233,BK234,HB⟩:=hcut
    cases kq with
    | zero => exact absurd HA.out (by simp [beaconref15_may.j1])
    | succ kj6 =>
     have H:=HA.out
     clear HA
     simp only [beaconref15_may.j1] at H
     by_cases c39:x65_6 = true
     ·subst c39
      have H1:(some 1) = some r:=by rw [if_pos rfl] at H;exact H
      clear H
      have H:=H1
      clear H1
      obtain rfl:=Option.some.inj H
      go_wp2
      go_ret
      exact ⟨by first | rfl | (simp [errW_none,errW_some] <;> rfl) | (simp [*,errW_none,errW_some] <;> rfl),by repeat (first | (with_reducible first | exact HB.out | apply below_alloc | apply pw_below_drewN | apply below_drew1 | refine below_set ?_ GE233.out | refine below_set ?_ GE234.out) | exact HB.out)⟩
     replace c39:=Bool.eq_false_iff.mpr c39
     subst c39
     have H1:((beaconref15_Far.f ((rd_T58 l1 x5_1).f2)).bind fun t237 => (if t237 = true then (if ((rd_T58 l1 x5_1).f3) = 0 then ((beaconref15_Far.f ((rd_T58 l1 x5_1).f2)).bind fun t238 => (if t238 = true then (beaconref15_may.j2 kj6 a0 l1 x5_1 false) else ((beaconref15_number.f ((rd_T58 l1 x5_1).f3)).bind fun t239 => (beaconref15_may.j2 kj6 a0 l1 x5_1 (!t239))))) else (beaconref15_may.j2 kj6 a0 l1 x5_1 true)) else ((beaconref15_Far.f ((rd_T58 l1 x5_1).f2)).bind fun t240 => (if t240 = true then (beaconref15_may.j2 kj6 a0 l1 x5_1 false) else ((beaconref15_number.f ((rd_T58 l1 x5_1).f3)).bind fun t241 => (beaconref15_may.j2 kj6 a0 l1 x5_1 (!t241))))))) = some r:=by rw [if_neg (show ¬ (false = true) by decide)] at H;exact H
     clear H
     have H:=H1
     clear H1
     have HC40:=Aside0.mk H
     clear H
     go_upto_region 10 with (fail)
     go_cut [85] (fun v85 wc => ∃ (kq:Nat) (x85_39:Bool),v85 = .bool x85_39 ∧ Aside0 (beaconref15_may.j2 kq a0 l1 x5_1 x85_39 = some r) ∧ Aside0 (kq ≤ kj6) ∧ Aside0 (wc.heap[gb233]? = some (.cells #[.int .i64 ((rd_T58 l1 x5_1).f0),.int .i64 ((rd_T58 l1 x5_1).f1),.float .f64 ((rd_T58 l1 x5_1).f2),.int .i64 ((rd_T58 l1 x5_1).f3),.float .f64 ((rd_T58 l1 x5_1).f4),.int .i64 ((rd_T58 l1 x5_1).f5)] 58 (0,0))) ∧ Aside0 (wc.heap[gb234]? = some (.cells #[.int .i64 ((rd_T58 l1 x5_1).f0),.int .i64 ((rd_T58 l1 x5_1).f1),.float .f64 ((rd_T58 l1 x5_1).f2),.float .f64 ((rd_T58 l1 x5_1).f4),.int .i64 ((rd_T58 l1 x5_1).f5)] 56 (0,0))) ∧ Aside0 (Below w.heap.size w wc))
     case first =>
      have H:=HC40.out
      clear HC40
      replace H:=Option.bind_eq_some_iff.mp H
      obtain ⟨t237,A410,H⟩:=H
      replace H:(if t237 = true then (if ((rd_T58 l1 x5_1).f3) = 0 then ((beaconref15_Far.f ((rd_T58 l1 x5_1).f2)).bind fun t238 => (if t238 = true then (beaconref15_may.j2 kj6 a0 l1 x5_1 false) else ((beaconref15_number.f ((rd_T58 l1 x5_1).f3)).bind fun t239 => (beaconref15_may.j2 kj6 a0 l1 x5_1 (!t239))))) else (beaconref15_may.j2 kj6 a0 l1 x5_1 true)) else ((beaconref15_Far.f ((rd_T58 l1 x5_1).f2)).bind fun t240 => (if t240 = true then (beaconref15_may.j2 kj6 a0 l1 x5_1 false) else ((beaconref15_number.f ((rd_T58 l1 x5_1).f3)).bind fun t241 => (beaconref15_may.j2 kj6 a0 l1 x5_1 (!t241)))))) = some r:=H
      have A41:=Aside0.mk A410
      clear A410
      by_cases c42:t237 = true
      rotate_left
      ·replace c42:=Bool.eq_false_iff.mpr c42
       subst c42
       have H1:((beaconref15_Far.f ((rd_T58 l1 x5_1).f2)).bind fun t240 => (if t240 = true then (beaconref15_may.j2 kj6 a0 l1 x5_1 false) else ((beaconref15_number.f ((rd_T58 l1 x5_1).f3)).bind fun t241 => (beaconref15_may.j2 kj6 a0 l1 x5_1 (!t241))))) = some r:=by rw [if_neg (show ¬ (false = true) by decide)] at H;exact H
       clear H
       have H:=H1
       clear H1
       replace H:=Option.bind_eq_some_iff.mp H
       obtain ⟨t240,A530,H⟩:=H
       replace H:(if t240 = true then (beaconref15_may.j2 kj6 a0 l1 x5_1 false) else ((beaconref15_number.f ((rd_T58 l1 x5_1).f3)).bind fun t241 => (beaconref15_may.j2 kj6 a0 l1 x5_1 (!t241)))) = some r:=H
       have A53:=Aside0.mk A530
       clear A530
       by_cases c54:t240 = true
       ·subst c54
        have H1:(beaconref15_may.j2 kj6 a0 l1 x5_1 false) = some r:=by rw [if_pos rfl] at H;exact H
        clear H
        have H:=H1
        clear H1
        have H':=Aside0.mk H
        clear H
        have hnb55:=NB233_234.out
        have hnc55:=NB234_233.out
        have hcz56_0:wc.cell? ⟨gb233,0,none⟩ = some (.int .i64 ((rd_T58 l1 x5_1).f0)):=(blk_cell BK233.out 0).trans rfl
        have hcz56_1:wc.cell? ⟨gb233,1,none⟩ = some (.int .i64 ((rd_T58 l1 x5_1).f1)):=(blk_cell BK233.out 1).trans rfl
        have hcz56_2:wc.cell? ⟨gb233,2,none⟩ = some (.float .f64 ((rd_T58 l1 x5_1).f2)):=(blk_cell BK233.out 2).trans rfl
        have hcz56_3:wc.cell? ⟨gb233,3,none⟩ = some (.int .i64 ((rd_T58 l1 x5_1).f3)):=(blk_cell BK233.out 3).trans rfl
        have hcz56_4:wc.cell? ⟨gb233,4,none⟩ = some (.float .f64 ((rd_T58 l1 x5_1).f4)):=(blk_cell BK233.out 4).trans rfl
        have hcz56_5:wc.cell? ⟨gb233,5,none⟩ = some (.int .i64 ((rd_T58 l1 x5_1).f5)):=(blk_cell BK233.out 5).trans rfl
        have hfz56_0:=blk_frozen BK233.out 0
        have hfz56_1:=blk_frozen BK233.out 1
        have hfz56_2:=blk_frozen BK233.out 2
        have hfz56_3:=blk_frozen BK233.out 3
        have hfz56_4:=blk_frozen BK233.out 4
        have hfz56_5:=blk_frozen BK233.out 5
        go_wp2_with (first | ((with_reducible refine gate_callee (f:=67) rfl ?_);refine goesL_ (some 68) rfl rfl Try.func67 (by kernel_rfl) rfl #[.float .f64 ((rd_T58 l1 x5_1).f2)] rfl (by (try simp only [List.map_toArray,List.map_cons,List.map_nil]);first | done | rfl | (simp only [List.length_drop,List.length_take];rfl)) ?_;(with_reducible refine (beaconref15_Far.calls ((rd_T58 l1 x5_1).f2) false _ A41.out).mono ?_);rintro e w' ⟨rfl,⟨nd,rfl⟩⟩;refine ⟨_,rfl,?_⟩) | (go_at_call 67;(with_reducible refine (beaconref15_Far.calls ((rd_T58 l1 x5_1).f2) true _ A53.out).mono ?_);rintro e w' ⟨rfl,⟨nd,rfl⟩⟩))
        go_meet
        case rel => exact ⟨_,(false),(by first | rfl | (simp;done) | (simp [*];done)),H',⟨by have:=HK1.out;have:=HJ6.out;first | omega | exact Nat.le_refl _⟩,⟨by (with_reducible repeat (first | refine blk_drewN ?_ _ | refine blk_drew ?_ | refine blk_alloc ?_ _));exact BK233.out⟩,⟨by (with_reducible repeat (first | refine blk_drewN ?_ _ | refine blk_drew ?_ | refine blk_alloc ?_ _));exact BK234.out⟩,⟨by repeat (first | (with_reducible first | exact HB.out | apply below_alloc | apply pw_below_drewN | apply below_drew1 | refine below_set ?_ GE233.out | refine below_set ?_ GE234.out) | exact HB.out)⟩⟩
       replace c54:=Bool.eq_false_iff.mpr c54
       subst c54
       have H1:((beaconref15_number.f ((rd_T58 l1 x5_1).f3)).bind fun t241 => (beaconref15_may.j2 kj6 a0 l1 x5_1 (!t241))) = some r:=by rw [if_neg (show ¬ (false = true) by decide)] at H;exact H
       clear H
       have H:=H1
       clear H1
       replace H:=Option.bind_eq_some_iff.mp H
       obtain ⟨t241,A570,H⟩:=H
       replace H:(beaconref15_may.j2 kj6 a0 l1 x5_1 (!t241)) = some r:=H
       have A57:=Aside0.mk A570
       clear A570
       have H':=Aside0.mk H
       clear H
       have hnb58:=NB233_234.out
       have hnc58:=NB234_233.out
       have hcz59_0:wc.cell? ⟨gb233,0,none⟩ = some (.int .i64 ((rd_T58 l1 x5_1).f0)):=(blk_cell BK233.out 0).trans rfl
       have hcz59_1:wc.cell? ⟨gb233,1,none⟩ = some (.int .i64 ((rd_T58 l1 x5_1).f1)):=(blk_cell BK233.out 1).trans rfl
       have hcz59_2:wc.cell? ⟨gb233,2,none⟩ = some (.float .f64 ((rd_T58 l1 x5_1).f2)):=(blk_cell BK233.out 2).trans rfl
       have hcz59_3:wc.cell? ⟨gb233,3,none⟩ = some (.int .i64 ((rd_T58 l1 x5_1).f3)):=(blk_cell BK233.out 3).trans rfl
       have hcz59_4:wc.cell? ⟨gb233,4,none⟩ = some (.float .f64 ((rd_T58 l1 x5_1).f4)):=(blk_cell BK233.out 4).trans rfl
       have hcz59_5:wc.cell? ⟨gb233,5,none⟩ = some (.int .i64 ((rd_T58 l1 x5_1).f5)):=(blk_cell BK233.out 5).trans rfl
       have hfz59_0:=blk_frozen BK233.out 0
       have hfz59_1:=blk_frozen BK233.out 1
       have hfz59_2:=blk_frozen BK233.out 2
       have hfz59_3:=blk_frozen BK233.out 3
       have hfz59_4:=blk_frozen BK233.out 4
       have hfz59_5:=blk_frozen BK233.out 5
       go_wp2_with (first | ((with_reducible refine gate_callee (f:=67) rfl ?_);refine goesL_ (some 68) rfl rfl Try.func67 (by kernel_rfl) rfl #[.float .f64 ((rd_T58 l1 x5_1).f2)] rfl (by (try simp only [List.map_toArray,List.map_cons,List.map_nil]);first | done | rfl | (simp only [List.length_drop,List.length_take];rfl)) ?_;(with_reducible refine (beaconref15_Far.calls ((rd_T58 l1 x5_1).f2) false _ A41.out).mono ?_);rintro e w' ⟨rfl,⟨nd,rfl⟩⟩;refine ⟨_,rfl,?_⟩) | (go_at_call 67;(with_reducible refine (beaconref15_Far.calls ((rd_T58 l1 x5_1).f2) false _ A53.out).mono ?_);rintro e w' ⟨rfl,⟨nd,rfl⟩⟩) | (go_at_call 52;(with_reducible refine (beaconref15_number.calls ((rd_T58 l1 x5_1).f3) t241 _ A57.out).mono ?_);rintro e w' ⟨rfl,⟨nd,rfl⟩⟩))
       go_meet
       case rel => exact ⟨_,(!t241),(by first | rfl | (simp;done) | (simp [*];done)),H',⟨by have:=HK1.out;have:=HJ6.out;first | omega | exact Nat.le_refl _⟩,⟨by (with_reducible repeat (first | refine blk_drewN ?_ _ | refine blk_drew ?_ | refine blk_alloc ?_ _));exact BK233.out⟩,⟨by (with_reducible repeat (first | refine blk_drewN ?_ _ | refine blk_drew ?_ | refine blk_alloc ?_ _));exact BK234.out⟩,⟨by repeat (first | (with_reducible first | exact HB.out | apply below_alloc | apply pw_below_drewN | apply below_drew1 | refine below_set ?_ GE233.out | refine below_set ?_ GE234.out) | exact HB.out)⟩⟩
      subst c42
      have H1:(if ((rd_T58 l1 x5_1).f3) = 0 then ((beaconref15_Far.f ((rd_T58 l1 x5_1).f2)).bind fun t238 => (if t238 = true then (beaconref15_may.j2 kj6 a0 l1 x5_1 false) else ((beaconref15_number.f ((rd_T58 l1 x5_1).f3)).bind fun t239 => (beaconref15_may.j2 kj6 a0 l1 x5_1 (!t239))))) else (beaconref15_may.j2 kj6 a0 l1 x5_1 true)) = some r:=by rw [if_pos rfl] at H;exact H
      clear H
      have H:=H1
      clear H1
      by_cases c43:((rd_T58 l1 x5_1).f3) = 0
      rotate_left
      ·rw [if_neg c43] at H
       have c43b0:(((rd_T58 l1 x5_1).f3) == 0) = false:=beq_eq_false_iff_ne.mpr c43
       have c43b1:(((rd_T58 l1 x5_1).f3) != 0) = true:=bne_iff_ne.mpr c43
       (first | rw [c43b0] | (simp only [i64_w,i32_w];rw [c43b0]) | skip)
       have H':=Aside0.mk H
       clear H
       have hnb51:=NB233_234.out
       have hnc51:=NB234_233.out
       have hcz52_0:wc.cell? ⟨gb233,0,none⟩ = some (.int .i64 ((rd_T58 l1 x5_1).f0)):=(blk_cell BK233.out 0).trans rfl
       have hcz52_1:wc.cell? ⟨gb233,1,none⟩ = some (.int .i64 ((rd_T58 l1 x5_1).f1)):=(blk_cell BK233.out 1).trans rfl
       have hcz52_2:wc.cell? ⟨gb233,2,none⟩ = some (.float .f64 ((rd_T58 l1 x5_1).f2)):=(blk_cell BK233.out 2).trans rfl
       have hcz52_3:wc.cell? ⟨gb233,3,none⟩ = some (.int .i64 ((rd_T58 l1 x5_1).f3)):=(blk_cell BK233.out 3).trans rfl
       have hcz52_4:wc.cell? ⟨gb233,4,none⟩ = some (.float .f64 ((rd_T58 l1 x5_1).f4)):=(blk_cell BK233.out 4).trans rfl
       have hcz52_5:wc.cell? ⟨gb233,5,none⟩ = some (.int .i64 ((rd_T58 l1 x5_1).f5)):=(blk_cell BK233.out 5).trans rfl
       have hfz52_0:=blk_frozen BK233.out 0
       have hfz52_1:=blk_frozen BK233.out 1
       have hfz52_2:=blk_frozen BK233.out 2
       have hfz52_3:=blk_frozen BK233.out 3
       have hfz52_4:=blk_frozen BK233.out 4
       have hfz52_5:=blk_frozen BK233.out 5
       go_wp2_with (first | ((with_reducible refine gate_callee (f:=67) rfl ?_);refine goesL_ (some 68) rfl rfl Try.func67 (by kernel_rfl) rfl #[.float .f64 ((rd_T58 l1 x5_1).f2)] rfl (by (try simp only [List.map_toArray,List.map_cons,List.map_nil]);first | done | rfl | (simp only [List.length_drop,List.length_take];rfl)) ?_;(with_reducible refine (beaconref15_Far.calls ((rd_T58 l1 x5_1).f2) true _ A41.out).mono ?_);rintro e w' ⟨rfl,⟨nd,rfl⟩⟩;refine ⟨_,rfl,?_⟩))
       go_meet
       case rel => exact ⟨_,(true),(by first | rfl | (simp;done) | (simp [*];done)),H',⟨by have:=HK1.out;have:=HJ6.out;first | omega | exact Nat.le_refl _⟩,⟨by (with_reducible repeat (first | refine blk_drewN ?_ _ | refine blk_drew ?_ | refine blk_alloc ?_ _));exact BK233.out⟩,⟨by (with_reducible repeat (first | refine blk_drewN ?_ _ | refine blk_drew ?_ | refine blk_alloc ?_ _));exact BK234.out⟩,⟨by repeat (first | (with_reducible first | exact HB.out | apply below_alloc | apply pw_below_drewN | apply below_drew1 | refine below_set ?_ GE233.out | refine below_set ?_ GE234.out) | exact HB.out)⟩⟩
      rw [if_pos c43] at H
      have c43b0:(((rd_T58 l1 x5_1).f3) == 0) = true:=beq_iff_eq.mpr c43
      have c43b1:(((rd_T58 l1 x5_1).f3) != 0) = false:=bne_eq_false_iff_eq.mpr c43
      clear c43
      (first | rw [c43b0] | (simp only [i64_w,i32_w];rw [c43b0]) | skip)
      replace H:=Option.bind_eq_some_iff.mp H
      obtain ⟨t238,A440,H⟩:=H
      replace H:(if t238 = true then (beaconref15_may.j2 kj6 a0 l1 x5_1 false) else ((beaconref15_number.f ((rd_T58 l1 x5_1).f3)).bind fun t239 => (beaconref15_may.j2 kj6 a0 l1 x5_1 (!t239)))) = some r:=H
      have A44:=Aside0.mk A440
      clear A440
      by_cases c45:t238 = true
      ·subst c45
       have H1:(beaconref15_may.j2 kj6 a0 l1 x5_1 false) = some r:=by rw [if_pos rfl] at H;exact H
       clear H
       have H:=H1
       clear H1
       have H':=Aside0.mk H
       clear H
       have hnb46:=NB233_234.out
       have hnc46:=NB234_233.out
       have hcz47_0:wc.cell? ⟨gb233,0,none⟩ = some (.int .i64 ((rd_T58 l1 x5_1).f0)):=(blk_cell BK233.out 0).trans rfl
       have hcz47_1:wc.cell? ⟨gb233,1,none⟩ = some (.int .i64 ((rd_T58 l1 x5_1).f1)):=(blk_cell BK233.out 1).trans rfl
       have hcz47_2:wc.cell? ⟨gb233,2,none⟩ = some (.float .f64 ((rd_T58 l1 x5_1).f2)):=(blk_cell BK233.out 2).trans rfl
       have hcz47_3:wc.cell? ⟨gb233,3,none⟩ = some (.int .i64 ((rd_T58 l1 x5_1).f3)):=(blk_cell BK233.out 3).trans rfl
       have hcz47_4:wc.cell? ⟨gb233,4,none⟩ = some (.float .f64 ((rd_T58 l1 x5_1).f4)):=(blk_cell BK233.out 4).trans rfl
       have hcz47_5:wc.cell? ⟨gb233,5,none⟩ = some (.int .i64 ((rd_T58 l1 x5_1).f5)):=(blk_cell BK233.out 5).trans rfl
       have hfz47_0:=blk_frozen BK233.out 0
       have hfz47_1:=blk_frozen BK233.out 1
       have hfz47_2:=blk_frozen BK233.out 2
       have hfz47_3:=blk_frozen BK233.out 3
       have hfz47_4:=blk_frozen BK233.out 4
       have hfz47_5:=blk_frozen BK233.out 5
       go_wp2_with (first | ((with_reducible refine gate_callee (f:=67) rfl ?_);refine goesL_ (some 68) rfl rfl Try.func67 (by kernel_rfl) rfl #[.float .f64 ((rd_T58 l1 x5_1).f2)] rfl (by (try simp only [List.map_toArray,List.map_cons,List.map_nil]);first | done | rfl | (simp only [List.length_drop,List.length_take];rfl)) ?_;(with_reducible refine (beaconref15_Far.calls ((rd_T58 l1 x5_1).f2) true _ A41.out).mono ?_);rintro e w' ⟨rfl,⟨nd,rfl⟩⟩;refine ⟨_,rfl,?_⟩) | (go_at_call 67;(with_reducible refine (beaconref15_Far.calls ((rd_T58 l1 x5_1).f2) true _ A44.out).mono ?_);rintro e w' ⟨rfl,⟨nd,rfl⟩⟩))
       go_meet
       case rel => exact ⟨_,(false),(by first | rfl | (simp;done) | (simp [*];done)),H',⟨by have:=HK1.out;have:=HJ6.out;first | omega | exact Nat.le_refl _⟩,⟨by (with_reducible repeat (first | refine blk_drewN ?_ _ | refine blk_drew ?_ | refine blk_alloc ?_ _));exact BK233.out⟩,⟨by (with_reducible repeat (first | refine blk_drewN ?_ _ | refine blk_drew ?_ | refine blk_alloc ?_ _));exact BK234.out⟩,⟨by repeat (first | (with_reducible first | exact HB.out | apply below_alloc | apply pw_below_drewN | apply below_drew1 | refine below_set ?_ GE233.out | refine below_set ?_ GE234.out) | exact HB.out)⟩⟩
      replace c45:=Bool.eq_false_iff.mpr c45
      subst c45
      have H1:((beaconref15_number.f ((rd_T58 l1 x5_1).f3)).bind fun t239 => (beaconref15_may.j2 kj6 a0 l1 x5_1 (!t239))) = some r:=by rw [if_neg (show ¬ (false = true) by decide)] at H;exact H
      clear H
      have H:=H1
      clear H1
      replace H:=Option.bind_eq_some_iff.mp H
      obtain ⟨t239,A480,H⟩:=H
      replace H:(beaconref15_may.j2 kj6 a0 l1 x5_1 (!t239)) = some r:=H
      have A48:=Aside0.mk A480
      clear A480
      have H':=Aside0.mk H
      clear H
      have hnb49:=NB233_234.out
      have hnc49:=NB234_233.out
      have hcz50_0:wc.cell? ⟨gb233,0,none⟩ = some (.int .i64 ((rd_T58 l1 x5_1).f0)):=(blk_cell BK233.out 0).trans rfl
      have hcz50_1:wc.cell? ⟨gb233,1,none⟩ = some (.int .i64 ((rd_T58 l1 x5_1).f1)):=(blk_cell BK233.out 1).trans rfl
      have hcz50_2:wc.cell? ⟨gb233,2,none⟩ = some (.float .f64 ((rd_T58 l1 x5_1).f2)):=(blk_cell BK233.out 2).trans rfl
      have hcz50_3:wc.cell? ⟨gb233,3,none⟩ = some (.int .i64 ((rd_T58 l1 x5_1).f3)):=(blk_cell BK233.out 3).trans rfl
      have hcz50_4:wc.cell? ⟨gb233,4,none⟩ = some (.float .f64 ((rd_T58 l1 x5_1).f4)):=(blk_cell BK233.out 4).trans rfl
      have hcz50_5:wc.cell? ⟨gb233,5,none⟩ = some (.int .i64 ((rd_T58 l1 x5_1).f5)):=(blk_cell BK233.out 5).trans rfl
      have hfz50_0:=blk_frozen BK233.out 0
      have hfz50_1:=blk_frozen BK233.out 1
      have hfz50_2:=blk_frozen BK233.out 2
      have hfz50_3:=blk_frozen BK233.out 3
      have hfz50_4:=blk_frozen BK233.out 4
      have hfz50_5:=blk_frozen BK233.out 5
      go_wp2_with (first | ((with_reducible refine gate_callee (f:=67) rfl ?_);refine goesL_ (some 68) rfl rfl Try.func67 (by kernel_rfl) rfl #[.float .f64 ((rd_T58 l1 x5_1).f2)] rfl (by (try simp only [List.map_toArray,List.map_cons,List.map_nil]);first | done | rfl | (simp only [List.length_drop,List.length_take];rfl)) ?_;(with_reducible refine (beaconref15_Far.calls ((rd_T58 l1 x5_1).f2) true _ A41.out).mono ?_);rintro e w' ⟨rfl,⟨nd,rfl⟩⟩;refine ⟨_,rfl,?_⟩) | (go_at_call 67;(with_reducible refine (beaconref15_Far.calls ((rd_T58 l1 x5_1).f2) false _ A44.out).mono ?_);rintro e w' ⟨rfl,⟨nd,rfl⟩⟩) | (go_at_call 52;(with_reducible refine (beaconref15_number.calls ((rd_T58 l1 x5_1).f3) t239 _ A48.out).mono ?_);rintro e w' ⟨rfl,⟨nd,rfl⟩⟩))
      go_meet
      case rel => exact ⟨_,(!t239),(by first | rfl | (simp;done) | (simp [*];done)),H',⟨by have:=HK1.out;have:=HJ6.out;first | omega | exact Nat.le_refl _⟩,⟨by (with_reducible repeat (first | refine blk_drewN ?_ _ | refine blk_drew ?_ | refine blk_alloc ?_ _));exact BK233.out⟩,⟨by (with_reducible repeat (first | refine blk_drewN ?_ _ | refine blk_drew ?_ | refine blk_alloc ?_ _));exact BK234.out⟩,⟨by repeat (first | (with_reducible first | exact HB.out | apply below_alloc | apply pw_below_drewN | apply below_drew1 | refine below_set ?_ GE233.out | refine below_set ?_ GE234.out) | exact HB.out)⟩⟩
     case rest =>
      clear HC40
      obtain ⟨kq,x85_39,rfl,HA,HJ39,BK233,BK234,HB⟩:=hcut
      cases kq with
      | zero => exact absurd HA.out (by simp [beaconref15_may.j2])
      | succ kj39 =>
       have H:=HA.out
       clear HA
       simp only [beaconref15_may.j2] at H
       by_cases c60:x85_39 = true
       ·subst c60
        have H1:(some 1) = some r:=by rw [if_pos rfl] at H;exact H
        clear H
        have H:=H1
        clear H1
        obtain rfl:=Option.some.inj H
        go_wp2
        go_ret
        exact ⟨by first | rfl | (simp [errW_none,errW_some] <;> rfl) | (simp [*,errW_none,errW_some] <;> rfl),by repeat (first | (with_reducible first | exact HB.out | apply below_alloc | apply pw_below_drewN | apply below_drew1 | refine below_set ?_ GE233.out | refine below_set ?_ GE234.out) | exact HB.out)⟩
       replace c60:=Bool.eq_false_iff.mpr c60
       subst c60
       have H1:(beaconref15_may.l0 kj39 a0 l1 (wrap64 (x5_1 + 1))) = some r:=by rw [if_neg (show ¬ (false = true) by decide)] at H;exact H
       clear H
       have H:=H1
       clear H1
       have H':=Aside0.mk H
       clear H
       go_wp2
       go_roundg kj39
       case measure => have:=HK1.out;have:=HJ6.out;have:=HJ39.out;omega
       case rel => exact ⟨(wrap64 (x5_1 + 1)),(by first | rfl | (simp;done) | (simp [*];done)),H',⟨by have:=HK1.out;have:=HJ6.out;have:=HJ39.out;omega⟩,⟨by repeat (first | (with_reducible first | exact HB.out | apply below_alloc | apply pw_below_drewN | apply below_drew1 | refine below_set ?_ GE233.out | refine below_set ?_ GE234.out) | exact HB.out)⟩⟩
end Go.Proofs.Ytjcnmpkaiopihaa.PA
