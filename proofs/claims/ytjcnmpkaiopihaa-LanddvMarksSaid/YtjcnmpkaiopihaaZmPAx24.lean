/- Printed by a program of this session (wip/tools/patch_print.py and pr.py, over the kit's print): each Go function as a plain Lean function, and that the Go code comes to just its answers. Conditions: those that each theorem names. -/
import Derived.Test.YtjcnmpkaiopihaaZmMn
import Derived.Test.YtjcnmpkaiopihaaZmPAx0
import Derived.Test.YtjcnmpkaiopihaaZmPAx2
import Derived.Test.YtjcnmpkaiopihaaZmPAx23
namespace Go.Proofs.Ytjcnmpkaiopihaa.PA
open Go.RowKit Go.Proofs.YtjcnmpkaiopihaaW.PrintWords Go.Proofs.YtjcnmpkaiopihaaW.PrintLast Go.Proofs.YtjcnmpkaiopihaaW.PrintMore
attribute [local go_sem] max2_int min2_int max_two min_two max_three min_three max_four min_four
set_option linter.unusedVariables false
set_option linter.unusedSimpArgs false
def delta_ahead.f (a0_0:Int) (a0_1:Int) (a0_2:Nat) (a0_3:Nat) (a0_4:Int) (a1_0:Int) (a1_1:Int) (a1_2:Nat) (a1_3:Nat) (a1_4:Int):Option (Bool):=if a0_1 < a1_1 then (some true) else (if a0_1 = a1_1 then (some (decide (a0_0 < a1_0))) else (some false))
set_option maxHeartbeats 8000000 in
set_option maxRecDepth 100000 in
theorem delta_ahead.calls (a0_0:Int) (a0_1:Int) (a0_2:Nat) (a0_3:Nat) (a0_4:Int) (a1_0:Int) (a1_1:Int) (a1_2:Nat) (a1_3:Nat) (a1_4:Int) (r:Bool) (w:World) (h:delta_ahead.f a0_0 a0_1 a0_2 a0_3 a0_4 a1_0 a1_1 a1_2 a1_3 a1_4 = some r) :
  Calls Try.prog 153 #[.agg #[.int .i64 a0_0,.int .i64 a0_1,.float .f64 a0_2,.float .f64 a0_3,.int .i64 a0_4],.agg #[.int .i64 a1_0,.int .i64 a1_1,.float .f64 a1_2,.float .f64 a1_3,.int .i64 a1_4]] w fun e w' => e = .returned (.bool r) ∧ Below w.heap.size w w':=by
 have hu56:=Try.underlying56
 have HB:=Aside0.mk (Below.refl w.heap.size w)
 have H:(if a0_1 < a1_1 then (some true) else (if a0_1 = a1_1 then (some (decide (a0_0 < a1_0))) else (some false))) = some r:=h
 clear h
 by_cases c3:a0_1 < a1_1
 ·rw [if_pos c3] at H
  have c3b0:decide (a0_1 < a1_1) = true:=decide_eq_true c3
  clear c3
  obtain rfl:=Option.some.inj H
  go_enter Try.func153,Try.ntmps153
  go_wp2_with (first | ((with_reducible refine gate_dst (N:=2) rfl ?_);refine box_event ?hg (N:=2) ?hd (cs:=#[.int .i64 a0_0,.int .i64 a0_1,.float .f64 a0_2,.float .f64 a0_3,.int .i64 a0_4]) (t:=56) ?hr ?_;(case hd => rfl);(case hg => rfl);(case hr => first | (go_simp;done) | (go_simp;rfl));intro gb374 hg w4 hbox hb;have n0_:=Aside0.mk (below_step (by repeat (first | (with_reducible first | exact HB.out | apply below_alloc | apply pw_below_drewN | apply below_drew1) | exact HB.out)) hb);have n1_:=Aside0.mk (hbox);have n2_:=Aside0.mk ((by rw [hg];exact (below_size (by repeat (first | (with_reducible first | exact HB.out | apply below_alloc | apply pw_below_drewN | apply below_drew1) | exact HB.out))):w.heap.size ≤ gb374));have n3_:=Aside0.mk ((by rw [hg];exact (below_size (by repeat (first | (with_reducible first | exact HB.out | apply below_alloc | apply pw_below_drewN | apply below_drew1) | exact HB.out))):w.heap.size ≤ gb374));clear HB;have HB:=n0_;have BK374:=n1_;have GW374:=n2_;have GE374:=n3_;clear n0_ n1_ n2_ n3_;clear hb hbox hg) | ((with_reducible refine gate_dst (N:=3) rfl ?_);refine box_event ?hg (N:=3) ?hd (cs:=#[.int .i64 a1_0,.int .i64 a1_1,.float .f64 a1_2,.float .f64 a1_3,.int .i64 a1_4]) (t:=56) ?hr ?_;(case hd => rfl);(case hg => rfl);(case hr => first | (go_simp;done) | (go_simp;rfl));intro gb375 hg w5 hbox hb;have n0_:=Aside0.mk (blk_below (g:=gb374) (o:=.cells #[.int .i64 a0_0,.int .i64 a0_1,.float .f64 a0_2,.float .f64 a0_3,.int .i64 a0_4] 56 (0,0)) (by (with_reducible repeat (first | refine blk_drewN ?_ _ | refine blk_drew ?_ | refine blk_alloc ?_ _));exact BK374.out) hb);have n1_:=Aside0.mk (below_step (by repeat (first | (with_reducible first | exact HB.out | apply below_alloc | apply pw_below_drewN | apply below_drew1 | refine below_set ?_ GE374.out) | exact HB.out)) hb);have n2_:=Aside0.mk (hbox);have n3_:=Aside0.mk ((by rw [hg];exact (below_size (by repeat (first | (with_reducible first | exact HB.out | apply below_alloc | apply pw_below_drewN | apply below_drew1 | refine below_set ?_ GE374.out) | exact HB.out))):w.heap.size ≤ gb375));have n4_:=Aside0.mk ((by rw [hg];exact (below_size (by repeat (first | (with_reducible first | exact HB.out | apply below_alloc | apply pw_below_drewN | apply below_drew1 | refine below_set ?_ GE374.out) | exact HB.out))):w.heap.size ≤ gb375));have n5_:=Aside0.mk ((by rw [hg];exact Nat.ne_of_lt (blk_lt (g:=gb374) (o:=.cells #[.int .i64 a0_0,.int .i64 a0_1,.float .f64 a0_2,.float .f64 a0_3,.int .i64 a0_4] 56 (0,0)) (by (with_reducible repeat (first | refine blk_drewN ?_ _ | refine blk_drew ?_ | refine blk_alloc ?_ _));exact BK374.out)):gb374 ≠ gb375));have n6_:=Aside0.mk ((by rw [hg];exact Nat.ne_of_gt (blk_lt (g:=gb374) (o:=.cells #[.int .i64 a0_0,.int .i64 a0_1,.float .f64 a0_2,.float .f64 a0_3,.int .i64 a0_4] 56 (0,0)) (by (with_reducible repeat (first | refine blk_drewN ?_ _ | refine blk_drew ?_ | refine blk_alloc ?_ _));exact BK374.out)):gb375 ≠ gb374));clear BK374;clear HB;have BK374:=n0_;have HB:=n1_;have BK375:=n2_;have GW375:=n3_;have GE375:=n4_;have NB374_375:=n5_;have NB375_374:=n6_;clear n0_ n1_ n2_ n3_ n4_ n5_ n6_;clear hb hbox hg;have hnb6:=NB374_375.out;have hnc6:=NB375_374.out;have hcz7_0:w5.cell? ⟨gb374,0,none⟩ = some (.int .i64 a0_0):=(blk_cell BK374.out 0).trans rfl;have hcz7_1:w5.cell? ⟨gb374,1,none⟩ = some (.int .i64 a0_1):=(blk_cell BK374.out 1).trans rfl;have hcz7_2:w5.cell? ⟨gb374,2,none⟩ = some (.float .f64 a0_2):=(blk_cell BK374.out 2).trans rfl;have hcz7_3:w5.cell? ⟨gb374,3,none⟩ = some (.float .f64 a0_3):=(blk_cell BK374.out 3).trans rfl;have hcz7_4:w5.cell? ⟨gb374,4,none⟩ = some (.int .i64 a0_4):=(blk_cell BK374.out 4).trans rfl;have hfz7_0:=blk_frozen BK374.out 0;have hfz7_1:=blk_frozen BK374.out 1;have hfz7_2:=blk_frozen BK374.out 2;have hfz7_3:=blk_frozen BK374.out 3;have hfz7_4:=blk_frozen BK374.out 4;have hcz8_0:w5.cell? ⟨gb375,0,none⟩ = some (.int .i64 a1_0):=(blk_cell BK375.out 0).trans rfl;have hcz8_1:w5.cell? ⟨gb375,1,none⟩ = some (.int .i64 a1_1):=(blk_cell BK375.out 1).trans rfl;have hcz8_2:w5.cell? ⟨gb375,2,none⟩ = some (.float .f64 a1_2):=(blk_cell BK375.out 2).trans rfl;have hcz8_3:w5.cell? ⟨gb375,3,none⟩ = some (.float .f64 a1_3):=(blk_cell BK375.out 3).trans rfl;have hcz8_4:w5.cell? ⟨gb375,4,none⟩ = some (.int .i64 a1_4):=(blk_cell BK375.out 4).trans rfl;have hfz8_0:=blk_frozen BK375.out 0;have hfz8_1:=blk_frozen BK375.out 1;have hfz8_2:=blk_frozen BK375.out 2;have hfz8_3:=blk_frozen BK375.out 3;have hfz8_4:=blk_frozen BK375.out 4))
  go_ret
  exact ⟨by first | rfl | (simp [errW_none,errW_some] <;> rfl) | (simp [*,errW_none,errW_some] <;> rfl),by repeat (first | (with_reducible first | exact HB.out | apply below_alloc | apply pw_below_drewN | apply below_drew1 | refine below_set ?_ GE374.out | refine below_set ?_ GE375.out) | exact HB.out)⟩
 rw [if_neg c3] at H
 have c3b0:decide (a0_1 < a1_1) = false:=decide_eq_false c3
 clear c3
 by_cases c9:a0_1 = a1_1
 ·rw [if_pos c9] at H
  have c9b0:(a0_1 == a1_1) = true:=beq_iff_eq.mpr c9
  have c9b1:(a0_1 != a1_1) = false:=bne_eq_false_iff_eq.mpr c9
  clear c9
  obtain rfl:=Option.some.inj H
  go_enter Try.func153,Try.ntmps153
  go_wp2_with (first | ((with_reducible refine gate_dst (N:=2) rfl ?_);refine box_event ?hg (N:=2) ?hd (cs:=#[.int .i64 a0_0,.int .i64 a0_1,.float .f64 a0_2,.float .f64 a0_3,.int .i64 a0_4]) (t:=56) ?hr ?_;(case hd => rfl);(case hg => rfl);(case hr => first | (go_simp;done) | (go_simp;rfl));intro gb374 hg w10 hbox hb;have n0_:=Aside0.mk (below_step (by repeat (first | (with_reducible first | exact HB.out | apply below_alloc | apply pw_below_drewN | apply below_drew1) | exact HB.out)) hb);have n1_:=Aside0.mk (hbox);have n2_:=Aside0.mk ((by rw [hg];exact (below_size (by repeat (first | (with_reducible first | exact HB.out | apply below_alloc | apply pw_below_drewN | apply below_drew1) | exact HB.out))):w.heap.size ≤ gb374));have n3_:=Aside0.mk ((by rw [hg];exact (below_size (by repeat (first | (with_reducible first | exact HB.out | apply below_alloc | apply pw_below_drewN | apply below_drew1) | exact HB.out))):w.heap.size ≤ gb374));clear HB;have HB:=n0_;have BK374:=n1_;have GW374:=n2_;have GE374:=n3_;clear n0_ n1_ n2_ n3_;clear hb hbox hg) | ((with_reducible refine gate_dst (N:=3) rfl ?_);refine box_event ?hg (N:=3) ?hd (cs:=#[.int .i64 a1_0,.int .i64 a1_1,.float .f64 a1_2,.float .f64 a1_3,.int .i64 a1_4]) (t:=56) ?hr ?_;(case hd => rfl);(case hg => rfl);(case hr => first | (go_simp;done) | (go_simp;rfl));intro gb375 hg w11 hbox hb;have n0_:=Aside0.mk (blk_below (g:=gb374) (o:=.cells #[.int .i64 a0_0,.int .i64 a0_1,.float .f64 a0_2,.float .f64 a0_3,.int .i64 a0_4] 56 (0,0)) (by (with_reducible repeat (first | refine blk_drewN ?_ _ | refine blk_drew ?_ | refine blk_alloc ?_ _));exact BK374.out) hb);have n1_:=Aside0.mk (below_step (by repeat (first | (with_reducible first | exact HB.out | apply below_alloc | apply pw_below_drewN | apply below_drew1 | refine below_set ?_ GE374.out) | exact HB.out)) hb);have n2_:=Aside0.mk (hbox);have n3_:=Aside0.mk ((by rw [hg];exact (below_size (by repeat (first | (with_reducible first | exact HB.out | apply below_alloc | apply pw_below_drewN | apply below_drew1 | refine below_set ?_ GE374.out) | exact HB.out))):w.heap.size ≤ gb375));have n4_:=Aside0.mk ((by rw [hg];exact (below_size (by repeat (first | (with_reducible first | exact HB.out | apply below_alloc | apply pw_below_drewN | apply below_drew1 | refine below_set ?_ GE374.out) | exact HB.out))):w.heap.size ≤ gb375));have n5_:=Aside0.mk ((by rw [hg];exact Nat.ne_of_lt (blk_lt (g:=gb374) (o:=.cells #[.int .i64 a0_0,.int .i64 a0_1,.float .f64 a0_2,.float .f64 a0_3,.int .i64 a0_4] 56 (0,0)) (by (with_reducible repeat (first | refine blk_drewN ?_ _ | refine blk_drew ?_ | refine blk_alloc ?_ _));exact BK374.out)):gb374 ≠ gb375));have n6_:=Aside0.mk ((by rw [hg];exact Nat.ne_of_gt (blk_lt (g:=gb374) (o:=.cells #[.int .i64 a0_0,.int .i64 a0_1,.float .f64 a0_2,.float .f64 a0_3,.int .i64 a0_4] 56 (0,0)) (by (with_reducible repeat (first | refine blk_drewN ?_ _ | refine blk_drew ?_ | refine blk_alloc ?_ _));exact BK374.out)):gb375 ≠ gb374));clear BK374;clear HB;have BK374:=n0_;have HB:=n1_;have BK375:=n2_;have GW375:=n3_;have GE375:=n4_;have NB374_375:=n5_;have NB375_374:=n6_;clear n0_ n1_ n2_ n3_ n4_ n5_ n6_;clear hb hbox hg;have hnb12:=NB374_375.out;have hnc12:=NB375_374.out;have hcz13_0:w11.cell? ⟨gb374,0,none⟩ = some (.int .i64 a0_0):=(blk_cell BK374.out 0).trans rfl;have hcz13_1:w11.cell? ⟨gb374,1,none⟩ = some (.int .i64 a0_1):=(blk_cell BK374.out 1).trans rfl;have hcz13_2:w11.cell? ⟨gb374,2,none⟩ = some (.float .f64 a0_2):=(blk_cell BK374.out 2).trans rfl;have hcz13_3:w11.cell? ⟨gb374,3,none⟩ = some (.float .f64 a0_3):=(blk_cell BK374.out 3).trans rfl;have hcz13_4:w11.cell? ⟨gb374,4,none⟩ = some (.int .i64 a0_4):=(blk_cell BK374.out 4).trans rfl;have hfz13_0:=blk_frozen BK374.out 0;have hfz13_1:=blk_frozen BK374.out 1;have hfz13_2:=blk_frozen BK374.out 2;have hfz13_3:=blk_frozen BK374.out 3;have hfz13_4:=blk_frozen BK374.out 4;have hcz14_0:w11.cell? ⟨gb375,0,none⟩ = some (.int .i64 a1_0):=(blk_cell BK375.out 0).trans rfl;have hcz14_1:w11.cell? ⟨gb375,1,none⟩ = some (.int .i64 a1_1):=(blk_cell BK375.out 1).trans rfl;have hcz14_2:w11.cell? ⟨gb375,2,none⟩ = some (.float .f64 a1_2):=(blk_cell BK375.out 2).trans rfl;have hcz14_3:w11.cell? ⟨gb375,3,none⟩ = some (.float .f64 a1_3):=(blk_cell BK375.out 3).trans rfl;have hcz14_4:w11.cell? ⟨gb375,4,none⟩ = some (.int .i64 a1_4):=(blk_cell BK375.out 4).trans rfl;have hfz14_0:=blk_frozen BK375.out 0;have hfz14_1:=blk_frozen BK375.out 1;have hfz14_2:=blk_frozen BK375.out 2;have hfz14_3:=blk_frozen BK375.out 3;have hfz14_4:=blk_frozen BK375.out 4))
  go_ret
  exact ⟨by first | rfl | (simp [errW_none,errW_some] <;> rfl) | (simp [*,errW_none,errW_some] <;> rfl),by repeat (first | (with_reducible first | exact HB.out | apply below_alloc | apply pw_below_drewN | apply below_drew1 | refine below_set ?_ GE374.out | refine below_set ?_ GE375.out) | exact HB.out)⟩
 rw [if_neg c9] at H
 have c9b0:(a0_1 == a1_1) = false:=beq_eq_false_iff_ne.mpr c9
 have c9b1:(a0_1 != a1_1) = true:=bne_iff_ne.mpr c9
 obtain rfl:=Option.some.inj H
 go_enter Try.func153,Try.ntmps153
 go_wp2_with (first | ((with_reducible refine gate_dst (N:=2) rfl ?_);refine box_event ?hg (N:=2) ?hd (cs:=#[.int .i64 a0_0,.int .i64 a0_1,.float .f64 a0_2,.float .f64 a0_3,.int .i64 a0_4]) (t:=56) ?hr ?_;(case hd => rfl);(case hg => rfl);(case hr => first | (go_simp;done) | (go_simp;rfl));intro gb374 hg w15 hbox hb;have n0_:=Aside0.mk (below_step (by repeat (first | (with_reducible first | exact HB.out | apply below_alloc | apply pw_below_drewN | apply below_drew1) | exact HB.out)) hb);have n1_:=Aside0.mk (hbox);have n2_:=Aside0.mk ((by rw [hg];exact (below_size (by repeat (first | (with_reducible first | exact HB.out | apply below_alloc | apply pw_below_drewN | apply below_drew1) | exact HB.out))):w.heap.size ≤ gb374));have n3_:=Aside0.mk ((by rw [hg];exact (below_size (by repeat (first | (with_reducible first | exact HB.out | apply below_alloc | apply pw_below_drewN | apply below_drew1) | exact HB.out))):w.heap.size ≤ gb374));clear HB;have HB:=n0_;have BK374:=n1_;have GW374:=n2_;have GE374:=n3_;clear n0_ n1_ n2_ n3_;clear hb hbox hg) | ((with_reducible refine gate_dst (N:=3) rfl ?_);refine box_event ?hg (N:=3) ?hd (cs:=#[.int .i64 a1_0,.int .i64 a1_1,.float .f64 a1_2,.float .f64 a1_3,.int .i64 a1_4]) (t:=56) ?hr ?_;(case hd => rfl);(case hg => rfl);(case hr => first | (go_simp;done) | (go_simp;rfl));intro gb375 hg w16 hbox hb;have n0_:=Aside0.mk (blk_below (g:=gb374) (o:=.cells #[.int .i64 a0_0,.int .i64 a0_1,.float .f64 a0_2,.float .f64 a0_3,.int .i64 a0_4] 56 (0,0)) (by (with_reducible repeat (first | refine blk_drewN ?_ _ | refine blk_drew ?_ | refine blk_alloc ?_ _));exact BK374.out) hb);have n1_:=Aside0.mk (below_step (by repeat (first | (with_reducible first | exact HB.out | apply below_alloc | apply pw_below_drewN | apply below_drew1 | refine below_set ?_ GE374.out) | exact HB.out)) hb);have n2_:=Aside0.mk (hbox);have n3_:=Aside0.mk ((by rw [hg];exact (below_size (by repeat (first | (with_reducible first | exact HB.out | apply below_alloc | apply pw_below_drewN | apply below_drew1 | refine below_set ?_ GE374.out) | exact HB.out))):w.heap.size ≤ gb375));have n4_:=Aside0.mk ((by rw [hg];exact (below_size (by repeat (first | (with_reducible first | exact HB.out | apply below_alloc | apply pw_below_drewN | apply below_drew1 | refine below_set ?_ GE374.out) | exact HB.out))):w.heap.size ≤ gb375));have n5_:=Aside0.mk ((by rw [hg];exact Nat.ne_of_lt (blk_lt (g:=gb374) (o:=.cells #[.int .i64 a0_0,.int .i64 a0_1,.float .f64 a0_2,.float .f64 a0_3,.int .i64 a0_4] 56 (0,0)) (by (with_reducible repeat (first | refine blk_drewN ?_ _ | refine blk_drew ?_ | refine blk_alloc ?_ _));exact BK374.out)):gb374 ≠ gb375));have n6_:=Aside0.mk ((by rw [hg];exact Nat.ne_of_gt (blk_lt (g:=gb374) (o:=.cells #[.int .i64 a0_0,.int .i64 a0_1,.float .f64 a0_2,.float .f64 a0_3,.int .i64 a0_4] 56 (0,0)) (by (with_reducible repeat (first | refine blk_drewN ?_ _ | refine blk_drew ?_ | refine blk_alloc ?_ _));exact BK374.out)):gb375 ≠ gb374));clear BK374;clear HB;have BK374:=n0_;have HB:=n1_;have BK375:=n2_;have GW375:=n3_;have GE375:=n4_;have NB374_375:=n5_;have NB375_374:=n6_;clear n0_ n1_ n2_ n3_ n4_ n5_ n6_;clear hb hbox hg;have hnb17:=NB374_375.out;have hnc17:=NB375_374.out;have hcz18_0:w16.cell? ⟨gb374,0,none⟩ = some (.int .i64 a0_0):=(blk_cell BK374.out 0).trans rfl;have hcz18_1:w16.cell? ⟨gb374,1,none⟩ = some (.int .i64 a0_1):=(blk_cell BK374.out 1).trans rfl;have hcz18_2:w16.cell? ⟨gb374,2,none⟩ = some (.float .f64 a0_2):=(blk_cell BK374.out 2).trans rfl;have hcz18_3:w16.cell? ⟨gb374,3,none⟩ = some (.float .f64 a0_3):=(blk_cell BK374.out 3).trans rfl;have hcz18_4:w16.cell? ⟨gb374,4,none⟩ = some (.int .i64 a0_4):=(blk_cell BK374.out 4).trans rfl;have hfz18_0:=blk_frozen BK374.out 0;have hfz18_1:=blk_frozen BK374.out 1;have hfz18_2:=blk_frozen BK374.out 2;have hfz18_3:=blk_frozen BK374.out 3;have hfz18_4:=blk_frozen BK374.out 4;have hcz19_0:w16.cell? ⟨gb375,0,none⟩ = some (.int .i64 a1_0):=(blk_cell BK375.out 0).trans rfl;have hcz19_1:w16.cell? ⟨gb375,1,none⟩ = some (.int .i64 a1_1):=(blk_cell BK375.out 1).trans rfl;have hcz19_2:w16.cell? ⟨gb375,2,none⟩ = some (.float .f64 a1_2):=(blk_cell BK375.out 2).trans rfl;have hcz19_3:w16.cell? ⟨gb375,3,none⟩ = some (.float .f64 a1_3):=(blk_cell BK375.out 3).trans rfl;have hcz19_4:w16.cell? ⟨gb375,4,none⟩ = some (.int .i64 a1_4):=(blk_cell BK375.out 4).trans rfl;have hfz19_0:=blk_frozen BK375.out 0;have hfz19_1:=blk_frozen BK375.out 1;have hfz19_2:=blk_frozen BK375.out 2;have hfz19_3:=blk_frozen BK375.out 3;have hfz19_4:=blk_frozen BK375.out 4))
 go_ret
 exact ⟨by first | rfl | (simp [errW_none,errW_some] <;> rfl) | (simp [*,errW_none,errW_some] <;> rfl),by repeat (first | (with_reducible first | exact HB.out | apply below_alloc | apply pw_below_drewN | apply below_drew1 | refine below_set ?_ GE374.out | refine below_set ?_ GE375.out) | exact HB.out)⟩
def delta_told.l0:Nat → List (S56) → Int → Option (Bool)
 | 0,_,_ => none
 | k + 1,x0,x3 => if x3 < (x0.length:Int) then (if 0 ≤ x3 then (if x3 ≤ (mn (wrap64 (x3 + 512)) (x0.length:Int)) then (if (mn (wrap64 (x3 + 512)) (x0.length:Int)) ≤ (x0.length:Int) then ((message_Check.f k 2 1 1 1 ((x0.take ((mn (wrap64 (x3 + 512)) (x0.length:Int)):Int).toNat).drop (x3:Int).toNat) 0 0 0 0 0 0 0 0 (⟨#[]⟩:ByteArray) 0 0 (⟨#[]⟩:ByteArray)).bind fun t380 => (if t380 = 0 then (if x3 > 0 then (if 0 ≤ (wrap64 (x3 - 1)) then (if (wrap64 (x3 - 1)) < (x0.length:Int) then ((delta_ahead.f ((rd_T56 x0 (wrap64 (x3 - 1))).f0) ((rd_T56 x0 (wrap64 (x3 - 1))).f1) ((rd_T56 x0 (wrap64 (x3 - 1))).f2) ((rd_T56 x0 (wrap64 (x3 - 1))).f3) ((rd_T56 x0 (wrap64 (x3 - 1))).f4) ((rd_T56 x0 x3).f0) ((rd_T56 x0 x3).f1) ((rd_T56 x0 x3).f2) ((rd_T56 x0 x3).f3) ((rd_T56 x0 x3).f4)).bind fun t383 => (if t383 = true then (delta_told.l0 k x0 (wrap64 (x3 + 512))) else (some false))) else (none)) else (none)) else (delta_told.l0 k x0 (wrap64 (x3 + 512)))) else (some false))) else (none)) else (none)) else (none)) else (some true)
def delta_told.f (k:Nat) (l0:List (S56)):Option (Bool):=delta_told.l0 k l0 0
def delta_told.T7:Bool × List (List Nat × List Nat):=(true,[([],[]),([0],[0]),([1],[1]),([2],[2]),([2],[2]),([4,2],[2,4]),([3,5,2],[2,3,5]),([6,2],[2,6]),([2],[2]),([2],[2]),([8,9,2],[2,8,9]),([10,2],[2,10]),([7,11,2,2],[2,7,11]),([12,2],[2,12]),([2,13],[2,13])])
def delta_told.B7:List Nat:=[0,1,3,7,7,23,63,127,7,7,775,1799,4095,8191,16383]
theorem delta_told.tab7:rtab .any (opsOf Try.f137 7) = delta_told.T7:=by kernel_rfl
theorem delta_told.bits7:waitsOk delta_told.T7.2 delta_told.B7 = true:=by kernel_rfl
set_option maxHeartbeats 8000000 in
set_option maxRecDepth 100000 in
theorem delta_told.calls (k:Nat) (A0:Option Addr) (c0:Nat) (l0:List (S56)) (r:Bool) (w:World) (hr0:Kd.C k56 w A0 l0.length l0) (hc0:l0.length ≤ c0) (h:delta_told.f k l0 = some r) :
  Calls Try.prog 137 #[.slice A0 l0.length c0] w fun e w' => e = .returned (.bool r) ∧ Below w.heap.size w w':=by
 have hu118:=Try.underlying118
 have hu56:=Try.underlying56
 have HR0:=Aside0.mk hr0
 have HC0:=Aside0.mk hc0
 clear hr0 hc0
 have HB:=Aside0.mk (Below.refl w.heap.size w)
 have H:(delta_told.l0 k l0 0) = some r:=h
 clear h
 have H':=Aside0.mk H
 clear H
 go_enter Try.func137,Try.ntmps137
 go_wp2
 go_loopg [3] k (fun kq v3 w' => ∃ (x3_1:Int),v3 = .int .i64 x3_1 ∧ Aside0 (delta_told.l0 kq l0 x3_1 = some r) ∧ Aside0 (kq ≤ k) ∧ Aside0 (Below w.heap.size w w'))
 case atStart => exact ⟨(0),(by first | rfl | (simp;done) | (simp [*];done)),H',⟨Nat.le_refl _⟩,⟨by repeat (first | (with_reducible first | exact HB.out | apply below_alloc | apply pw_below_drewN | apply below_drew1) | exact HB.out)⟩⟩
 case round =>
  clear H'
  obtain ⟨x3_1,rfl,HA,HK1,HB⟩:=hrel
  cases gk with
  | zero => exact absurd HA.out (by simp [delta_told.l0])
  | succ k1 =>
   have H:=HA.out
   clear HA
   simp only [delta_told.l0] at H
   by_cases c2:x3_1 < (l0.length:Int)
   rotate_left
   ·rw [if_neg c2] at H
    have c2b0:decide (x3_1 < (l0.length:Int)) = false:=decide_eq_false c2
    clear c2
    obtain rfl:=Option.some.inj H
    go_wp2
    go_ret
    exact ⟨by first | rfl | (simp [errW_none,errW_some] <;> rfl) | (simp [*,errW_none,errW_some] <;> rfl),by repeat (first | (with_reducible first | exact HB.out | apply below_alloc | apply pw_below_drewN | apply below_drew1) | exact HB.out)⟩
   rw [if_pos c2] at H
   have c2b0:decide (x3_1 < (l0.length:Int)) = true:=decide_eq_true c2
   clear c2
   obtain ⟨ji3,hji3⟩:∃ j_:Int,(mn (wrap64 (x3_1 + 512)) (l0.length:Int)) = j_:=⟨_,rfl⟩
   replace H:(if 0 ≤ x3_1 then (if x3_1 ≤ (ji3) then (if (ji3) ≤ (l0.length:Int) then ((message_Check.f k1 2 1 1 1 ((l0.take ((ji3):Int).toNat).drop (x3_1:Int).toNat) 0 0 0 0 0 0 0 0 (⟨#[]⟩:ByteArray) 0 0 (⟨#[]⟩:ByteArray)).bind fun t380 => (if t380 = 0 then (if x3_1 > 0 then (if 0 ≤ (wrap64 (x3_1 - 1)) then (if (wrap64 (x3_1 - 1)) < (l0.length:Int) then ((delta_ahead.f ((rd_T56 l0 (wrap64 (x3_1 - 1))).f0) ((rd_T56 l0 (wrap64 (x3_1 - 1))).f1) ((rd_T56 l0 (wrap64 (x3_1 - 1))).f2) ((rd_T56 l0 (wrap64 (x3_1 - 1))).f3) ((rd_T56 l0 (wrap64 (x3_1 - 1))).f4) ((rd_T56 l0 x3_1).f0) ((rd_T56 l0 x3_1).f1) ((rd_T56 l0 x3_1).f2) ((rd_T56 l0 x3_1).f3) ((rd_T56 l0 x3_1).f4)).bind fun t383 => (if t383 = true then (delta_told.l0 k1 l0 (wrap64 (x3_1 + 512))) else (some false))) else (none)) else (none)) else (delta_told.l0 k1 l0 (wrap64 (x3_1 + 512)))) else (some false))) else (none)) else (none)) else (none)) = some r:=by first | (rw [hji3] at H;exact H) | (simp only [hji3] at H ⊢;exact H)
   have hji3_:(if (l0.length:Int) < (wrap64 (x3_1 + 512)) then (l0.length:Int) else (wrap64 (x3_1 + 512))) = ji3:=hji3
   by_cases c4:0 ≤ x3_1
   rotate_left
   ·rw [if_neg c4] at H
    exact absurd H (by simp)
   rw [if_pos c4] at H
   have c4b0:=eq_true c4
   have c4b1:decide (0 ≤ x3_1) = true:=decide_eq_true c4
   clear c4
   by_cases c5:x3_1 ≤ (ji3)
   rotate_left
   ·rw [if_neg c5] at H
    exact absurd H (by simp)
   rw [if_pos c5] at H
   have c5b0:=eq_true c5
   have c5b1:decide (x3_1 ≤ (ji3)) = true:=decide_eq_true c5
   clear c5
   by_cases c6:(ji3) ≤ (l0.length:Int)
   rotate_left
   ·rw [if_neg c6] at H
    exact absurd H (by simp)
   rw [if_pos c6] at H
   have c6b0:=eq_true c6
   have c6b1:decide ((ji3) ≤ (l0.length:Int)) = true:=decide_eq_true c6
   clear c6
   obtain ⟨y376,hy376⟩:∃ y_:List (S56),y_ = ((l0.take ((ji3):Int).toNat).drop (x3_1:Int).toNat):=⟨_,rfl⟩
   replace H:((message_Check.f k1 2 1 1 1 y376 0 0 0 0 0 0 0 0 (⟨#[]⟩:ByteArray) 0 0 (⟨#[]⟩:ByteArray)).bind fun t380 => (if t380 = 0 then (if x3_1 > 0 then (if 0 ≤ (wrap64 (x3_1 - 1)) then (if (wrap64 (x3_1 - 1)) < (l0.length:Int) then ((delta_ahead.f ((rd_T56 l0 (wrap64 (x3_1 - 1))).f0) ((rd_T56 l0 (wrap64 (x3_1 - 1))).f1) ((rd_T56 l0 (wrap64 (x3_1 - 1))).f2) ((rd_T56 l0 (wrap64 (x3_1 - 1))).f3) ((rd_T56 l0 (wrap64 (x3_1 - 1))).f4) ((rd_T56 l0 x3_1).f0) ((rd_T56 l0 x3_1).f1) ((rd_T56 l0 x3_1).f2) ((rd_T56 l0 x3_1).f3) ((rd_T56 l0 x3_1).f4)).bind fun t383 => (if t383 = true then (delta_told.l0 k1 l0 (wrap64 (x3_1 + 512))) else (some false))) else (none)) else (none)) else (delta_told.l0 k1 l0 (wrap64 (x3_1 + 512)))) else (some false))) = some r:=by first | (rw [hy376];with_reducible exact H) | (have H2_:=(Option.bind_some _ _).symm.trans H;rw [hy376];with_reducible exact H2_) | (have H2_:=(Option.bind_some _ _).symm.trans H;with_reducible exact H2_) | with_reducible exact H | (rw [hy376];exact H) | exact H
   have Ny376:=Aside0.mk hy376
   clear hy376
   replace H:=Option.bind_eq_some_iff.mp H
   obtain ⟨t380,A70,H⟩:=H
   replace H:(if t380 = 0 then (if x3_1 > 0 then (if 0 ≤ (wrap64 (x3_1 - 1)) then (if (wrap64 (x3_1 - 1)) < (l0.length:Int) then ((delta_ahead.f ((rd_T56 l0 (wrap64 (x3_1 - 1))).f0) ((rd_T56 l0 (wrap64 (x3_1 - 1))).f1) ((rd_T56 l0 (wrap64 (x3_1 - 1))).f2) ((rd_T56 l0 (wrap64 (x3_1 - 1))).f3) ((rd_T56 l0 (wrap64 (x3_1 - 1))).f4) ((rd_T56 l0 x3_1).f0) ((rd_T56 l0 x3_1).f1) ((rd_T56 l0 x3_1).f2) ((rd_T56 l0 x3_1).f3) ((rd_T56 l0 x3_1).f4)).bind fun t383 => (if t383 = true then (delta_told.l0 k1 l0 (wrap64 (x3_1 + 512))) else (some false))) else (none)) else (none)) else (delta_told.l0 k1 l0 (wrap64 (x3_1 + 512)))) else (some false)) = some r:=H
   have A7:=Aside0.mk A70
   clear A70
   by_cases c8:t380 = 0
   rotate_left
   ·rw [if_neg c8] at H
    have c8b0:(t380 == 0) = false:=beq_eq_false_iff_ne.mpr c8
    have c8b1:(t380 != 0) = true:=bne_iff_ne.mpr c8
    obtain rfl:=Option.some.inj H
    have q26:((ji3):Int) ≤ ((l0.length:Int):Int):=of_decide_eq_true (by first | (with_reducible assumption) | assumption)
    obtain ⟨i026,hi026,_,hsz26,_⟩:=info_parts info56
    have hroom26:l0.length ≤ c0:=HC0.out
    have hC26:Kd.C k56 _ A0 l0.length l0:=HR0.out
    have ql26:(x3_1:Int) ≤ ((ji3):Int):=of_decide_eq_true (by first | (with_reducible assumption) | assumption)
    have q026:(0:Int) ≤ (x3_1:Int):=of_decide_eq_true (by first | (with_reducible assumption) | assumption)
    have hcut26:=cut_mid (P:=Try.prog) 35 56 .i64 .i64 Try.underlying35 hi026 5 hsz26 A0 l0.length c0 x3_1 (ji3) q026 ql26 q26 hroom26
    have hr26:=Kd.C_mid (lo:=(x3_1:Int).toNat) (hi:=((ji3):Int).toNat) (c:=c0) hC26 (by omega) (by omega) hroom26
    obtain ⟨A26,hA26⟩:∃ A1,A1 = (if c0 = (x3_1:Int).toNat then A0 else (A0:Option Addr).map (·.add ((x3_1:Int).toNat * 5))):=⟨_,rfl⟩
    obtain ⟨c26,hc26⟩:∃ c1,c1 = c0 - (x3_1:Int).toNat:=⟨_,rfl⟩
    have hy26:y376.length = ((ji3):Int).toNat - (x3_1:Int).toNat:=(by rw [Ny376.out,List.length_drop,List.length_take] <;> omega)
    rw [show ((l0).take ((ji3):Int).toNat).drop (x3_1:Int).toNat = y376 from Ny376.out.symm] at hr26
    replace hr26:Kd.C k56 _ A26 y376.length y376:=(by rw [hA26];exact hr26)
    rw [← hy26,← hA26,← hc26] at hcut26
    have HR379:=Aside0.mk hr26
    have HC379:=Aside0.mk (show y376.length ≤ c26 from by rw [hy26,hc26];exact Nat.sub_le_sub_right (Nat.le_trans (by omega) hroom26) _)
    clear hr26 hC26 hroom26 hi026 hsz26 hc26
    have KY26:=Aside0.mk hy26
    have KA26:=Aside0.mk hA26
    clear hy26 hA26
    replace q26:=eq_true q26
    go_wp2_with (first | ((with_reducible refine gate_callee (f:=109) rfl ?_);refine goesL_ (some 21) rfl rfl Try.func109 (by kernel_rfl) rfl #[.agg #[.int .i64 2,.int .u64 1,.int .u64 1,.int .u64 1,.slice A26 y376.length c26,.int .i64 0,.int .i64 0,.int .i64 0,.int .i64 0,.int .i64 0,.int .i64 0,.int .u64 0,.int .i64 0,.string (⟨#[]⟩:ByteArray),.int .i64 0,.int .i64 0,.string (⟨#[]⟩:ByteArray)]] rfl (by (try simp only [List.map_toArray,List.map_cons,List.map_nil]);first | done | rfl | (simp only [List.length_drop,List.length_take];rfl)) ?_;(with_reducible refine (message_Check.calls k1 2 1 1 1 _ _ y376 0 0 0 0 0 0 0 0 (⟨#[]⟩:ByteArray) 0 0 (⟨#[]⟩:ByteArray) t380 _ ?side1 ?side2 A7.out).mono ?_);(case side1 => repeat (first | exact (Kd.C_below HR379.out HB.out) | (with_reducible refine Kd.C_alloc ?_ _) | (with_reducible refine Kd.C_drewN ?_ _) | (with_reducible refine Kd.C_drew ?_)));(case side2 => exact HC379.out);rintro e w27 ⟨rfl,hb⟩;refine ⟨_,rfl,?_⟩;have n0_:=Aside0.mk (below_step (by repeat (first | (with_reducible first | exact HB.out | apply below_alloc | apply pw_below_drewN | apply below_drew1) | exact HB.out)) hb);clear HB;have HB:=n0_;clear n0_;(try clear hb);(try clear hb2);(try clear hk);(try clear hi)))
    go_ret
    exact ⟨by first | rfl | (simp [errW_none,errW_some] <;> rfl) | (simp only [← hji3];first | rfl | (simp [errW_none,errW_some] <;> rfl)) | (simp [*,errW_none,errW_some] <;> rfl),by repeat (first | (with_reducible first | exact HB.out | apply below_alloc | apply pw_below_drewN | apply below_drew1) | exact HB.out)⟩
   rw [if_pos c8] at H
   have c8b0:(t380 == 0) = true:=beq_iff_eq.mpr c8
   have c8b1:(t380 != 0) = false:=bne_eq_false_iff_eq.mpr c8
   clear c8
   by_cases c9:x3_1 > 0
   rotate_left
   ·rw [if_neg c9] at H
    have c9b0:decide (0 < x3_1) = false:=decide_eq_false c9
    clear c9
    have H':=Aside0.mk H
    clear H
    have q23:((ji3):Int) ≤ ((l0.length:Int):Int):=of_decide_eq_true (by first | (with_reducible assumption) | assumption)
    obtain ⟨i023,hi023,_,hsz23,_⟩:=info_parts info56
    have hroom23:l0.length ≤ c0:=HC0.out
    have hC23:Kd.C k56 _ A0 l0.length l0:=HR0.out
    have ql23:(x3_1:Int) ≤ ((ji3):Int):=of_decide_eq_true (by first | (with_reducible assumption) | assumption)
    have q023:(0:Int) ≤ (x3_1:Int):=of_decide_eq_true (by first | (with_reducible assumption) | assumption)
    have hcut23:=cut_mid (P:=Try.prog) 35 56 .i64 .i64 Try.underlying35 hi023 5 hsz23 A0 l0.length c0 x3_1 (ji3) q023 ql23 q23 hroom23
    have hr23:=Kd.C_mid (lo:=(x3_1:Int).toNat) (hi:=((ji3):Int).toNat) (c:=c0) hC23 (by omega) (by omega) hroom23
    obtain ⟨A23,hA23⟩:∃ A1,A1 = (if c0 = (x3_1:Int).toNat then A0 else (A0:Option Addr).map (·.add ((x3_1:Int).toNat * 5))):=⟨_,rfl⟩
    obtain ⟨c23,hc23⟩:∃ c1,c1 = c0 - (x3_1:Int).toNat:=⟨_,rfl⟩
    have hy23:y376.length = ((ji3):Int).toNat - (x3_1:Int).toNat:=(by rw [Ny376.out,List.length_drop,List.length_take] <;> omega)
    rw [show ((l0).take ((ji3):Int).toNat).drop (x3_1:Int).toNat = y376 from Ny376.out.symm] at hr23
    replace hr23:Kd.C k56 _ A23 y376.length y376:=(by rw [hA23];exact hr23)
    rw [← hy23,← hA23,← hc23] at hcut23
    have HR379:=Aside0.mk hr23
    have HC379:=Aside0.mk (show y376.length ≤ c23 from by rw [hy23,hc23];exact Nat.sub_le_sub_right (Nat.le_trans (by omega) hroom23) _)
    clear hr23 hC23 hroom23 hi023 hsz23 hc23
    have KY23:=Aside0.mk hy23
    have KA23:=Aside0.mk hA23
    clear hy23 hA23
    replace q23:=eq_true q23
    try go_wp2_with (first | ((with_reducible refine gate_callee (f:=109) rfl ?_);refine goesL_ (some 21) rfl rfl Try.func109 (by kernel_rfl) rfl #[.agg #[.int .i64 2,.int .u64 1,.int .u64 1,.int .u64 1,.slice A23 y376.length c23,.int .i64 0,.int .i64 0,.int .i64 0,.int .i64 0,.int .i64 0,.int .i64 0,.int .u64 0,.int .i64 0,.string (⟨#[]⟩:ByteArray),.int .i64 0,.int .i64 0,.string (⟨#[]⟩:ByteArray)]] rfl (by (try simp only [List.map_toArray,List.map_cons,List.map_nil]);first | done | rfl | (simp only [List.length_drop,List.length_take];rfl)) ?_;(with_reducible refine (message_Check.calls k1 2 1 1 1 _ _ y376 0 0 0 0 0 0 0 0 (⟨#[]⟩:ByteArray) 0 0 (⟨#[]⟩:ByteArray) t380 _ ?side1 ?side2 A7.out).mono ?_);(case side1 => repeat (first | exact (Kd.C_below HR379.out HB.out) | (with_reducible refine Kd.C_alloc ?_ _) | (with_reducible refine Kd.C_drewN ?_ _) | (with_reducible refine Kd.C_drew ?_)));(case side2 => exact HC379.out);rintro e w24 ⟨rfl,hb⟩;refine ⟨_,rfl,?_⟩;have n0_:=Aside0.mk (below_step (by repeat (first | (with_reducible first | exact HB.out | apply below_alloc | apply pw_below_drewN | apply below_drew1) | exact HB.out)) hb);clear HB;have HB:=n0_;clear n0_;(try clear hb);(try clear hb2);(try clear hk);(try clear hi)))
    have n0_:=Aside0.mk (below_drew1 HB.out)
    clear HB
    have HB:=n0_
    clear n0_
    refine start_ (n:=15) (S:=fun w' => True) (ds:=[]) #[false,false,false,false,false,false,false,false,false,false,false,false,false,false,false] (by kernel_rfl) rfl rfl trivial (fun hHeld => ?_);refine with_tabW delta_told.tab7 delta_told.bits7 (fun HT_ HW_ => ?_)
    generalize w24.drew = w25 at HB hHeld ⊢
    refine manyT_ (fuel:=0) (a':=?_) ((0,0) :: (1,0) :: (2,0) :: (3,1) :: (4,1) :: (5,1) :: (6,1) :: (7,1) :: (8,1) :: (9,1) :: (10,1) :: (11,1) :: (12,1) :: (13,1) :: (14,0) :: []) #[true,true,true,true,true,true,true,true,true,true,true,true,true,true,true] rfl HT_ (by kernel_rfl) (fun _ _ _ _ _ h => h) (fun h => absurd h (by decide)) ?_ ?_
    rotate_left
    ·repeat (first | exact Chain.nil _ | (apply Chain.on;rfl;rfl;(focus intro w';go_simp;with_reducible rfl);(focus simp only [Act.put,List.setIfInBounds_toArray,List.set_cons_zero,List.set_cons_succ,i64_w,i32_w];rfl)) | (apply Chain.off;rfl;rfl;(focus simp only [Act.put,List.setIfInBounds_toArray,List.set_cons_zero,List.set_cons_succ,i64_w,i32_w];rfl)))
    refine done_ (done_of HT_.out (by kernel_rfl)) ?_
    try go_wp2
    go_roundg k1
    case measure => have:=HK1.out;omega
    case rel => exact ⟨(wrap64 (x3_1 + 512)),(by first | rfl | (simp;done) | (simp [*];done)),H',⟨by have:=HK1.out;omega⟩,⟨by repeat (first | (with_reducible first | exact HB.out | apply below_alloc | apply pw_below_drewN | apply below_drew1) | exact HB.out)⟩⟩
   rw [if_pos c9] at H
   have c9b0:decide (0 < x3_1) = true:=decide_eq_true c9
   clear c9
   obtain ⟨ji10,hji10⟩:∃ j_:Int,(wrap64 (x3_1 - 1)) = j_:=⟨_,rfl⟩
   replace H:(if 0 ≤ (ji10) then (if (ji10) < (l0.length:Int) then ((delta_ahead.f ((rd_T56 l0 (ji10)).f0) ((rd_T56 l0 (ji10)).f1) ((rd_T56 l0 (ji10)).f2) ((rd_T56 l0 (ji10)).f3) ((rd_T56 l0 (ji10)).f4) ((rd_T56 l0 x3_1).f0) ((rd_T56 l0 x3_1).f1) ((rd_T56 l0 x3_1).f2) ((rd_T56 l0 x3_1).f3) ((rd_T56 l0 x3_1).f4)).bind fun t383 => (if t383 = true then (delta_told.l0 k1 l0 (wrap64 (x3_1 + 512))) else (some false))) else (none)) else (none)) = some r:=by first | (rw [hji10] at H;exact H) | (simp only [hji10] at H ⊢;exact H)
   (try rw [hji10] at A7)
   have hji10w:(IntKind.i64.wrap (x3_1 - 1)) = ji10:=(i64_w _).trans hji10
   by_cases c11:0 ≤ (ji10)
   rotate_left
   ·rw [if_neg c11] at H
    exact absurd H (by simp)
   rw [if_pos c11] at H
   have c11b0:decide (0 ≤ (ji10)) = true:=decide_eq_true c11
   clear c11
   by_cases c12:(ji10) < (l0.length:Int)
   rotate_left
   ·rw [if_neg c12] at H
    exact absurd H (by simp)
   rw [if_pos c12] at H
   have c12b0:decide ((ji10) < (l0.length:Int)) = true:=decide_eq_true c12
   clear c12
   replace H:=Option.bind_eq_some_iff.mp H
   obtain ⟨t383,A130,H⟩:=H
   replace H:(if t383 = true then (delta_told.l0 k1 l0 (wrap64 (x3_1 + 512))) else (some false)) = some r:=H
   have A13:=Aside0.mk A130
   clear A130
   by_cases c14:t383 = true
   ·subst c14
    have H1:(delta_told.l0 k1 l0 (wrap64 (x3_1 + 512))) = some r:=by rw [if_pos rfl] at H;exact H
    clear H
    have H:=H1
    clear H1
    have H':=Aside0.mk H
    clear H
    have q15:((ji3):Int) ≤ ((l0.length:Int):Int):=of_decide_eq_true (by first | (with_reducible assumption) | assumption)
    obtain ⟨i015,hi015,_,hsz15,_⟩:=info_parts info56
    have hroom15:l0.length ≤ c0:=HC0.out
    have hC15:Kd.C k56 _ A0 l0.length l0:=HR0.out
    have ql15:(x3_1:Int) ≤ ((ji3):Int):=of_decide_eq_true (by first | (with_reducible assumption) | assumption)
    have q015:(0:Int) ≤ (x3_1:Int):=of_decide_eq_true (by first | (with_reducible assumption) | assumption)
    have hcut15:=cut_mid (P:=Try.prog) 35 56 .i64 .i64 Try.underlying35 hi015 5 hsz15 A0 l0.length c0 x3_1 (ji3) q015 ql15 q15 hroom15
    have hr15:=Kd.C_mid (lo:=(x3_1:Int).toNat) (hi:=((ji3):Int).toNat) (c:=c0) hC15 (by omega) (by omega) hroom15
    obtain ⟨A15,hA15⟩:∃ A1,A1 = (if c0 = (x3_1:Int).toNat then A0 else (A0:Option Addr).map (·.add ((x3_1:Int).toNat * 5))):=⟨_,rfl⟩
    obtain ⟨c15,hc15⟩:∃ c1,c1 = c0 - (x3_1:Int).toNat:=⟨_,rfl⟩
    have hy15:y376.length = ((ji3):Int).toNat - (x3_1:Int).toNat:=(by rw [Ny376.out,List.length_drop,List.length_take] <;> omega)
    rw [show ((l0).take ((ji3):Int).toNat).drop (x3_1:Int).toNat = y376 from Ny376.out.symm] at hr15
    replace hr15:Kd.C k56 _ A15 y376.length y376:=(by rw [hA15];exact hr15)
    rw [← hy15,← hA15,← hc15] at hcut15
    have HR379:=Aside0.mk hr15
    have HC379:=Aside0.mk (show y376.length ≤ c15 from by rw [hy15,hc15];exact Nat.sub_le_sub_right (Nat.le_trans (by omega) hroom15) _)
    clear hr15 hC15 hroom15 hi015 hsz15 hc15
    have KY15:=Aside0.mk hy15
    have KA15:=Aside0.mk hA15
    clear hy15 hA15
    replace q15:=eq_true q15
    try go_wp2_with (first | ((with_reducible refine gate_callee (f:=109) rfl ?_);refine goesL_ (some 21) rfl rfl Try.func109 (by kernel_rfl) rfl #[.agg #[.int .i64 2,.int .u64 1,.int .u64 1,.int .u64 1,.slice A15 y376.length c15,.int .i64 0,.int .i64 0,.int .i64 0,.int .i64 0,.int .i64 0,.int .i64 0,.int .u64 0,.int .i64 0,.string (⟨#[]⟩:ByteArray),.int .i64 0,.int .i64 0,.string (⟨#[]⟩:ByteArray)]] rfl (by (try simp only [List.map_toArray,List.map_cons,List.map_nil]);first | done | rfl | (simp only [List.length_drop,List.length_take];rfl)) ?_;(with_reducible refine (message_Check.calls k1 2 1 1 1 _ _ y376 0 0 0 0 0 0 0 0 (⟨#[]⟩:ByteArray) 0 0 (⟨#[]⟩:ByteArray) t380 _ ?side1 ?side2 A7.out).mono ?_);(case side1 => repeat (first | exact (Kd.C_below HR379.out HB.out) | (with_reducible refine Kd.C_alloc ?_ _) | (with_reducible refine Kd.C_drewN ?_ _) | (with_reducible refine Kd.C_drew ?_)));(case side2 => exact HC379.out);rintro e w16 ⟨rfl,hb⟩;refine ⟨_,rfl,?_⟩;have n0_:=Aside0.mk (below_step (by repeat (first | (with_reducible first | exact HB.out | apply below_alloc | apply pw_below_drewN | apply below_drew1) | exact HB.out)) hb);clear HB;have HB:=n0_;clear n0_;(try clear hb);(try clear hb2);(try clear hk);(try clear hi)))
    have n0_:=Aside0.mk (below_drew1 HB.out)
    clear HB
    have HB:=n0_
    clear n0_
    have p381:0 ≤ ((ji10):Int):=of_decide_eq_true (by first | (with_reducible assumption) | assumption)
    have q381:(ji10) < (l0.length:Int):=of_decide_eq_true (by first | (with_reducible assumption) | assumption)
    obtain ⟨ad381,e381,hx381_0,hx381_1,hx381_2,hx381_3,hx381_4⟩:=at_T56 HR0.out (ji10) p381 q381
    have hw381_4:=hx381_4
    have hw381_3:=hx381_3
    have hw381_2:=hx381_2
    have hw381_1:=hx381_1
    have hw381_0:=hx381_0
    cases e381
    replace hx381_0:=(HB.out.cell (World.block_lt_of_cell? w _ hx381_0)).trans hx381_0
    replace hx381_1:=(HB.out.cell (World.block_lt_of_cell? w _ hx381_1)).trans hx381_1
    replace hx381_2:=(HB.out.cell (World.block_lt_of_cell? w _ hx381_2)).trans hx381_2
    replace hx381_3:=(HB.out.cell (World.block_lt_of_cell? w _ hx381_3)).trans hx381_3
    replace hx381_4:=(HB.out.cell (World.block_lt_of_cell? w _ hx381_4)).trans hx381_4
    replace p381:=eq_true p381
    replace q381:=eq_true q381
    have p382:0 ≤ (x3_1:Int):=of_decide_eq_true (by first | (with_reducible assumption) | assumption)
    have q382:x3_1 < (l0.length:Int):=of_decide_eq_true (by first | (with_reducible assumption) | assumption)
    obtain ⟨ad382,e382,hx382_0,hx382_1,hx382_2,hx382_3,hx382_4⟩:=at_T56 HR0.out x3_1 p382 q382
    have hw382_4:=hx382_4
    have hw382_3:=hx382_3
    have hw382_2:=hx382_2
    have hw382_1:=hx382_1
    have hw382_0:=hx382_0
    obtain rfl:ad381 = ad382:=(by injection e382)
    replace hx382_0:=(HB.out.cell (World.block_lt_of_cell? w _ hx382_0)).trans hx382_0
    replace hx382_1:=(HB.out.cell (World.block_lt_of_cell? w _ hx382_1)).trans hx382_1
    replace hx382_2:=(HB.out.cell (World.block_lt_of_cell? w _ hx382_2)).trans hx382_2
    replace hx382_3:=(HB.out.cell (World.block_lt_of_cell? w _ hx382_3)).trans hx382_3
    replace hx382_4:=(HB.out.cell (World.block_lt_of_cell? w _ hx382_4)).trans hx382_4
    replace p382:=eq_true p382
    replace q382:=eq_true q382
    refine start_ (n:=15) (S:=fun w' => w'.cell? (ad381.add (((ji10)).toNat * 5)) = some (.int .i64 ((rd_T56 l0 (ji10)).f0)) ∧ w'.cell? ⟨(ad381.add (((ji10)).toNat * 5)).block,(ad381.add (((ji10)).toNat * 5)).off + 1,none⟩ = some (.int .i64 ((rd_T56 l0 (ji10)).f1)) ∧ w'.cell? ⟨(ad381.add (((ji10)).toNat * 5)).block,(ad381.add (((ji10)).toNat * 5)).off + 2,none⟩ = some (.float .f64 ((rd_T56 l0 (ji10)).f2)) ∧ w'.cell? ⟨(ad381.add (((ji10)).toNat * 5)).block,(ad381.add (((ji10)).toNat * 5)).off + 3,none⟩ = some (.float .f64 ((rd_T56 l0 (ji10)).f3)) ∧ w'.cell? ⟨(ad381.add (((ji10)).toNat * 5)).block,(ad381.add (((ji10)).toNat * 5)).off + 4,none⟩ = some (.int .i64 ((rd_T56 l0 (ji10)).f4)) ∧ w'.cell? (ad381.add ((x3_1).toNat * 5)) = some (.int .i64 ((rd_T56 l0 x3_1).f0)) ∧ w'.cell? ⟨(ad381.add ((x3_1).toNat * 5)).block,(ad381.add ((x3_1).toNat * 5)).off + 1,none⟩ = some (.int .i64 ((rd_T56 l0 x3_1).f1)) ∧ w'.cell? ⟨(ad381.add ((x3_1).toNat * 5)).block,(ad381.add ((x3_1).toNat * 5)).off + 2,none⟩ = some (.float .f64 ((rd_T56 l0 x3_1).f2)) ∧ w'.cell? ⟨(ad381.add ((x3_1).toNat * 5)).block,(ad381.add ((x3_1).toNat * 5)).off + 3,none⟩ = some (.float .f64 ((rd_T56 l0 x3_1).f3)) ∧ w'.cell? ⟨(ad381.add ((x3_1).toNat * 5)).block,(ad381.add ((x3_1).toNat * 5)).off + 4,none⟩ = some (.int .i64 ((rd_T56 l0 x3_1).f4))) (ds:=[]) #[false,false,false,false,false,false,false,false,false,false,false,false,false,false,false] (by kernel_rfl) rfl rfl ⟨((HB.out.cell (World.block_lt_of_cell? w _ hw381_0)).trans hw381_0),((HB.out.cell (World.block_lt_of_cell? w _ hw381_1)).trans hw381_1),((HB.out.cell (World.block_lt_of_cell? w _ hw381_2)).trans hw381_2),((HB.out.cell (World.block_lt_of_cell? w _ hw381_3)).trans hw381_3),((HB.out.cell (World.block_lt_of_cell? w _ hw381_4)).trans hw381_4),((HB.out.cell (World.block_lt_of_cell? w _ hw382_0)).trans hw382_0),((HB.out.cell (World.block_lt_of_cell? w _ hw382_1)).trans hw382_1),((HB.out.cell (World.block_lt_of_cell? w _ hw382_2)).trans hw382_2),((HB.out.cell (World.block_lt_of_cell? w _ hw382_3)).trans hw382_3),((HB.out.cell (World.block_lt_of_cell? w _ hw382_4)).trans hw382_4)⟩ (fun hHeld => ?_);refine with_tabW delta_told.tab7 delta_told.bits7 (fun HT_ HW_ => ?_)
    generalize w16.drew = w17 at HB hx381_0 hx381_1 hx381_2 hx381_3 hx381_4 hx382_0 hx382_1 hx382_2 hx382_3 hx382_4 hHeld ⊢
    refine manyW_ (fuel:=3) (a':=?_) ((0,0) :: (1,0) :: (2,0) :: (3,0) :: (4,0) :: (5,0) :: (6,0) :: (8,0) :: (9,0) :: (10,0) :: (7,2) :: (11,2) :: []) #[true,true,true,true,true,true,true,true,true,true,true,true,false,false,false] rfl HT_ HW_ (by kernel_rfl) (fun _ _ _ _ _ h => h) (fun _ => hHeld) ?_ ?_
    rotate_left
    ·repeat (first | exact Chain.nil _ | (apply Chain.on;rfl;rfl;(focus intro w';go_simp;with_reducible rfl);(focus simp only [Act.put,List.setIfInBounds_toArray,List.set_cons_zero,List.set_cons_succ,i64_w,i32_w];rfl)) | (apply Chain.take;rfl;rfl;(focus rintro w' ⟨s0,s1,s2,s3,s4,s5,s6,s7,s8,s9⟩;go_simp;with_reducible rfl);(focus simp only [Act.put,List.setIfInBounds_toArray,List.set_cons_zero,List.set_cons_succ,i64_w,i32_w];rfl)))
    refine one_ (i:=12) (N:=some 35) #[true,true,true,true,true,true,true,true,true,true,true,true,true,false,false] rfl rfl (one_of HT_.out (by kernel_rfl)) (by decide) (fun K hK => ?_)
    refine goes_ Try.func153 (by kernel_rfl) rfl #[.agg #[.int .i64 ((rd_T56 l0 (ji10)).f0),.int .i64 ((rd_T56 l0 (ji10)).f1),.float .f64 ((rd_T56 l0 (ji10)).f2),.float .f64 ((rd_T56 l0 (ji10)).f3),.int .i64 ((rd_T56 l0 (ji10)).f4)],.agg #[.int .i64 ((rd_T56 l0 x3_1).f0),.int .i64 ((rd_T56 l0 x3_1).f1),.float .f64 ((rd_T56 l0 x3_1).f2),.float .f64 ((rd_T56 l0 x3_1).f3),.int .i64 ((rd_T56 l0 x3_1).f4)]] (by rfl) rfl rfl (by (try simp only [List.map_toArray,List.map_cons,List.map_nil]);first | done | (simp only [hji10];rfl) | rfl | (simp only [List.length_drop,List.length_take];rfl)) ?_
    with_reducible refine (delta_ahead.calls ((rd_T56 l0 (ji10)).f0) ((rd_T56 l0 (ji10)).f1) ((rd_T56 l0 (ji10)).f2) ((rd_T56 l0 (ji10)).f3) ((rd_T56 l0 (ji10)).f4) ((rd_T56 l0 x3_1).f0) ((rd_T56 l0 x3_1).f1) ((rd_T56 l0 x3_1).f2) ((rd_T56 l0 x3_1).f3) ((rd_T56 l0 x3_1).f4) true _ A13.out).mono ?_
    rintro e w18 ⟨rfl,hb⟩
    refine ⟨_,rfl,?_⟩
    have n0_:=Aside0.mk (below_step (by repeat (first | (with_reducible first | exact HB.out | apply below_alloc | apply pw_below_drewN | apply below_drew1) | exact HB.out)) hb)
    clear HB
    have HB:=n0_
    clear n0_
    (try clear hb)
    (try clear hb2)
    (try clear hk)
    (try clear hi)
    refine hK.out _ _ ⟨((HB.out.cell (World.block_lt_of_cell? w _ hw381_0)).trans hw381_0),((HB.out.cell (World.block_lt_of_cell? w _ hw381_1)).trans hw381_1),((HB.out.cell (World.block_lt_of_cell? w _ hw381_2)).trans hw381_2),((HB.out.cell (World.block_lt_of_cell? w _ hw381_3)).trans hw381_3),((HB.out.cell (World.block_lt_of_cell? w _ hw381_4)).trans hw381_4),((HB.out.cell (World.block_lt_of_cell? w _ hw382_0)).trans hw382_0),((HB.out.cell (World.block_lt_of_cell? w _ hw382_1)).trans hw382_1),((HB.out.cell (World.block_lt_of_cell? w _ hw382_2)).trans hw382_2),((HB.out.cell (World.block_lt_of_cell? w _ hw382_3)).trans hw382_3),((HB.out.cell (World.block_lt_of_cell? w _ hw382_4)).trans hw382_4)⟩ (fun hHeld => ?_)
    clear hK K
    refine norm_ (a':=?_) ?_ ?_
    rotate_left
    ·show Act.put _ (some 35) _ = _
     simp only [Act.put,List.setIfInBounds_toArray,List.set_cons_zero,List.set_cons_succ,i64_w,i32_w]
     rfl
    refine manyT_ (fuel:=0) (a':=?_) ((13,0) :: (14,0) :: []) #[true,true,true,true,true,true,true,true,true,true,true,true,true,true,true] rfl HT_ (by kernel_rfl) (fun _ _ _ _ _ h => h) (fun h => absurd h (by decide)) ?_ ?_
    rotate_left
    ·repeat (first | exact Chain.nil _ | (apply Chain.on;rfl;rfl;(focus intro w';go_simp;with_reducible rfl);(focus simp only [Act.put,List.setIfInBounds_toArray,List.set_cons_zero,List.set_cons_succ,i64_w,i32_w];rfl)))
    refine done_ (done_of HT_.out (by kernel_rfl)) ?_
    try go_wp2
    go_roundg k1
    case measure => have:=HK1.out;omega
    case rel => exact ⟨(wrap64 (x3_1 + 512)),(by first | rfl | (simp;done) | (simp [*];done)),H',⟨by have:=HK1.out;omega⟩,⟨by repeat (first | (with_reducible first | exact HB.out | apply below_alloc | apply pw_below_drewN | apply below_drew1) | exact HB.out)⟩⟩
   replace c14:=Bool.eq_false_iff.mpr c14
   subst c14
   have H1:(some false) = some r:=by rw [if_neg (show ¬ (false = true) by decide)] at H;exact H
   clear H
   have H:=H1
   clear H1
   obtain rfl:=Option.some.inj H
   have q19:((ji3):Int) ≤ ((l0.length:Int):Int):=of_decide_eq_true (by first | (with_reducible assumption) | assumption)
   obtain ⟨i019,hi019,_,hsz19,_⟩:=info_parts info56
   have hroom19:l0.length ≤ c0:=HC0.out
   have hC19:Kd.C k56 _ A0 l0.length l0:=HR0.out
   have ql19:(x3_1:Int) ≤ ((ji3):Int):=of_decide_eq_true (by first | (with_reducible assumption) | assumption)
   have q019:(0:Int) ≤ (x3_1:Int):=of_decide_eq_true (by first | (with_reducible assumption) | assumption)
   have hcut19:=cut_mid (P:=Try.prog) 35 56 .i64 .i64 Try.underlying35 hi019 5 hsz19 A0 l0.length c0 x3_1 (ji3) q019 ql19 q19 hroom19
   have hr19:=Kd.C_mid (lo:=(x3_1:Int).toNat) (hi:=((ji3):Int).toNat) (c:=c0) hC19 (by omega) (by omega) hroom19
   obtain ⟨A19,hA19⟩:∃ A1,A1 = (if c0 = (x3_1:Int).toNat then A0 else (A0:Option Addr).map (·.add ((x3_1:Int).toNat * 5))):=⟨_,rfl⟩
   obtain ⟨c19,hc19⟩:∃ c1,c1 = c0 - (x3_1:Int).toNat:=⟨_,rfl⟩
   have hy19:y376.length = ((ji3):Int).toNat - (x3_1:Int).toNat:=(by rw [Ny376.out,List.length_drop,List.length_take] <;> omega)
   rw [show ((l0).take ((ji3):Int).toNat).drop (x3_1:Int).toNat = y376 from Ny376.out.symm] at hr19
   replace hr19:Kd.C k56 _ A19 y376.length y376:=(by rw [hA19];exact hr19)
   rw [← hy19,← hA19,← hc19] at hcut19
   have HR379:=Aside0.mk hr19
   have HC379:=Aside0.mk (show y376.length ≤ c19 from by rw [hy19,hc19];exact Nat.sub_le_sub_right (Nat.le_trans (by omega) hroom19) _)
   clear hr19 hC19 hroom19 hi019 hsz19 hc19
   have KY19:=Aside0.mk hy19
   have KA19:=Aside0.mk hA19
   clear hy19 hA19
   replace q19:=eq_true q19
   try go_wp2_with (first | ((with_reducible refine gate_callee (f:=109) rfl ?_);refine goesL_ (some 21) rfl rfl Try.func109 (by kernel_rfl) rfl #[.agg #[.int .i64 2,.int .u64 1,.int .u64 1,.int .u64 1,.slice A19 y376.length c19,.int .i64 0,.int .i64 0,.int .i64 0,.int .i64 0,.int .i64 0,.int .i64 0,.int .u64 0,.int .i64 0,.string (⟨#[]⟩:ByteArray),.int .i64 0,.int .i64 0,.string (⟨#[]⟩:ByteArray)]] rfl (by (try simp only [List.map_toArray,List.map_cons,List.map_nil]);first | done | rfl | (simp only [List.length_drop,List.length_take];rfl)) ?_;(with_reducible refine (message_Check.calls k1 2 1 1 1 _ _ y376 0 0 0 0 0 0 0 0 (⟨#[]⟩:ByteArray) 0 0 (⟨#[]⟩:ByteArray) t380 _ ?side1 ?side2 A7.out).mono ?_);(case side1 => repeat (first | exact (Kd.C_below HR379.out HB.out) | (with_reducible refine Kd.C_alloc ?_ _) | (with_reducible refine Kd.C_drewN ?_ _) | (with_reducible refine Kd.C_drew ?_)));(case side2 => exact HC379.out);rintro e w20 ⟨rfl,hb⟩;refine ⟨_,rfl,?_⟩;have n0_:=Aside0.mk (below_step (by repeat (first | (with_reducible first | exact HB.out | apply below_alloc | apply pw_below_drewN | apply below_drew1) | exact HB.out)) hb);clear HB;have HB:=n0_;clear n0_;(try clear hb);(try clear hb2);(try clear hk);(try clear hi)))
   have n0_:=Aside0.mk (below_drew1 HB.out)
   clear HB
   have HB:=n0_
   clear n0_
   have p381:0 ≤ ((ji10):Int):=of_decide_eq_true (by first | (with_reducible assumption) | assumption)
   have q381:(ji10) < (l0.length:Int):=of_decide_eq_true (by first | (with_reducible assumption) | assumption)
   obtain ⟨ad381,e381,hx381_0,hx381_1,hx381_2,hx381_3,hx381_4⟩:=at_T56 HR0.out (ji10) p381 q381
   have hw381_4:=hx381_4
   have hw381_3:=hx381_3
   have hw381_2:=hx381_2
   have hw381_1:=hx381_1
   have hw381_0:=hx381_0
   cases e381
   replace hx381_0:=(HB.out.cell (World.block_lt_of_cell? w _ hx381_0)).trans hx381_0
   replace hx381_1:=(HB.out.cell (World.block_lt_of_cell? w _ hx381_1)).trans hx381_1
   replace hx381_2:=(HB.out.cell (World.block_lt_of_cell? w _ hx381_2)).trans hx381_2
   replace hx381_3:=(HB.out.cell (World.block_lt_of_cell? w _ hx381_3)).trans hx381_3
   replace hx381_4:=(HB.out.cell (World.block_lt_of_cell? w _ hx381_4)).trans hx381_4
   replace p381:=eq_true p381
   replace q381:=eq_true q381
   have p382:0 ≤ (x3_1:Int):=of_decide_eq_true (by first | (with_reducible assumption) | assumption)
   have q382:x3_1 < (l0.length:Int):=of_decide_eq_true (by first | (with_reducible assumption) | assumption)
   obtain ⟨ad382,e382,hx382_0,hx382_1,hx382_2,hx382_3,hx382_4⟩:=at_T56 HR0.out x3_1 p382 q382
   have hw382_4:=hx382_4
   have hw382_3:=hx382_3
   have hw382_2:=hx382_2
   have hw382_1:=hx382_1
   have hw382_0:=hx382_0
   obtain rfl:ad381 = ad382:=(by injection e382)
   replace hx382_0:=(HB.out.cell (World.block_lt_of_cell? w _ hx382_0)).trans hx382_0
   replace hx382_1:=(HB.out.cell (World.block_lt_of_cell? w _ hx382_1)).trans hx382_1
   replace hx382_2:=(HB.out.cell (World.block_lt_of_cell? w _ hx382_2)).trans hx382_2
   replace hx382_3:=(HB.out.cell (World.block_lt_of_cell? w _ hx382_3)).trans hx382_3
   replace hx382_4:=(HB.out.cell (World.block_lt_of_cell? w _ hx382_4)).trans hx382_4
   replace p382:=eq_true p382
   replace q382:=eq_true q382
   refine start_ (n:=15) (S:=fun w' => w'.cell? (ad381.add (((ji10)).toNat * 5)) = some (.int .i64 ((rd_T56 l0 (ji10)).f0)) ∧ w'.cell? ⟨(ad381.add (((ji10)).toNat * 5)).block,(ad381.add (((ji10)).toNat * 5)).off + 1,none⟩ = some (.int .i64 ((rd_T56 l0 (ji10)).f1)) ∧ w'.cell? ⟨(ad381.add (((ji10)).toNat * 5)).block,(ad381.add (((ji10)).toNat * 5)).off + 2,none⟩ = some (.float .f64 ((rd_T56 l0 (ji10)).f2)) ∧ w'.cell? ⟨(ad381.add (((ji10)).toNat * 5)).block,(ad381.add (((ji10)).toNat * 5)).off + 3,none⟩ = some (.float .f64 ((rd_T56 l0 (ji10)).f3)) ∧ w'.cell? ⟨(ad381.add (((ji10)).toNat * 5)).block,(ad381.add (((ji10)).toNat * 5)).off + 4,none⟩ = some (.int .i64 ((rd_T56 l0 (ji10)).f4)) ∧ w'.cell? (ad381.add ((x3_1).toNat * 5)) = some (.int .i64 ((rd_T56 l0 x3_1).f0)) ∧ w'.cell? ⟨(ad381.add ((x3_1).toNat * 5)).block,(ad381.add ((x3_1).toNat * 5)).off + 1,none⟩ = some (.int .i64 ((rd_T56 l0 x3_1).f1)) ∧ w'.cell? ⟨(ad381.add ((x3_1).toNat * 5)).block,(ad381.add ((x3_1).toNat * 5)).off + 2,none⟩ = some (.float .f64 ((rd_T56 l0 x3_1).f2)) ∧ w'.cell? ⟨(ad381.add ((x3_1).toNat * 5)).block,(ad381.add ((x3_1).toNat * 5)).off + 3,none⟩ = some (.float .f64 ((rd_T56 l0 x3_1).f3)) ∧ w'.cell? ⟨(ad381.add ((x3_1).toNat * 5)).block,(ad381.add ((x3_1).toNat * 5)).off + 4,none⟩ = some (.int .i64 ((rd_T56 l0 x3_1).f4))) (ds:=[]) #[false,false,false,false,false,false,false,false,false,false,false,false,false,false,false] (by kernel_rfl) rfl rfl ⟨((HB.out.cell (World.block_lt_of_cell? w _ hw381_0)).trans hw381_0),((HB.out.cell (World.block_lt_of_cell? w _ hw381_1)).trans hw381_1),((HB.out.cell (World.block_lt_of_cell? w _ hw381_2)).trans hw381_2),((HB.out.cell (World.block_lt_of_cell? w _ hw381_3)).trans hw381_3),((HB.out.cell (World.block_lt_of_cell? w _ hw381_4)).trans hw381_4),((HB.out.cell (World.block_lt_of_cell? w _ hw382_0)).trans hw382_0),((HB.out.cell (World.block_lt_of_cell? w _ hw382_1)).trans hw382_1),((HB.out.cell (World.block_lt_of_cell? w _ hw382_2)).trans hw382_2),((HB.out.cell (World.block_lt_of_cell? w _ hw382_3)).trans hw382_3),((HB.out.cell (World.block_lt_of_cell? w _ hw382_4)).trans hw382_4)⟩ (fun hHeld => ?_);refine with_tabW delta_told.tab7 delta_told.bits7 (fun HT_ HW_ => ?_)
   generalize w20.drew = w21 at HB hx381_0 hx381_1 hx381_2 hx381_3 hx381_4 hx382_0 hx382_1 hx382_2 hx382_3 hx382_4 hHeld ⊢
   refine manyW_ (fuel:=3) (a':=?_) ((0,0) :: (1,0) :: (2,0) :: (3,0) :: (4,0) :: (5,0) :: (6,0) :: (8,0) :: (9,0) :: (10,0) :: (7,2) :: (11,2) :: []) #[true,true,true,true,true,true,true,true,true,true,true,true,false,false,false] rfl HT_ HW_ (by kernel_rfl) (fun _ _ _ _ _ h => h) (fun _ => hHeld) ?_ ?_
   rotate_left
   ·repeat (first | exact Chain.nil _ | (apply Chain.on;rfl;rfl;(focus intro w';go_simp;with_reducible rfl);(focus simp only [Act.put,List.setIfInBounds_toArray,List.set_cons_zero,List.set_cons_succ,i64_w,i32_w];rfl)) | (apply Chain.take;rfl;rfl;(focus rintro w' ⟨s0,s1,s2,s3,s4,s5,s6,s7,s8,s9⟩;go_simp;with_reducible rfl);(focus simp only [Act.put,List.setIfInBounds_toArray,List.set_cons_zero,List.set_cons_succ,i64_w,i32_w];rfl)))
   refine one_ (i:=12) (N:=some 35) #[true,true,true,true,true,true,true,true,true,true,true,true,true,false,false] rfl rfl (one_of HT_.out (by kernel_rfl)) (by decide) (fun K hK => ?_)
   refine goes_ Try.func153 (by kernel_rfl) rfl #[.agg #[.int .i64 ((rd_T56 l0 (ji10)).f0),.int .i64 ((rd_T56 l0 (ji10)).f1),.float .f64 ((rd_T56 l0 (ji10)).f2),.float .f64 ((rd_T56 l0 (ji10)).f3),.int .i64 ((rd_T56 l0 (ji10)).f4)],.agg #[.int .i64 ((rd_T56 l0 x3_1).f0),.int .i64 ((rd_T56 l0 x3_1).f1),.float .f64 ((rd_T56 l0 x3_1).f2),.float .f64 ((rd_T56 l0 x3_1).f3),.int .i64 ((rd_T56 l0 x3_1).f4)]] (by rfl) rfl rfl (by (try simp only [List.map_toArray,List.map_cons,List.map_nil]);first | done | (simp only [hji10];rfl) | rfl | (simp only [List.length_drop,List.length_take];rfl)) ?_
   with_reducible refine (delta_ahead.calls ((rd_T56 l0 (ji10)).f0) ((rd_T56 l0 (ji10)).f1) ((rd_T56 l0 (ji10)).f2) ((rd_T56 l0 (ji10)).f3) ((rd_T56 l0 (ji10)).f4) ((rd_T56 l0 x3_1).f0) ((rd_T56 l0 x3_1).f1) ((rd_T56 l0 x3_1).f2) ((rd_T56 l0 x3_1).f3) ((rd_T56 l0 x3_1).f4) false _ A13.out).mono ?_
   rintro e w22 ⟨rfl,hb⟩
   refine ⟨_,rfl,?_⟩
   have n0_:=Aside0.mk (below_step (by repeat (first | (with_reducible first | exact HB.out | apply below_alloc | apply pw_below_drewN | apply below_drew1) | exact HB.out)) hb)
   clear HB
   have HB:=n0_
   clear n0_
   (try clear hb)
   (try clear hb2)
   (try clear hk)
   (try clear hi)
   refine hK.out _ _ ⟨((HB.out.cell (World.block_lt_of_cell? w _ hw381_0)).trans hw381_0),((HB.out.cell (World.block_lt_of_cell? w _ hw381_1)).trans hw381_1),((HB.out.cell (World.block_lt_of_cell? w _ hw381_2)).trans hw381_2),((HB.out.cell (World.block_lt_of_cell? w _ hw381_3)).trans hw381_3),((HB.out.cell (World.block_lt_of_cell? w _ hw381_4)).trans hw381_4),((HB.out.cell (World.block_lt_of_cell? w _ hw382_0)).trans hw382_0),((HB.out.cell (World.block_lt_of_cell? w _ hw382_1)).trans hw382_1),((HB.out.cell (World.block_lt_of_cell? w _ hw382_2)).trans hw382_2),((HB.out.cell (World.block_lt_of_cell? w _ hw382_3)).trans hw382_3),((HB.out.cell (World.block_lt_of_cell? w _ hw382_4)).trans hw382_4)⟩ (fun hHeld => ?_)
   clear hK K
   refine norm_ (a':=?_) ?_ ?_
   rotate_left
   ·show Act.put _ (some 35) _ = _
    simp only [Act.put,List.setIfInBounds_toArray,List.set_cons_zero,List.set_cons_succ,i64_w,i32_w]
    rfl
   refine manyT_ (fuel:=0) (a':=?_) ((13,0) :: (14,0) :: []) #[true,true,true,true,true,true,true,true,true,true,true,true,true,true,true] rfl HT_ (by kernel_rfl) (fun _ _ _ _ _ h => h) (fun h => absurd h (by decide)) ?_ ?_
   rotate_left
   ·repeat (first | exact Chain.nil _ | (apply Chain.on;rfl;rfl;(focus intro w';go_simp;with_reducible rfl);(focus simp only [Act.put,List.setIfInBounds_toArray,List.set_cons_zero,List.set_cons_succ,i64_w,i32_w];rfl)))
   refine done_ (done_of HT_.out (by kernel_rfl)) ?_
   try go_wp2
   go_ret
   exact ⟨by first | rfl | (simp [errW_none,errW_some] <;> rfl) | (simp only [← hji3,← hji10];first | rfl | (simp [errW_none,errW_some] <;> rfl)) | (simp [*,errW_none,errW_some] <;> rfl),by repeat (first | (with_reducible first | exact HB.out | apply below_alloc | apply pw_below_drewN | apply below_drew1) | exact HB.out)⟩
def delta_list.l0:Nat → List (S56) → List (S56) → Int → Int → Option (Bool)
 | 0,_,_,_,_ => none
 | k + 1,x0,x5,x6,x7 => if x7 < x6 then (if 0 ≤ x7 then (if x7 < (x5.length:Int) then ((math_IsInf.f ((rd_T56 x5 x7).f2) 1).bind fun t387 => (if t387 = true then (some false) else (delta_list.l0 k x0 x5 x6 (wrap64 (x7 + 1))))) else (none)) else (none)) else ((delta_told.f k x0).bind fun t384 => (some t384))
def delta_list.f (k:Nat) (l0:List (S56)):Option (Bool):=delta_list.l0 k l0 l0 (l0.length:Int) 0
set_option maxHeartbeats 8000000 in
set_option maxRecDepth 100000 in
theorem delta_list.calls (k:Nat) (A0:Option Addr) (c0:Nat) (l0:List (S56)) (r:Bool) (w:World) (hr0:Kd.C k56 w A0 l0.length l0) (hc0:l0.length ≤ c0) (h:delta_list.f k l0 = some r) :
  Calls Try.prog 107 #[.slice A0 l0.length c0] w fun e w' => e = .returned (.bool r) ∧ Below w.heap.size w w':=by
 have hu56:=Try.underlying56
 have HR0:=Aside0.mk hr0
 have HC0:=Aside0.mk hc0
 clear hr0 hc0
 have HB:=Aside0.mk (Below.refl w.heap.size w)
 have H:(delta_list.l0 k l0 l0 (l0.length:Int) 0) = some r:=h
 clear h
 have H':=Aside0.mk H
 clear H
 go_enter Try.func107,Try.ntmps107
 go_wp2
 go_loopg [7] k (fun kq v7 w' => ∃ (x7_1:Int),v7 = .int .i64 x7_1 ∧ Aside0 (delta_list.l0 kq l0 l0 (l0.length:Int) x7_1 = some r) ∧ Aside0 (kq ≤ k) ∧ Aside0 (Below w.heap.size w w'))
 case atStart => exact ⟨(0),(by first | rfl | (simp;done) | (simp [*];done)),H',⟨Nat.le_refl _⟩,⟨by repeat (first | (with_reducible first | exact HB.out | apply below_alloc | apply pw_below_drewN | apply below_drew1) | exact HB.out)⟩⟩
 case round =>
  clear H'
  obtain ⟨x7_1,rfl,HA,HK1,HB⟩:=hrel
  cases gk with
  | zero => exact absurd HA.out (by simp [delta_list.l0])
  | succ k1 =>
   have H:=HA.out
   clear HA
   simp only [delta_list.l0] at H
   by_cases c2:x7_1 < (l0.length:Int)
   rotate_left
   ·rw [if_neg c2] at H
    have c2b0:decide (x7_1 < (l0.length:Int)) = false:=decide_eq_false c2
    clear c2
    replace H:=Option.bind_eq_some_iff.mp H
    obtain ⟨t384,A110,H⟩:=H
    replace H:(some t384) = some r:=H
    have A11:=Aside0.mk A110
    clear A110
    obtain rfl:=Option.some.inj H
    go_wp2_with (first | ((with_reducible refine gate_callee (f:=137) rfl ?_);refine goesL_ (some 16) rfl rfl Try.func137 (by kernel_rfl) rfl #[.slice A0 l0.length c0] rfl (by (try simp only [List.map_toArray,List.map_cons,List.map_nil]);first | done | rfl | (simp only [List.length_drop,List.length_take];rfl)) ?_;(with_reducible refine (delta_told.calls k1 _ _ l0 t384 _ ?side1 ?side2 A11.out).mono ?_);(case side1 => repeat (first | exact (Kd.C_below HR0.out HB.out) | (with_reducible refine Kd.C_alloc ?_ _) | (with_reducible refine Kd.C_drewN ?_ _) | (with_reducible refine Kd.C_drew ?_)));(case side2 => exact HC0.out);rintro e w12 ⟨rfl,hb⟩;refine ⟨_,rfl,?_⟩;have n0_:=Aside0.mk (below_step (by repeat (first | (with_reducible first | exact HB.out | apply below_alloc | apply pw_below_drewN | apply below_drew1) | exact HB.out)) hb);clear HB;have HB:=n0_;clear n0_;(try clear hb);(try clear hb2);(try clear hk);(try clear hi)))
    go_ret
    exact ⟨by first | rfl | (simp [errW_none,errW_some] <;> rfl) | (simp [*,errW_none,errW_some] <;> rfl),by repeat (first | (with_reducible first | exact HB.out | apply below_alloc | apply pw_below_drewN | apply below_drew1) | exact HB.out)⟩
   rw [if_pos c2] at H
   have c2b0:decide (x7_1 < (l0.length:Int)) = true:=decide_eq_true c2
   clear c2
   by_cases c3:0 ≤ x7_1
   rotate_left
   ·rw [if_neg c3] at H
    exact absurd H (by simp)
   rw [if_pos c3] at H
   have c3b0:decide (0 ≤ x7_1) = true:=decide_eq_true c3
   clear c3
   by_cases c4:x7_1 < (l0.length:Int)
   rotate_left
   ·rw [if_neg c4] at H
    exact absurd H (by simp)
   rw [if_pos c4] at H
   have c4b0:decide (x7_1 < (l0.length:Int)) = true:=decide_eq_true c4
   clear c4
   replace H:=Option.bind_eq_some_iff.mp H
   obtain ⟨t387,A50,H⟩:=H
   replace H:(if t387 = true then (some false) else (delta_list.l0 k1 l0 l0 (l0.length:Int) (wrap64 (x7_1 + 1)))) = some r:=H
   have A5:=Aside0.mk A50
   clear A50
   by_cases c6:t387 = true
   ·subst c6
    have H1:(some false) = some r:=by rw [if_pos rfl] at H;exact H
    clear H
    have H:=H1
    clear H1
    obtain rfl:=Option.some.inj H
    have p385:0 ≤ (x7_1:Int):=of_decide_eq_true (by first | (with_reducible assumption) | assumption)
    have q385:x7_1 < (l0.length:Int):=of_decide_eq_true (by first | (with_reducible assumption) | assumption)
    obtain ⟨ad385,e385,hx385_0,hx385_1,hx385_2,hx385_3,hx385_4⟩:=at_T56 HR0.out x7_1 p385 q385
    cases e385
    replace hx385_0:=(HB.out.cell (World.block_lt_of_cell? w _ hx385_0)).trans hx385_0
    replace hx385_1:=(HB.out.cell (World.block_lt_of_cell? w _ hx385_1)).trans hx385_1
    replace hx385_2:=(HB.out.cell (World.block_lt_of_cell? w _ hx385_2)).trans hx385_2
    replace hx385_3:=(HB.out.cell (World.block_lt_of_cell? w _ hx385_3)).trans hx385_3
    replace hx385_4:=(HB.out.cell (World.block_lt_of_cell? w _ hx385_4)).trans hx385_4
    replace p385:=eq_true p385
    replace q385:=eq_true q385
    go_wp2_with (first | ((with_reducible refine gate_dst (N:=4) rfl ?_);refine box_event ?hg (N:=4) ?hd (cs:=#[.int .i64 0,.int .i64 0,.float .f64 0,.float .f64 0,.int .i64 0]) (t:=56) ?hr ?_;(case hd => rfl);(case hg => rfl);(case hr => first | (go_simp;done) | (go_simp;rfl));intro gb386 hg w7 hbox hb;have n0_:=Aside0.mk (below_step (by repeat (first | (with_reducible first | exact HB.out | apply below_alloc | apply pw_below_drewN | apply below_drew1) | exact HB.out)) hb);have n1_:=Aside0.mk (hbox);have n2_:=Aside0.mk ((by rw [hg];exact (below_size (by repeat (first | (with_reducible first | exact HB.out | apply below_alloc | apply pw_below_drewN | apply below_drew1) | exact HB.out))):w.heap.size ≤ gb386));have n3_:=Aside0.mk ((by rw [hg];exact (below_size (by repeat (first | (with_reducible first | exact HB.out | apply below_alloc | apply pw_below_drewN | apply below_drew1) | exact HB.out))):w.heap.size ≤ gb386));clear HB;have HB:=n0_;have BK386:=n1_;have GW386:=n2_;have GE386:=n3_;clear n0_ n1_ n2_ n3_;clear hb hbox hg;have hcz8_0:w7.cell? ⟨gb386,0,none⟩ = some (.int .i64 0):=(blk_cell BK386.out 0).trans rfl;have hcz8_1:w7.cell? ⟨gb386,1,none⟩ = some (.int .i64 0):=(blk_cell BK386.out 1).trans rfl;have hcz8_2:w7.cell? ⟨gb386,2,none⟩ = some (.float .f64 0):=(blk_cell BK386.out 2).trans rfl;have hcz8_3:w7.cell? ⟨gb386,3,none⟩ = some (.float .f64 0):=(blk_cell BK386.out 3).trans rfl;have hcz8_4:w7.cell? ⟨gb386,4,none⟩ = some (.int .i64 0):=(blk_cell BK386.out 4).trans rfl;have hfz8_0:=blk_frozen BK386.out 0;have hfz8_1:=blk_frozen BK386.out 1;have hfz8_2:=blk_frozen BK386.out 2;have hfz8_3:=blk_frozen BK386.out 3;have hfz8_4:=blk_frozen BK386.out 4) | ((with_reducible refine gate_callee (f:=62) rfl ?_);refine goesL_ (some 13) rfl rfl Try.func62 (by kernel_rfl) rfl #[.float .f64 ((rd_T56 l0 x7_1).f2),.int .i64 1] rfl (by (try simp only [List.map_toArray,List.map_cons,List.map_nil]);first | done | rfl | (simp only [List.length_drop,List.length_take];rfl)) ?_;(with_reducible refine (math_IsInf.calls ((rd_T56 l0 x7_1).f2) 1 true _ A5.out).mono ?_);rintro e w' ⟨rfl,⟨nd,rfl⟩⟩;refine ⟨_,rfl,?_⟩))
    go_ret
    exact ⟨by first | rfl | (simp [errW_none,errW_some] <;> rfl) | (simp [*,errW_none,errW_some] <;> rfl),by repeat (first | (with_reducible first | exact HB.out | apply below_alloc | apply pw_below_drewN | apply below_drew1 | refine below_set ?_ GE386.out) | exact HB.out)⟩
   replace c6:=Bool.eq_false_iff.mpr c6
   subst c6
   have H1:(delta_list.l0 k1 l0 l0 (l0.length:Int) (wrap64 (x7_1 + 1))) = some r:=by rw [if_neg (show ¬ (false = true) by decide)] at H;exact H
   clear H
   have H:=H1
   clear H1
   have H':=Aside0.mk H
   clear H
   have p385:0 ≤ (x7_1:Int):=of_decide_eq_true (by first | (with_reducible assumption) | assumption)
   have q385:x7_1 < (l0.length:Int):=of_decide_eq_true (by first | (with_reducible assumption) | assumption)
   obtain ⟨ad385,e385,hx385_0,hx385_1,hx385_2,hx385_3,hx385_4⟩:=at_T56 HR0.out x7_1 p385 q385
   cases e385
   replace hx385_0:=(HB.out.cell (World.block_lt_of_cell? w _ hx385_0)).trans hx385_0
   replace hx385_1:=(HB.out.cell (World.block_lt_of_cell? w _ hx385_1)).trans hx385_1
   replace hx385_2:=(HB.out.cell (World.block_lt_of_cell? w _ hx385_2)).trans hx385_2
   replace hx385_3:=(HB.out.cell (World.block_lt_of_cell? w _ hx385_3)).trans hx385_3
   replace hx385_4:=(HB.out.cell (World.block_lt_of_cell? w _ hx385_4)).trans hx385_4
   replace p385:=eq_true p385
   replace q385:=eq_true q385
   go_wp2_with (first | ((with_reducible refine gate_dst (N:=4) rfl ?_);refine box_event ?hg (N:=4) ?hd (cs:=#[.int .i64 0,.int .i64 0,.float .f64 0,.float .f64 0,.int .i64 0]) (t:=56) ?hr ?_;(case hd => rfl);(case hg => rfl);(case hr => first | (go_simp;done) | (go_simp;rfl));intro gb386 hg w9 hbox hb;have n0_:=Aside0.mk (below_step (by repeat (first | (with_reducible first | exact HB.out | apply below_alloc | apply pw_below_drewN | apply below_drew1) | exact HB.out)) hb);have n1_:=Aside0.mk (hbox);have n2_:=Aside0.mk ((by rw [hg];exact (below_size (by repeat (first | (with_reducible first | exact HB.out | apply below_alloc | apply pw_below_drewN | apply below_drew1) | exact HB.out))):w.heap.size ≤ gb386));have n3_:=Aside0.mk ((by rw [hg];exact (below_size (by repeat (first | (with_reducible first | exact HB.out | apply below_alloc | apply pw_below_drewN | apply below_drew1) | exact HB.out))):w.heap.size ≤ gb386));clear HB;have HB:=n0_;have BK386:=n1_;have GW386:=n2_;have GE386:=n3_;clear n0_ n1_ n2_ n3_;clear hb hbox hg;have hcz10_0:w9.cell? ⟨gb386,0,none⟩ = some (.int .i64 0):=(blk_cell BK386.out 0).trans rfl;have hcz10_1:w9.cell? ⟨gb386,1,none⟩ = some (.int .i64 0):=(blk_cell BK386.out 1).trans rfl;have hcz10_2:w9.cell? ⟨gb386,2,none⟩ = some (.float .f64 0):=(blk_cell BK386.out 2).trans rfl;have hcz10_3:w9.cell? ⟨gb386,3,none⟩ = some (.float .f64 0):=(blk_cell BK386.out 3).trans rfl;have hcz10_4:w9.cell? ⟨gb386,4,none⟩ = some (.int .i64 0):=(blk_cell BK386.out 4).trans rfl;have hfz10_0:=blk_frozen BK386.out 0;have hfz10_1:=blk_frozen BK386.out 1;have hfz10_2:=blk_frozen BK386.out 2;have hfz10_3:=blk_frozen BK386.out 3;have hfz10_4:=blk_frozen BK386.out 4) | ((with_reducible refine gate_callee (f:=62) rfl ?_);refine goesL_ (some 13) rfl rfl Try.func62 (by kernel_rfl) rfl #[.float .f64 ((rd_T56 l0 x7_1).f2),.int .i64 1] rfl (by (try simp only [List.map_toArray,List.map_cons,List.map_nil]);first | done | rfl | (simp only [List.length_drop,List.length_take];rfl)) ?_;(with_reducible refine (math_IsInf.calls ((rd_T56 l0 x7_1).f2) 1 false _ A5.out).mono ?_);rintro e w' ⟨rfl,⟨nd,rfl⟩⟩;refine ⟨_,rfl,?_⟩))
   go_roundg k1
   case measure => have:=HK1.out;omega
   case rel => exact ⟨(wrap64 (x7_1 + 1)),(by first | rfl | (simp;done) | (simp [*];done)),H',⟨by have:=HK1.out;omega⟩,⟨by repeat (first | (with_reducible first | exact HB.out | apply below_alloc | apply pw_below_drewN | apply below_drew1 | refine below_set ?_ GE386.out) | exact HB.out)⟩⟩
end Go.Proofs.Ytjcnmpkaiopihaa.PA
