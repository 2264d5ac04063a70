/- Printed by a program of this session (wip/tools/patch_print.py and pr.py, over the kit's print): each Go function as a plain Lean function, and that the Go code comes to just its answers. Conditions: those that each theorem names. -/
import Derived.Test.YtjcnmpkaiopihaaZoPAx0
import Derived.Test.YtjcnmpkaiopihaaZoPAx2
import Derived.Test.YtjcnmpkaiopihaaZoPAx17
import Derived.Test.YtjcnmpkaiopihaaZoPAx23
namespace Go.Proofs.Ytjcnmpkaiopihaa.PA
open Go.RowKit Go.Proofs.YtjcnmpkaiopihaaW.PrintWords Go.Proofs.YtjcnmpkaiopihaaW.PrintLast Go.Proofs.YtjcnmpkaiopihaaW.PrintMore
attribute [local go_sem] max2_int min2_int max_two min_two max_three min_three max_four min_four
set_option linter.unusedVariables false
set_option linter.unusedSimpArgs false
def scopedv_order.f (a0_0:Int) (a0_1:Int) (a0_2:Nat) (a0_3:Int) (a0_4:Nat) (a0_5:Int) (a1_0:Int) (a1_1:Int) (a1_2:Nat) (a1_3:Int) (a1_4:Nat) (a1_5:Int):Option (Int):=if a0_1 = a1_1 then (some (wrap64 (a0_0 - a1_0))) else (some (wrap64 (a0_1 - a1_1)))
set_option maxHeartbeats 8000000 in
set_option maxRecDepth 100000 in
theorem scopedv_order.calls (a0_0:Int) (a0_1:Int) (a0_2:Nat) (a0_3:Int) (a0_4:Nat) (a0_5:Int) (a1_0:Int) (a1_1:Int) (a1_2:Nat) (a1_3:Int) (a1_4:Nat) (a1_5:Int) (r:Int) (w:World) (h:scopedv_order.f a0_0 a0_1 a0_2 a0_3 a0_4 a0_5 a1_0 a1_1 a1_2 a1_3 a1_4 a1_5 = some r) :
  Calls Try.prog 35 #[.agg #[.int .i64 a0_0,.int .i64 a0_1,.float .f64 a0_2,.int .i64 a0_3,.float .f64 a0_4,.int .i64 a0_5],.agg #[.int .i64 a1_0,.int .i64 a1_1,.float .f64 a1_2,.int .i64 a1_3,.float .f64 a1_4,.int .i64 a1_5]] w fun e w' => e = .returned (.int .i64 r) ∧ Below w.heap.size w w':=by
 have hu58:=Try.underlying58
 have HB:=Aside0.mk (Below.refl w.heap.size w)
 have H:(if a0_1 = a1_1 then (some (wrap64 (a0_0 - a1_0))) else (some (wrap64 (a0_1 - a1_1)))) = some r:=h
 clear h
 by_cases c3:a0_1 = a1_1
 ·rw [if_pos c3] at H
  have c3b0:(a0_1 == a1_1) = true:=beq_iff_eq.mpr c3
  have c3b1:(a0_1 != a1_1) = false:=bne_eq_false_iff_eq.mpr c3
  clear c3
  obtain rfl:=Option.some.inj H
  go_enter Try.func35,Try.ntmps35
  go_wp2_with (first | ((with_reducible refine gate_dst (N:=2) rfl ?_);refine box_event ?hg (N:=2) ?hd (cs:=#[.int .i64 a0_0,.int .i64 a0_1,.float .f64 a0_2,.int .i64 a0_3,.float .f64 a0_4,.int .i64 a0_5]) (t:=58) ?hr ?_;(case hd => rfl);(case hg => rfl);(case hr => first | (go_simp;done) | (go_simp;rfl));intro gb466 hg w4 hbox hb;have n0_:=Aside0.mk (below_step (by repeat (first | (with_reducible first | exact HB.out | apply below_alloc | apply pw_below_drewN | apply below_drew1) | exact HB.out)) hb);have n1_:=Aside0.mk (hbox);have n2_:=Aside0.mk ((by rw [hg];exact (below_size (by repeat (first | (with_reducible first | exact HB.out | apply below_alloc | apply pw_below_drewN | apply below_drew1) | exact HB.out))):w.heap.size ≤ gb466));have n3_:=Aside0.mk ((by rw [hg];exact (below_size (by repeat (first | (with_reducible first | exact HB.out | apply below_alloc | apply pw_below_drewN | apply below_drew1) | exact HB.out))):w.heap.size ≤ gb466));clear HB;have HB:=n0_;have BK466:=n1_;have GW466:=n2_;have GE466:=n3_;clear n0_ n1_ n2_ n3_;clear hb hbox hg) | ((with_reducible refine gate_dst (N:=3) rfl ?_);refine box_event ?hg (N:=3) ?hd (cs:=#[.int .i64 a1_0,.int .i64 a1_1,.float .f64 a1_2,.int .i64 a1_3,.float .f64 a1_4,.int .i64 a1_5]) (t:=58) ?hr ?_;(case hd => rfl);(case hg => rfl);(case hr => first | (go_simp;done) | (go_simp;rfl));intro gb467 hg w5 hbox hb;have n0_:=Aside0.mk (blk_below (g:=gb466) (o:=.cells #[.int .i64 a0_0,.int .i64 a0_1,.float .f64 a0_2,.int .i64 a0_3,.float .f64 a0_4,.int .i64 a0_5] 58 (0,0)) (by (with_reducible repeat (first | refine blk_drewN ?_ _ | refine blk_drew ?_ | refine blk_alloc ?_ _));exact BK466.out) hb);have n1_:=Aside0.mk (below_step (by repeat (first | (with_reducible first | exact HB.out | apply below_alloc | apply pw_below_drewN | apply below_drew1 | refine below_set ?_ GE466.out) | exact HB.out)) hb);have n2_:=Aside0.mk (hbox);have n3_:=Aside0.mk ((by rw [hg];exact (below_size (by repeat (first | (with_reducible first | exact HB.out | apply below_alloc | apply pw_below_drewN | apply below_drew1 | refine below_set ?_ GE466.out) | exact HB.out))):w.heap.size ≤ gb467));have n4_:=Aside0.mk ((by rw [hg];exact (below_size (by repeat (first | (with_reducible first | exact HB.out | apply below_alloc | apply pw_below_drewN | apply below_drew1 | refine below_set ?_ GE466.out) | exact HB.out))):w.heap.size ≤ gb467));have n5_:=Aside0.mk ((by rw [hg];exact Nat.ne_of_lt (blk_lt (g:=gb466) (o:=.cells #[.int .i64 a0_0,.int .i64 a0_1,.float .f64 a0_2,.int .i64 a0_3,.float .f64 a0_4,.int .i64 a0_5] 58 (0,0)) (by (with_reducible repeat (first | refine blk_drewN ?_ _ | refine blk_drew ?_ | refine blk_alloc ?_ _));exact BK466.out)):gb466 ≠ gb467));have n6_:=Aside0.mk ((by rw [hg];exact Nat.ne_of_gt (blk_lt (g:=gb466) (o:=.cells #[.int .i64 a0_0,.int .i64 a0_1,.float .f64 a0_2,.int .i64 a0_3,.float .f64 a0_4,.int .i64 a0_5] 58 (0,0)) (by (with_reducible repeat (first | refine blk_drewN ?_ _ | refine blk_drew ?_ | refine blk_alloc ?_ _));exact BK466.out)):gb467 ≠ gb466));clear BK466;clear HB;have BK466:=n0_;have HB:=n1_;have BK467:=n2_;have GW467:=n3_;have GE467:=n4_;have NB466_467:=n5_;have NB467_466:=n6_;clear n0_ n1_ n2_ n3_ n4_ n5_ n6_;clear hb hbox hg;have hnb6:=NB466_467.out;have hnc6:=NB467_466.out;have hcz7_0:w5.cell? ⟨gb466,0,none⟩ = some (.int .i64 a0_0):=(blk_cell BK466.out 0).trans rfl;have hcz7_1:w5.cell? ⟨gb466,1,none⟩ = some (.int .i64 a0_1):=(blk_cell BK466.out 1).trans rfl;have hcz7_2:w5.cell? ⟨gb466,2,none⟩ = some (.float .f64 a0_2):=(blk_cell BK466.out 2).trans rfl;have hcz7_3:w5.cell? ⟨gb466,3,none⟩ = some (.int .i64 a0_3):=(blk_cell BK466.out 3).trans rfl;have hcz7_4:w5.cell? ⟨gb466,4,none⟩ = some (.float .f64 a0_4):=(blk_cell BK466.out 4).trans rfl;have hcz7_5:w5.cell? ⟨gb466,5,none⟩ = some (.int .i64 a0_5):=(blk_cell BK466.out 5).trans rfl;have hfz7_0:=blk_frozen BK466.out 0;have hfz7_1:=blk_frozen BK466.out 1;have hfz7_2:=blk_frozen BK466.out 2;have hfz7_3:=blk_frozen BK466.out 3;have hfz7_4:=blk_frozen BK466.out 4;have hfz7_5:=blk_frozen BK466.out 5;have hcz8_0:w5.cell? ⟨gb467,0,none⟩ = some (.int .i64 a1_0):=(blk_cell BK467.out 0).trans rfl;have hcz8_1:w5.cell? ⟨gb467,1,none⟩ = some (.int .i64 a1_1):=(blk_cell BK467.out 1).trans rfl;have hcz8_2:w5.cell? ⟨gb467,2,none⟩ = some (.float .f64 a1_2):=(blk_cell BK467.out 2).trans rfl;have hcz8_3:w5.cell? ⟨gb467,3,none⟩ = some (.int .i64 a1_3):=(blk_cell BK467.out 3).trans rfl;have hcz8_4:w5.cell? ⟨gb467,4,none⟩ = some (.float .f64 a1_4):=(blk_cell BK467.out 4).trans rfl;have hcz8_5:w5.cell? ⟨gb467,5,none⟩ = some (.int .i64 a1_5):=(blk_cell BK467.out 5).trans rfl;have hfz8_0:=blk_frozen BK467.out 0;have hfz8_1:=blk_frozen BK467.out 1;have hfz8_2:=blk_frozen BK467.out 2;have hfz8_3:=blk_frozen BK467.out 3;have hfz8_4:=blk_frozen BK467.out 4;have hfz8_5:=blk_frozen BK467.out 5))
  go_ret
  exact ⟨by first | rfl | (simp [errW_none,errW_some] <;> rfl) | (simp [*,errW_none,errW_some] <;> rfl),by repeat (first | (with_reducible first | exact HB.out | apply below_alloc | apply pw_below_drewN | apply below_drew1 | refine below_set ?_ GE466.out | refine below_set ?_ GE467.out) | exact HB.out)⟩
 rw [if_neg c3] at H
 have c3b0:(a0_1 == a1_1) = false:=beq_eq_false_iff_ne.mpr c3
 have c3b1:(a0_1 != a1_1) = true:=bne_iff_ne.mpr c3
 obtain rfl:=Option.some.inj H
 go_enter Try.func35,Try.ntmps35
 go_wp2_with (first | ((with_reducible refine gate_dst (N:=2) rfl ?_);refine box_event ?hg (N:=2) ?hd (cs:=#[.int .i64 a0_0,.int .i64 a0_1,.float .f64 a0_2,.int .i64 a0_3,.float .f64 a0_4,.int .i64 a0_5]) (t:=58) ?hr ?_;(case hd => rfl);(case hg => rfl);(case hr => first | (go_simp;done) | (go_simp;rfl));intro gb466 hg w9 hbox hb;have n0_:=Aside0.mk (below_step (by repeat (first | (with_reducible first | exact HB.out | apply below_alloc | apply pw_below_drewN | apply below_drew1) | exact HB.out)) hb);have n1_:=Aside0.mk (hbox);have n2_:=Aside0.mk ((by rw [hg];exact (below_size (by repeat (first | (with_reducible first | exact HB.out | apply below_alloc | apply pw_below_drewN | apply below_drew1) | exact HB.out))):w.heap.size ≤ gb466));have n3_:=Aside0.mk ((by rw [hg];exact (below_size (by repeat (first | (with_reducible first | exact HB.out | apply below_alloc | apply pw_below_drewN | apply below_drew1) | exact HB.out))):w.heap.size ≤ gb466));clear HB;have HB:=n0_;have BK466:=n1_;have GW466:=n2_;have GE466:=n3_;clear n0_ n1_ n2_ n3_;clear hb hbox hg) | ((with_reducible refine gate_dst (N:=3) rfl ?_);refine box_event ?hg (N:=3) ?hd (cs:=#[.int .i64 a1_0,.int .i64 a1_1,.float .f64 a1_2,.int .i64 a1_3,.float .f64 a1_4,.int .i64 a1_5]) (t:=58) ?hr ?_;(case hd => rfl);(case hg => rfl);(case hr => first | (go_simp;done) | (go_simp;rfl));intro gb467 hg w10 hbox hb;have n0_:=Aside0.mk (blk_below (g:=gb466) (o:=.cells #[.int .i64 a0_0,.int .i64 a0_1,.float .f64 a0_2,.int .i64 a0_3,.float .f64 a0_4,.int .i64 a0_5] 58 (0,0)) (by (with_reducible repeat (first | refine blk_drewN ?_ _ | refine blk_drew ?_ | refine blk_alloc ?_ _));exact BK466.out) hb);have n1_:=Aside0.mk (below_step (by repeat (first | (with_reducible first | exact HB.out | apply below_alloc | apply pw_below_drewN | apply below_drew1 | refine below_set ?_ GE466.out) | exact HB.out)) hb);have n2_:=Aside0.mk (hbox);have n3_:=Aside0.mk ((by rw [hg];exact (below_size (by repeat (first | (with_reducible first | exact HB.out | apply below_alloc | apply pw_below_drewN | apply below_drew1 | refine below_set ?_ GE466.out) | exact HB.out))):w.heap.size ≤ gb467));have n4_:=Aside0.mk ((by rw [hg];exact (below_size (by repeat (first | (with_reducible first | exact HB.out | apply below_alloc | apply pw_below_drewN | apply below_drew1 | refine below_set ?_ GE466.out) | exact HB.out))):w.heap.size ≤ gb467));have n5_:=Aside0.mk ((by rw [hg];exact Nat.ne_of_lt (blk_lt (g:=gb466) (o:=.cells #[.int .i64 a0_0,.int .i64 a0_1,.float .f64 a0_2,.int .i64 a0_3,.float .f64 a0_4,.int .i64 a0_5] 58 (0,0)) (by (with_reducible repeat (first | refine blk_drewN ?_ _ | refine blk_drew ?_ | refine blk_alloc ?_ _));exact BK466.out)):gb466 ≠ gb467));have n6_:=Aside0.mk ((by rw [hg];exact Nat.ne_of_gt (blk_lt (g:=gb466) (o:=.cells #[.int .i64 a0_0,.int .i64 a0_1,.float .f64 a0_2,.int .i64 a0_3,.float .f64 a0_4,.int .i64 a0_5] 58 (0,0)) (by (with_reducible repeat (first | refine blk_drewN ?_ _ | refine blk_drew ?_ | refine blk_alloc ?_ _));exact BK466.out)):gb467 ≠ gb466));clear BK466;clear HB;have BK466:=n0_;have HB:=n1_;have BK467:=n2_;have GW467:=n3_;have GE467:=n4_;have NB466_467:=n5_;have NB467_466:=n6_;clear n0_ n1_ n2_ n3_ n4_ n5_ n6_;clear hb hbox hg;have hnb11:=NB466_467.out;have hnc11:=NB467_466.out;have hcz12_0:w10.cell? ⟨gb466,0,none⟩ = some (.int .i64 a0_0):=(blk_cell BK466.out 0).trans rfl;have hcz12_1:w10.cell? ⟨gb466,1,none⟩ = some (.int .i64 a0_1):=(blk_cell BK466.out 1).trans rfl;have hcz12_2:w10.cell? ⟨gb466,2,none⟩ = some (.float .f64 a0_2):=(blk_cell BK466.out 2).trans rfl;have hcz12_3:w10.cell? ⟨gb466,3,none⟩ = some (.int .i64 a0_3):=(blk_cell BK466.out 3).trans rfl;have hcz12_4:w10.cell? ⟨gb466,4,none⟩ = some (.float .f64 a0_4):=(blk_cell BK466.out 4).trans rfl;have hcz12_5:w10.cell? ⟨gb466,5,none⟩ = some (.int .i64 a0_5):=(blk_cell BK466.out 5).trans rfl;have hfz12_0:=blk_frozen BK466.out 0;have hfz12_1:=blk_frozen BK466.out 1;have hfz12_2:=blk_frozen BK466.out 2;have hfz12_3:=blk_frozen BK466.out 3;have hfz12_4:=blk_frozen BK466.out 4;have hfz12_5:=blk_frozen BK466.out 5;have hcz13_0:w10.cell? ⟨gb467,0,none⟩ = some (.int .i64 a1_0):=(blk_cell BK467.out 0).trans rfl;have hcz13_1:w10.cell? ⟨gb467,1,none⟩ = some (.int .i64 a1_1):=(blk_cell BK467.out 1).trans rfl;have hcz13_2:w10.cell? ⟨gb467,2,none⟩ = some (.float .f64 a1_2):=(blk_cell BK467.out 2).trans rfl;have hcz13_3:w10.cell? ⟨gb467,3,none⟩ = some (.int .i64 a1_3):=(blk_cell BK467.out 3).trans rfl;have hcz13_4:w10.cell? ⟨gb467,4,none⟩ = some (.float .f64 a1_4):=(blk_cell BK467.out 4).trans rfl;have hcz13_5:w10.cell? ⟨gb467,5,none⟩ = some (.int .i64 a1_5):=(blk_cell BK467.out 5).trans rfl;have hfz13_0:=blk_frozen BK467.out 0;have hfz13_1:=blk_frozen BK467.out 1;have hfz13_2:=blk_frozen BK467.out 2;have hfz13_3:=blk_frozen BK467.out 3;have hfz13_4:=blk_frozen BK467.out 4;have hfz13_5:=blk_frozen BK467.out 5))
 go_ret
 exact ⟨by first | rfl | (simp [errW_none,errW_some] <;> rfl) | (simp [*,errW_none,errW_some] <;> rfl),by repeat (first | (with_reducible first | exact HB.out | apply below_alloc | apply pw_below_drewN | apply below_drew1 | refine below_set ?_ GE466.out | refine below_set ?_ GE467.out) | exact HB.out)⟩
def scopedv_number.f (a0:Int):Option (Bool):=(ident_CheckId.f a0).bind fun t468 => (some (t468 == 0))
set_option maxHeartbeats 8000000 in
set_option maxRecDepth 100000 in
theorem scopedv_number.calls (a0:Int) (r:Bool) (w:World) (h:scopedv_number.f a0 = some r) :
  Calls Try.prog 54 #[.int .i64 a0] w fun e w' => e = .returned (.bool r) ∧ Drawn0 w w':=by
 have H:((ident_CheckId.f a0).bind fun t468 => (some (t468 == 0))) = some r:=h
 clear h
 replace H:=Option.bind_eq_some_iff.mp H
 obtain ⟨t468,A20,H⟩:=H
 replace H:(some (t468 == 0)) = some r:=H
 have A2:=Aside0.mk A20
 clear A20
 obtain rfl:=Option.some.inj H
 go_enter Try.func54,Try.ntmps54
 go_wp2_with (first | ((with_reducible refine gate_callee (f:=49) rfl ?_);refine goesL_ (some 4) rfl rfl Try.func49 (by kernel_rfl) rfl #[.int .i64 a0] rfl (by (try simp only [List.map_toArray,List.map_cons,List.map_nil]);first | done | rfl | (simp only [List.length_drop,List.length_take];rfl)) ?_;(with_reducible refine (ident_CheckId.calls a0 t468 _ A2.out).mono ?_);rintro e w' ⟨rfl,⟨nd,rfl⟩⟩;refine ⟨_,rfl,?_⟩))
 go_ret
 exact ⟨by first | rfl | (simp;done) | (simp [*];done),by repeat (first | exact Drawn0.refl _ | apply Drawn0.step)⟩
def scopedv_distance.f (k:Nat) (a0:Nat):Option (Bool):=(message_Check.f k 2 1 1 1 (([(⟨1,1,a0,0,0⟩:S56)]:List (S56))) 0 0 0 0 0 0 0 0 (⟨#[]⟩:ByteArray) 0 0 (⟨#[]⟩:ByteArray)).bind fun t473 => (some (t473 == 0))
set_option maxHeartbeats 8000000 in
set_option maxRecDepth 100000 in
theorem scopedv_distance.calls (k:Nat) (a0:Nat) (r:Bool) (w:World) (h:scopedv_distance.f k a0 = some r) :
  Calls Try.prog 83 #[.float .f64 a0] w fun e w' => e = .returned (.bool r) ∧ Below w.heap.size w w':=by
 have hu56:=Try.underlying56
 have hu118:=Try.underlying118
 have HB:=Aside0.mk (Below.refl w.heap.size w)
 have H:((message_Check.f k 2 1 1 1 (([(⟨1,1,a0,0,0⟩:S56)]:List (S56))) 0 0 0 0 0 0 0 0 (⟨#[]⟩:ByteArray) 0 0 (⟨#[]⟩:ByteArray)).bind fun t473 => (some (t473 == 0))) = some r:=h
 clear h
 obtain ⟨y470,hy470⟩:∃ y_:List (S56),y_ = (([(⟨1,1,a0,0,0⟩:S56)]:List (S56))):=⟨_,rfl⟩
 replace H:((message_Check.f k 2 1 1 1 y470 0 0 0 0 0 0 0 0 (⟨#[]⟩:ByteArray) 0 0 (⟨#[]⟩:ByteArray)).bind fun t473 => (some (t473 == 0))) = some r:=by first | (rw [hy470];with_reducible exact H) | (have H2_:=(Option.bind_some _ _).symm.trans H;rw [hy470];with_reducible exact H2_) | (have H2_:=(Option.bind_some _ _).symm.trans H;with_reducible exact H2_) | with_reducible exact H | (rw [hy470];exact H) | exact H
 have Ny470:=Aside0.mk hy470
 clear hy470
 replace H:=Option.bind_eq_some_iff.mp H
 obtain ⟨t473,A20,H⟩:=H
 replace H:(some (t473 == 0)) = some r:=H
 have A2:=Aside0.mk A20
 clear A20
 obtain rfl:=Option.some.inj H
 go_enter Try.func83,Try.ntmps83
 go_wp2_with (first | ((with_reducible refine gate_dst (N:=3) rfl ?_);refine box_event ?hg (N:=3) ?hd (cs:=#[.int .i64 0,.int .i64 0,.float .f64 0,.float .f64 0,.int .i64 0]) (t:=56) ?hr ?_;(case hd => rfl);(case hg => rfl);(case hr => first | (go_simp;done) | (go_simp;rfl));intro gb469 hg w3 hbox hb;have n0_:=Aside0.mk (below_step (by repeat (first | (with_reducible first | exact HB.out | apply below_alloc | apply pw_below_drewN | apply below_drew1) | exact HB.out)) hb);have n1_:=Aside0.mk (hbox);have n2_:=Aside0.mk ((by rw [hg];exact (below_size (by repeat (first | (with_reducible first | exact HB.out | apply below_alloc | apply pw_below_drewN | apply below_drew1) | exact HB.out))):w.heap.size ≤ gb469));have n3_:=Aside0.mk ((by rw [hg];exact (below_size (by repeat (first | (with_reducible first | exact HB.out | apply below_alloc | apply pw_below_drewN | apply below_drew1) | exact HB.out))):w.heap.size ≤ gb469));clear HB;have HB:=n0_;have BK469:=n1_;have GW469:=n2_;have GE469:=n3_;clear n0_ n1_ n2_ n3_;clear hb hbox hg;have hcz4_0:w3.cell? ⟨gb469,0,none⟩ = some (.int .i64 0):=(blk_cell BK469.out 0).trans rfl;have hcz4_1:w3.cell? ⟨gb469,1,none⟩ = some (.int .i64 0):=(blk_cell BK469.out 1).trans rfl;have hcz4_2:w3.cell? ⟨gb469,2,none⟩ = some (.float .f64 0):=(blk_cell BK469.out 2).trans rfl;have hcz4_3:w3.cell? ⟨gb469,3,none⟩ = some (.float .f64 0):=(blk_cell BK469.out 3).trans rfl;have hcz4_4:w3.cell? ⟨gb469,4,none⟩ = some (.int .i64 0):=(blk_cell BK469.out 4).trans rfl;have hfz4_0:=blk_frozen BK469.out 0;have hfz4_1:=blk_frozen BK469.out 1;have hfz4_2:=blk_frozen BK469.out 2;have hfz4_3:=blk_frozen BK469.out 3;have hfz4_4:=blk_frozen BK469.out 4) | ((with_reducible refine gate_dst (N:=7) rfl ?_);refine Kd.R_lit k56 _ 56 ?hg (N:=7) ?hd (xs:=([(⟨1,1,a0,0,0⟩:S56)]:List (S56))) (inner:=[.int .i64 1,.int .i64 1,.float .f64 a0,.float .f64 0,.int .i64 0]) (ok:=fun _ => True) (okp:=fun _ => True) ?hr ?hp (fun _ hk => hk) trivial (Below.refl _ _) (Nat.le_refl _) (by simp) ?_;(case hd => rfl);(case hg => rfl);(case hr => first | (go_simp;done) | (go_simp;rfl));(case hp => exact (Reps.c5 (show Kd.M k56 _ _ _ (⟨1,1,a0,0,0⟩:S56) [.int .i64 1,.int .i64 1,.float .f64 a0,.float .f64 0,.int .i64 0] from (k56_mkM _ _ _ (⟨1,1,a0,0,0⟩:S56) )) (Reps.none _ _)));intro v471 w5 ho6 hb hg_ hnew_;clear hg_ hnew_;(first | rw [← Ny470.out] at ho6 | (simp only [Int.reduceToNat] at ho6;rw [← Ny470.out] at ho6));have n0_:=Aside0.mk (Kd.R_lower (Kd.R_newB ho6 (g:=gb469) (o:=.cells #[.int .i64 1,.int .i64 1,.float .f64 a0,.float .f64 0,.int .i64 0] 56 (0,0)) (by (with_reducible repeat (first | refine blk_drewN ?_ _ | refine blk_drew ?_ | refine blk_alloc ?_ _));refine blk_put (cs:=#[.int .i64 1,.int .i64 1,.float .f64 a0,.float .f64 0,.int .i64 0]) ?_ 4 _ rfl;(with_reducible repeat (first | refine blk_drewN ?_ _ | refine blk_drew ?_ | refine blk_alloc ?_ _));refine blk_put (cs:=#[.int .i64 1,.int .i64 1,.float .f64 a0,.float .f64 0,.int .i64 0]) ?_ 3 _ rfl;(with_reducible repeat (first | refine blk_drewN ?_ _ | refine blk_drew ?_ | refine blk_alloc ?_ _));refine blk_put (cs:=#[.int .i64 1,.int .i64 1,.float .f64 0,.float .f64 0,.int .i64 0]) ?_ 2 _ rfl;(with_reducible repeat (first | refine blk_drewN ?_ _ | refine blk_drew ?_ | refine blk_alloc ?_ _));refine blk_put (cs:=#[.int .i64 1,.int .i64 0,.float .f64 0,.float .f64 0,.int .i64 0]) ?_ 1 _ rfl;(with_reducible repeat (first | refine blk_drewN ?_ _ | refine blk_drew ?_ | refine blk_alloc ?_ _));refine blk_put (cs:=#[.int .i64 0,.int .i64 0,.float .f64 0,.float .f64 0,.int .i64 0]) ?_ 0 _ rfl;(with_reducible repeat (first | refine blk_drewN ?_ _ | refine blk_drew ?_ | refine blk_alloc ?_ _));exact BK469.out)) (below_size (by repeat (first | (with_reducible first | exact HB.out | apply below_alloc | apply pw_below_drewN | apply below_drew1 | refine below_set ?_ GE469.out) | exact HB.out))));have n1_:=Aside0.mk (blk_below (g:=gb469) (o:=.cells #[.int .i64 1,.int .i64 1,.float .f64 a0,.float .f64 0,.int .i64 0] 56 (0,0)) (by (with_reducible repeat (first | refine blk_drewN ?_ _ | refine blk_drew ?_ | refine blk_alloc ?_ _));refine blk_put (cs:=#[.int .i64 1,.int .i64 1,.float .f64 a0,.float .f64 0,.int .i64 0]) ?_ 4 _ rfl;(with_reducible repeat (first | refine blk_drewN ?_ _ | refine blk_drew ?_ | refine blk_alloc ?_ _));refine blk_put (cs:=#[.int .i64 1,.int .i64 1,.float .f64 a0,.float .f64 0,.int .i64 0]) ?_ 3 _ rfl;(with_reducible repeat (first | refine blk_drewN ?_ _ | refine blk_drew ?_ | refine blk_alloc ?_ _));refine blk_put (cs:=#[.int .i64 1,.int .i64 1,.float .f64 0,.float .f64 0,.int .i64 0]) ?_ 2 _ rfl;(with_reducible repeat (first | refine blk_drewN ?_ _ | refine blk_drew ?_ | refine blk_alloc ?_ _));refine blk_put (cs:=#[.int .i64 1,.int .i64 0,.float .f64 0,.float .f64 0,.int .i64 0]) ?_ 1 _ rfl;(with_reducible repeat (first | refine blk_drewN ?_ _ | refine blk_drew ?_ | refine blk_alloc ?_ _));refine blk_put (cs:=#[.int .i64 0,.int .i64 0,.float .f64 0,.float .f64 0,.int .i64 0]) ?_ 0 _ rfl;(with_reducible repeat (first | refine blk_drewN ?_ _ | refine blk_drew ?_ | refine blk_alloc ?_ _));exact BK469.out) hb);have n2_:=Aside0.mk (below_step (by repeat (first | (with_reducible first | exact HB.out | apply below_alloc | apply pw_below_drewN | apply below_drew1 | refine below_set ?_ GE469.out) | exact HB.out)) hb);clear BK469;clear HB;have HO472:=n0_;have BK469:=n1_;have HB:=n2_;clear n0_ n1_ n2_;clear hb ho6;obtain ⟨Ao7,co7,eo7⟩:=Kd.R_slice HO472.out;subst eo7) | ((with_reducible refine gate_callee (f:=109) rfl ?_);refine goesL_ (some 9) rfl rfl Try.func109 (by kernel_rfl) rfl #[.agg #[.int .i64 2,.int .u64 1,.int .u64 1,.int .u64 1,.slice Ao7 y470.length co7,.int .i64 0,.int .i64 0,.int .i64 0,.int .i64 0,.int .i64 0,.int .i64 0,.int .u64 0,.int .i64 0,.string (⟨#[]⟩:ByteArray),.int .i64 0,.int .i64 0,.string (⟨#[]⟩:ByteArray)]] rfl (by (try simp only [List.map_toArray,List.map_cons,List.map_nil]);first | done | rfl | (simp only [List.length_drop,List.length_take];rfl)) ?_;(with_reducible refine (message_Check.calls k 2 1 1 1 _ _ y470 0 0 0 0 0 0 0 0 (⟨#[]⟩:ByteArray) 0 0 (⟨#[]⟩:ByteArray) t473 _ ?side1 ?side2 A2.out).mono ?_);(case side1 => repeat (first | exact (Kd.R_reads' HO472.out).2.2 | (with_reducible refine Kd.C_alloc ?_ _) | (with_reducible refine Kd.C_drewN ?_ _) | (with_reducible refine Kd.C_drew ?_)));(case side2 => exact (Kd.R_reads' HO472.out).2.1);rintro e w8 ⟨rfl,hb⟩;refine ⟨_,rfl,?_⟩;have n0_:=Aside0.mk (Kd.R_below (by (with_reducible repeat (first | apply Kd.R_alloc | apply Kd.R_drewN | apply Kd.R_drew));exact HO472.out) hb);have n1_:=Aside0.mk (blk_below (g:=gb469) (o:=.cells #[.int .i64 1,.int .i64 1,.float .f64 a0,.float .f64 0,.int .i64 0] 56 (0,0)) (by (with_reducible repeat (first | refine blk_drewN ?_ _ | refine blk_drew ?_ | refine blk_alloc ?_ _));exact BK469.out) hb);have n2_:=Aside0.mk (below_step (by repeat (first | (with_reducible first | exact HB.out | apply below_alloc | apply pw_below_drewN | apply below_drew1 | refine below_set ?_ GE469.out) | exact HB.out)) hb);clear HO472;clear BK469;clear HB;have HO472:=n0_;have BK469:=n1_;have HB:=n2_;clear n0_ n1_ n2_;(try clear hb);(try clear hb2);(try clear hk);(try clear hi)))
 go_ret
 exact ⟨by first | rfl | (simp [errW_none,errW_some] <;> rfl) | (simp [*,errW_none,errW_some] <;> rfl),by repeat (first | (with_reducible first | exact HB.out | apply below_alloc | apply pw_below_drewN | apply below_drew1 | refine below_set ?_ GE469.out) | exact HB.out)⟩
def scopedv_homed.j0:Nat → Int → Bool → Int → Int → Nat → Option (Bool)
 | 0,_,_,_,_,_ => none
 | k + 1,x0,x14,x475000,x475001,x475002 => if x14 = true then (some false) else ((math_IsInf.f x475002 1).bind fun t476 => (if t476 = true then (some (x475001 == 0)) else ((scopedv_number.f x475001).bind fun t477 => (if t477 = true then (some ((FloatKind.f64.format.order x475002 0 == some .eq) == (x475001 == x0))) else (some false)))))
def scopedv_homed.f (k:Nat) (a0:Int) (a1_0:Int) (a1_1:Int) (a1_2:Nat):Option (Bool):=if a1_0 = a0 then ((scopedv_distance.f k a1_2).bind fun t475 => (scopedv_homed.j0 k a0 (!t475) a1_0 a1_1 a1_2)) else (scopedv_homed.j0 k a0 true a1_0 a1_1 a1_2)
set_option maxHeartbeats 8000000 in
set_option maxRecDepth 100000 in
theorem scopedv_homed.calls (k:Nat) (a0:Int) (a1_0:Int) (a1_1:Int) (a1_2:Nat) (r:Bool) (w:World) (h:scopedv_homed.f k a0 a1_0 a1_1 a1_2 = some r) :
  Calls Try.prog 55 #[.int .i64 a0,.agg #[.int .i64 a1_0,.int .i64 a1_1,.float .f64 a1_2]] w fun e w' => e = .returned (.bool r) ∧ Below w.heap.size w w':=by
 have hu34:=Try.underlying34
 have HB:=Aside0.mk (Below.refl w.heap.size w)
 have H:(if a1_0 = a0 then ((scopedv_distance.f k a1_2).bind fun t475 => (scopedv_homed.j0 k a0 (!t475) a1_0 a1_1 a1_2)) else (scopedv_homed.j0 k a0 true a1_0 a1_1 a1_2)) = some r:=h
 clear h
 have HC3:=Aside0.mk H
 clear H
 go_enter Try.func55,Try.ntmps55
 go_upto_region 1 with (first | ((with_reducible refine gate_dst (N:=3) rfl ?_);refine box_event ?hg (N:=3) ?hd (cs:=#[.int .i64 a1_0,.int .i64 a1_1,.float .f64 a1_2]) (t:=34) ?hr ?_;(case hd => rfl);(case hg => rfl);(case hr => first | (go_simp;done) | (go_simp;rfl));intro gb474 hg w4 hbox hb;have n0_:=Aside0.mk (below_step (by repeat (first | (with_reducible first | exact HB.out | apply below_alloc | apply pw_below_drewN | apply below_drew1) | exact HB.out)) hb);have n1_:=Aside0.mk (hbox);have n2_:=Aside0.mk ((by rw [hg];exact (below_size (by repeat (first | (with_reducible first | exact HB.out | apply below_alloc | apply pw_below_drewN | apply below_drew1) | exact HB.out))):w.heap.size ≤ gb474));have n3_:=Aside0.mk ((by rw [hg];exact (below_size (by repeat (first | (with_reducible first | exact HB.out | apply below_alloc | apply pw_below_drewN | apply below_drew1) | exact HB.out))):w.heap.size ≤ gb474));clear HB;have HB:=n0_;have BK474:=n1_;have GW474:=n2_;have GE474:=n3_;clear n0_ n1_ n2_ n3_;clear hb hbox hg))
 (try simp only [Act.put,List.setIfInBounds_toArray,List.set_cons_zero,List.set_cons_succ])
 go_cut [14] (fun v14 wc => ∃ (kq:Nat) (x14_2:Bool),v14 = .bool x14_2 ∧ Aside0 (scopedv_homed.j0 kq a0 x14_2 a1_0 a1_1 a1_2 = some r) ∧ Aside0 (kq ≤ k) ∧ Aside0 (wc.heap[gb474]? = some (.cells #[.int .i64 a1_0,.int .i64 a1_1,.float .f64 a1_2] 34 (0,0))) ∧ Aside0 (Below w.heap.size w wc))
 case first =>
  have H:=HC3.out
  clear HC3
  by_cases c5:a1_0 = a0
  ·rw [if_pos c5] at H
   have c5b0:(a1_0 == a0) = true:=beq_iff_eq.mpr c5
   have c5b1:(a1_0 != a0) = false:=bne_eq_false_iff_eq.mpr c5
   clear c5
   (first | rw [c5b0] | (simp only [i64_w,i32_w];rw [c5b0]) | skip)
   replace H:=Option.bind_eq_some_iff.mp H
   obtain ⟨t475,A60,H⟩:=H
   replace H:(scopedv_homed.j0 k a0 (!t475) a1_0 a1_1 a1_2) = some r:=H
   have A6:=Aside0.mk A60
   clear A60
   have H':=Aside0.mk H
   clear H
   have hcz7_0:w4.cell? ⟨gb474,0,none⟩ = some (.int .i64 a1_0):=(blk_cell BK474.out 0).trans rfl
   have hcz7_1:w4.cell? ⟨gb474,1,none⟩ = some (.int .i64 a1_1):=(blk_cell BK474.out 1).trans rfl
   have hcz7_2:w4.cell? ⟨gb474,2,none⟩ = some (.float .f64 a1_2):=(blk_cell BK474.out 2).trans rfl
   have hfz7_0:=blk_frozen BK474.out 0
   have hfz7_1:=blk_frozen BK474.out 1
   have hfz7_2:=blk_frozen BK474.out 2
   go_wp2_with (first | (go_at_call 83;(with_reducible refine (scopedv_distance.calls k a1_2 t475 _ A6.out).mono ?_);rintro e w8 ⟨rfl,hb⟩;have n0_:=Aside0.mk (blk_below (g:=gb474) (o:=.cells #[.int .i64 a1_0,.int .i64 a1_1,.float .f64 a1_2] 34 (0,0)) (by (with_reducible repeat (first | refine blk_drewN ?_ _ | refine blk_drew ?_ | refine blk_alloc ?_ _));exact BK474.out) hb);have n1_:=Aside0.mk (below_step (by repeat (first | (with_reducible first | exact HB.out | apply below_alloc | apply pw_below_drewN | apply below_drew1 | refine below_set ?_ GE474.out) | exact HB.out)) hb);clear BK474;clear HB;have BK474:=n0_;have HB:=n1_;clear n0_ n1_;(try clear hb);(try clear hb2);(try clear hk);(try clear hi)))
   go_meet
   case rel => exact ⟨_,(!t475),(by first | rfl | (simp;done) | (simp [*];done)),H',⟨by first | omega | exact Nat.le_refl _⟩,⟨by (with_reducible repeat (first | refine blk_drewN ?_ _ | refine blk_drew ?_ | refine blk_alloc ?_ _));exact BK474.out⟩,⟨by repeat (first | (with_reducible first | exact HB.out | apply below_alloc | apply pw_below_drewN | apply below_drew1 | refine below_set ?_ GE474.out) | exact HB.out)⟩⟩
  rw [if_neg c5] at H
  have c5b0:(a1_0 == a0) = false:=beq_eq_false_iff_ne.mpr c5
  have c5b1:(a1_0 != a0) = true:=bne_iff_ne.mpr c5
  (first | rw [c5b0] | (simp only [i64_w,i32_w];rw [c5b0]) | skip)
  have H':=Aside0.mk H
  clear H
  have hcz9_0:w4.cell? ⟨gb474,0,none⟩ = some (.int .i64 a1_0):=(blk_cell BK474.out 0).trans rfl
  have hcz9_1:w4.cell? ⟨gb474,1,none⟩ = some (.int .i64 a1_1):=(blk_cell BK474.out 1).trans rfl
  have hcz9_2:w4.cell? ⟨gb474,2,none⟩ = some (.float .f64 a1_2):=(blk_cell BK474.out 2).trans rfl
  have hfz9_0:=blk_frozen BK474.out 0
  have hfz9_1:=blk_frozen BK474.out 1
  have hfz9_2:=blk_frozen BK474.out 2
  go_wp2
  go_meet
  case rel => exact ⟨_,(true),(by first | rfl | (simp;done) | (simp [*];done)),H',⟨by first | omega | exact Nat.le_refl _⟩,⟨by (with_reducible repeat (first | refine blk_drewN ?_ _ | refine blk_drew ?_ | refine blk_alloc ?_ _));exact BK474.out⟩,⟨by repeat (first | (with_reducible first | exact HB.out | apply below_alloc | apply pw_below_drewN | apply below_drew1 | refine below_set ?_ GE474.out) | exact HB.out)⟩⟩
 case rest =>
  clear HC3
  obtain ⟨kq,x14_2,rfl,HA,HJ2,BK474,HB⟩:=hcut
  cases kq with
  | zero => exact absurd HA.out (by simp [scopedv_homed.j0])
  | succ kj2 =>
   have H:=HA.out
   clear HA
   simp only [scopedv_homed.j0] at H
   by_cases c10:x14_2 = true
   ·subst c10
    have H1:(some false) = some r:=by rw [if_pos rfl] at H;exact H
    clear H
    have H:=H1
    clear H1
    obtain rfl:=Option.some.inj H
    go_wp2
    go_ret
    exact ⟨by first | rfl | (simp [errW_none,errW_some] <;> rfl) | (simp [*,errW_none,errW_some] <;> rfl),by repeat (first | (with_reducible first | exact HB.out | apply below_alloc | apply pw_below_drewN | apply below_drew1 | refine below_set ?_ GE474.out) | exact HB.out)⟩
   replace c10:=Bool.eq_false_iff.mpr c10
   subst c10
   have H1:((math_IsInf.f a1_2 1).bind fun t476 => (if t476 = true then (some (a1_1 == 0)) else ((scopedv_number.f a1_1).bind fun t477 => (if t477 = true then (some ((FloatKind.f64.format.order a1_2 0 == some .eq) == (a1_1 == a0))) else (some false))))) = some r:=by rw [if_neg (show ¬ (false = true) by decide)] at H;exact H
   clear H
   have H:=H1
   clear H1
   replace H:=Option.bind_eq_some_iff.mp H
   obtain ⟨t476,A110,H⟩:=H
   replace H:(if t476 = true then (some (a1_1 == 0)) else ((scopedv_number.f a1_1).bind fun t477 => (if t477 = true then (some ((FloatKind.f64.format.order a1_2 0 == some .eq) == (a1_1 == a0))) else (some false)))) = some r:=H
   have A11:=Aside0.mk A110
   clear A110
   by_cases c12:t476 = true
   ·subst c12
    have H1:(some (a1_1 == 0)) = some r:=by rw [if_pos rfl] at H;exact H
    clear H
    have H:=H1
    clear H1
    obtain rfl:=Option.some.inj H
    have hcz13_0:wc.cell? ⟨gb474,0,none⟩ = some (.int .i64 a1_0):=(blk_cell BK474.out 0).trans rfl
    have hcz13_1:wc.cell? ⟨gb474,1,none⟩ = some (.int .i64 a1_1):=(blk_cell BK474.out 1).trans rfl
    have hcz13_2:wc.cell? ⟨gb474,2,none⟩ = some (.float .f64 a1_2):=(blk_cell BK474.out 2).trans rfl
    have hfz13_0:=blk_frozen BK474.out 0
    have hfz13_1:=blk_frozen BK474.out 1
    have hfz13_2:=blk_frozen BK474.out 2
    go_wp2_with (first | ((with_reducible refine gate_callee (f:=62) rfl ?_);refine goesL_ (some 17) rfl rfl Try.func62 (by kernel_rfl) rfl #[.float .f64 a1_2,.int .i64 1] rfl (by (try simp only [List.map_toArray,List.map_cons,List.map_nil]);first | done | rfl | (simp only [List.length_drop,List.length_take];rfl)) ?_;(with_reducible refine (math_IsInf.calls a1_2 1 true _ A11.out).mono ?_);rintro e w' ⟨rfl,⟨nd,rfl⟩⟩;refine ⟨_,rfl,?_⟩))
    go_ret
    exact ⟨by first | rfl | (simp [errW_none,errW_some] <;> rfl) | (simp [*,errW_none,errW_some] <;> rfl),by repeat (first | (with_reducible first | exact HB.out | apply below_alloc | apply pw_below_drewN | apply below_drew1 | refine below_set ?_ GE474.out) | exact HB.out)⟩
   replace c12:=Bool.eq_false_iff.mpr c12
   subst c12
   have H1:((scopedv_number.f a1_1).bind fun t477 => (if t477 = true then (some ((FloatKind.f64.format.order a1_2 0 == some .eq) == (a1_1 == a0))) else (some false))) = some r:=by rw [if_neg (show ¬ (false = true) by decide)] at H;exact H
   clear H
   have H:=H1
   clear H1
   replace H:=Option.bind_eq_some_iff.mp H
   obtain ⟨t477,A140,H⟩:=H
   replace H:(if t477 = true then (some ((FloatKind.f64.format.order a1_2 0 == some .eq) == (a1_1 == a0))) else (some false)) = some r:=H
   have A14:=Aside0.mk A140
   clear A140
   by_cases c15:t477 = true
   ·subst c15
    have H1:(some ((FloatKind.f64.format.order a1_2 0 == some .eq) == (a1_1 == a0))) = some r:=by rw [if_pos rfl] at H;exact H
    clear H
    have H:=H1
    clear H1
    obtain rfl:=Option.some.inj H
    have hcz16_0:wc.cell? ⟨gb474,0,none⟩ = some (.int .i64 a1_0):=(blk_cell BK474.out 0).trans rfl
    have hcz16_1:wc.cell? ⟨gb474,1,none⟩ = some (.int .i64 a1_1):=(blk_cell BK474.out 1).trans rfl
    have hcz16_2:wc.cell? ⟨gb474,2,none⟩ = some (.float .f64 a1_2):=(blk_cell BK474.out 2).trans rfl
    have hfz16_0:=blk_frozen BK474.out 0
    have hfz16_1:=blk_frozen BK474.out 1
    have hfz16_2:=blk_frozen BK474.out 2
    go_wp2_with (first | ((with_reducible refine gate_callee (f:=62) rfl ?_);refine goesL_ (some 17) rfl rfl Try.func62 (by kernel_rfl) rfl #[.float .f64 a1_2,.int .i64 1] rfl (by (try simp only [List.map_toArray,List.map_cons,List.map_nil]);first | done | rfl | (simp only [List.length_drop,List.length_take];rfl)) ?_;(with_reducible refine (math_IsInf.calls a1_2 1 false _ A11.out).mono ?_);rintro e w' ⟨rfl,⟨nd,rfl⟩⟩;refine ⟨_,rfl,?_⟩) | ((with_reducible refine gate_callee (f:=54) rfl ?_);refine goesL_ (some 23) rfl rfl Try.func54 (by kernel_rfl) rfl #[.int .i64 a1_1] rfl (by (try simp only [List.map_toArray,List.map_cons,List.map_nil]);first | done | rfl | (simp only [List.length_drop,List.length_take];rfl)) ?_;(with_reducible refine (scopedv_number.calls a1_1 true _ A14.out).mono ?_);rintro e w' ⟨rfl,⟨nd,rfl⟩⟩;refine ⟨_,rfl,?_⟩))
    go_ret
    exact ⟨by first | rfl | (simp [errW_none,errW_some] <;> rfl) | (simp [*,errW_none,errW_some] <;> rfl),by repeat (first | (with_reducible first | exact HB.out | apply below_alloc | apply pw_below_drewN | apply below_drew1 | refine below_set ?_ GE474.out) | exact HB.out)⟩
   replace c15:=Bool.eq_false_iff.mpr c15
   subst c15
   have H1:(some false) = some r:=by rw [if_neg (show ¬ (false = true) by decide)] at H;exact H
   clear H
   have H:=H1
   clear H1
   obtain rfl:=Option.some.inj H
   have hcz17_0:wc.cell? ⟨gb474,0,none⟩ = some (.int .i64 a1_0):=(blk_cell BK474.out 0).trans rfl
   have hcz17_1:wc.cell? ⟨gb474,1,none⟩ = some (.int .i64 a1_1):=(blk_cell BK474.out 1).trans rfl
   have hcz17_2:wc.cell? ⟨gb474,2,none⟩ = some (.float .f64 a1_2):=(blk_cell BK474.out 2).trans rfl
   have hfz17_0:=blk_frozen BK474.out 0
   have hfz17_1:=blk_frozen BK474.out 1
   have hfz17_2:=blk_frozen BK474.out 2
   go_wp2_with (first | ((with_reducible refine gate_callee (f:=62) rfl ?_);refine goesL_ (some 17) rfl rfl Try.func62 (by kernel_rfl) rfl #[.float .f64 a1_2,.int .i64 1] rfl (by (try simp only [List.map_toArray,List.map_cons,List.map_nil]);first | done | rfl | (simp only [List.length_drop,List.length_take];rfl)) ?_;(with_reducible refine (math_IsInf.calls a1_2 1 false _ A11.out).mono ?_);rintro e w' ⟨rfl,⟨nd,rfl⟩⟩;refine ⟨_,rfl,?_⟩) | ((with_reducible refine gate_callee (f:=54) rfl ?_);refine goesL_ (some 23) rfl rfl Try.func54 (by kernel_rfl) rfl #[.int .i64 a1_1] rfl (by (try simp only [List.map_toArray,List.map_cons,List.map_nil]);first | done | rfl | (simp only [List.length_drop,List.length_take];rfl)) ?_;(with_reducible refine (scopedv_number.calls a1_1 false _ A14.out).mono ?_);rintro e w' ⟨rfl,⟨nd,rfl⟩⟩;refine ⟨_,rfl,?_⟩))
   go_ret
   exact ⟨by first | rfl | (simp [errW_none,errW_some] <;> rfl) | (simp [*,errW_none,errW_some] <;> rfl),by repeat (first | (with_reducible first | exact HB.out | apply below_alloc | apply pw_below_drewN | apply below_drew1 | refine below_set ?_ GE474.out) | exact HB.out)⟩
end Go.Proofs.Ytjcnmpkaiopihaa.PA
