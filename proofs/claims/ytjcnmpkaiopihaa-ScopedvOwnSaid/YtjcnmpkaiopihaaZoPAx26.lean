/- Printed by a program of this session (wip/tools/patch_print.py and pr.py, over the kit's print): each Go function as a plain Lean function, and that the Go code comes to just its answers. Conditions: those that each theorem names. -/
import Derived.Test.YtjcnmpkaiopihaaZoPAx0
import Derived.Test.YtjcnmpkaiopihaaZoPAx2
import Derived.Test.YtjcnmpkaiopihaaZoPAx1
import Derived.Test.YtjcnmpkaiopihaaZoPAx17
namespace Go.Proofs.Ytjcnmpkaiopihaa.PA
open Go.RowKit Go.Proofs.YtjcnmpkaiopihaaW.PrintWords Go.Proofs.YtjcnmpkaiopihaaW.PrintLast Go.Proofs.YtjcnmpkaiopihaaW.PrintMore
attribute [local go_sem] max2_int min2_int max_two min_two max_three min_three max_four min_four
set_option linter.unusedVariables false
set_option linter.unusedSimpArgs false
def metric_Add.f (a0:Nat) (a1:Nat) (a2:Nat):Option (Nat):=(floatBits .add .f64 a0 a1).bind fun t390 => ((math_IsNaN.f t390).bind fun t391 => (if t391 = true then (some 9221120237041090560) else (if ((FloatKind.f64.format.order t390 a2 == some .lt) = true) then (if (FloatKind.f64.format.order t390 0 == some .eq) = true then (some 0) else (some t390)) else ((math_Inf.f 1).bind fun t392 => (some t392)))))
set_option maxHeartbeats 8000000 in
set_option maxRecDepth 100000 in
theorem metric_Add.calls (a0:Nat) (a1:Nat) (a2:Nat) (r:Nat) (w:World) (h:metric_Add.f a0 a1 a2 = some r) :
  Calls Try.prog 41 #[.float .f64 a0,.float .f64 a1,.float .f64 a2] w fun e w' => e = .returned (.float .f64 r) ∧ Drawn0 w w':=by
 have hX72:=run_Float64frombits Try.func72 (by kernel_rfl) (by kernel_rfl) (by kernel_rfl) (by kernel_rfl)
 have H:((floatBits .add .f64 a0 a1).bind fun t390 => ((math_IsNaN.f t390).bind fun t391 => (if t391 = true then (some 9221120237041090560) else (if ((FloatKind.f64.format.order t390 a2 == some .lt) = true) then (if (FloatKind.f64.format.order t390 0 == some .eq) = true then (some 0) else (some t390)) else ((math_Inf.f 1).bind fun t392 => (some t392)))))) = some r:=h
 clear h
 replace H:=Option.bind_eq_some_iff.mp H
 obtain ⟨t390,A40,H⟩:=H
 replace H:((math_IsNaN.f t390).bind fun t391 => (if t391 = true then (some 9221120237041090560) else (if ((FloatKind.f64.format.order t390 a2 == some .lt) = true) then (if (FloatKind.f64.format.order t390 0 == some .eq) = true then (some 0) else (some t390)) else ((math_Inf.f 1).bind fun t392 => (some t392))))) = some r:=H
 have A4f:∀ W_:World,(binOp .add 23 (.float .f64 a0) (.float .f64 a1)).run Try.prog W_ = .ok (.float .f64 t390) W_:=fun W_ => run_float_arith W_ .add 23 .f64 _ _ _ A40
 have A4:=Aside0.mk A40
 clear A40
 replace H:=Option.bind_eq_some_iff.mp H
 obtain ⟨t391,A50,H⟩:=H
 replace H:(if t391 = true then (some 9221120237041090560) else (if ((FloatKind.f64.format.order t390 a2 == some .lt) = true) then (if (FloatKind.f64.format.order t390 0 == some .eq) = true then (some 0) else (some t390)) else ((math_Inf.f 1).bind fun t392 => (some t392)))) = some r:=H
 have A5:=Aside0.mk A50
 clear A50
 by_cases c6:t391 = true
 ·subst c6
  have H1:(some 9221120237041090560) = some r:=by rw [if_pos rfl] at H;exact H
  clear H
  have H:=H1
  clear H1
  obtain rfl:=Option.some.inj H
  go_enter Try.func41,Try.ntmps41
  go_wp2_with (first | ((with_reducible refine gate_callee (f:=73) rfl ?_);refine goesL_ (some 13) rfl rfl Try.func73 (by kernel_rfl) rfl #[.float .f64 t390] rfl (by (try simp only [List.map_toArray,List.map_cons,List.map_nil]);first | done | rfl | (simp only [List.length_drop,List.length_take];rfl)) ?_;(with_reducible refine (math_IsNaN.calls t390 true _ A5.out).mono ?_);rintro e w' ⟨rfl,⟨nd,rfl⟩⟩;refine ⟨_,rfl,?_⟩))
  go_ret
  exact ⟨by first | rfl | (simp;done) | (simp [*];done),by repeat (first | exact Drawn0.refl _ | apply Drawn0.step)⟩
 replace c6:=Bool.eq_false_iff.mpr c6
 subst c6
 have H1:(if ((FloatKind.f64.format.order t390 a2 == some .lt) = true) then (if (FloatKind.f64.format.order t390 0 == some .eq) = true then (some 0) else (some t390)) else ((math_Inf.f 1).bind fun t392 => (some t392))) = some r:=by rw [if_neg (show ¬ (false = true) by decide)] at H;exact H
 clear H
 have H:=H1
 clear H1
 by_cases c7:((FloatKind.f64.format.order t390 a2 == some .lt) = true)
 ·rw [if_pos c7] at H
  have c7b0:(FloatKind.f64.format.order t390 a2 == some .lt) = true:=c7
  (try (have c7b1:decide (FloatKind.f64.format.order t390 a2 = some .lt) = true:=by simpa using c7))
  (try (have c7b2:(FloatKind.f64.format.order t390 a2 == some .lt) = true:=by simpa using c7))
  clear c7
  by_cases c8:(FloatKind.f64.format.order t390 0 == some .eq) = true
  ·rw [if_pos c8] at H
   have c8b0:(FloatKind.f64.format.order t390 0 == some .eq) = true:=c8
   (try (have c8b1:decide (FloatKind.f64.format.order t390 0 = some .eq) = true:=by simpa using c8))
   (try (have c8b2:(FloatKind.f64.format.order t390 0 == some .eq) = true:=by simpa using c8))
   clear c8
   obtain rfl:=Option.some.inj H
   go_enter Try.func41,Try.ntmps41
   go_wp2_with (first | ((with_reducible refine gate_callee (f:=73) rfl ?_);refine goesL_ (some 13) rfl rfl Try.func73 (by kernel_rfl) rfl #[.float .f64 t390] rfl (by (try simp only [List.map_toArray,List.map_cons,List.map_nil]);first | done | rfl | (simp only [List.length_drop,List.length_take];rfl)) ?_;(with_reducible refine (math_IsNaN.calls t390 false _ A5.out).mono ?_);rintro e w' ⟨rfl,⟨nd,rfl⟩⟩;refine ⟨_,rfl,?_⟩))
   go_ret
   exact ⟨by first | rfl | (simp;done) | (simp [*];done),by repeat (first | exact Drawn0.refl _ | apply Drawn0.step)⟩
  rw [if_neg c8] at H
  have c8b0:(FloatKind.f64.format.order t390 0 == some .eq) = false:=by simpa using c8
  (try (have c8b1:decide (FloatKind.f64.format.order t390 0 = some .eq) = false:=by simpa using c8))
  (try (have c8b2:(FloatKind.f64.format.order t390 0 == some .eq) = false:=by simpa using c8))
  (try (have c8b3:¬ (FloatKind.f64.format.order t390 0 = some .eq):=by simpa using c8))
  clear c8
  obtain rfl:=Option.some.inj H
  go_enter Try.func41,Try.ntmps41
  go_wp2_with (first | ((with_reducible refine gate_callee (f:=73) rfl ?_);refine goesL_ (some 13) rfl rfl Try.func73 (by kernel_rfl) rfl #[.float .f64 t390] rfl (by (try simp only [List.map_toArray,List.map_cons,List.map_nil]);first | done | rfl | (simp only [List.length_drop,List.length_take];rfl)) ?_;(with_reducible refine (math_IsNaN.calls t390 false _ A5.out).mono ?_);rintro e w' ⟨rfl,⟨nd,rfl⟩⟩;refine ⟨_,rfl,?_⟩))
  go_ret
  exact ⟨by first | rfl | (simp;done) | (simp [*];done),by repeat (first | exact Drawn0.refl _ | apply Drawn0.step)⟩
 rw [if_neg c7] at H
 have c7b0:(FloatKind.f64.format.order t390 a2 == some .lt) = false:=by simpa using c7
 (try (have c7b1:decide (FloatKind.f64.format.order t390 a2 = some .lt) = false:=by simpa using c7))
 (try (have c7b2:(FloatKind.f64.format.order t390 a2 == some .lt) = false:=by simpa using c7))
 (try (have c7b3:¬ (FloatKind.f64.format.order t390 a2 = some .lt):=by simpa using c7))
 clear c7
 replace H:=Option.bind_eq_some_iff.mp H
 obtain ⟨t392,A90,H⟩:=H
 replace H:(some t392) = some r:=H
 have A9:=Aside0.mk A90
 clear A90
 obtain rfl:=Option.some.inj H
 go_enter Try.func41,Try.ntmps41
 go_wp2_with (first | ((with_reducible refine gate_callee (f:=73) rfl ?_);refine goesL_ (some 13) rfl rfl Try.func73 (by kernel_rfl) rfl #[.float .f64 t390] rfl (by (try simp only [List.map_toArray,List.map_cons,List.map_nil]);first | done | rfl | (simp only [List.length_drop,List.length_take];rfl)) ?_;(with_reducible refine (math_IsNaN.calls t390 false _ A5.out).mono ?_);rintro e w' ⟨rfl,⟨nd,rfl⟩⟩;refine ⟨_,rfl,?_⟩) | ((with_reducible refine gate_callee (f:=40) rfl ?_);refine goesL_ (some 20) rfl rfl Try.func40 (by kernel_rfl) rfl #[.int .i64 1] rfl (by (try simp only [List.map_toArray,List.map_cons,List.map_nil]);first | done | rfl | (simp only [List.length_drop,List.length_take];rfl)) ?_;(with_reducible refine (math_Inf.calls 1 t392 _ A9.out).mono ?_);rintro e w' ⟨rfl,⟨nd,rfl⟩⟩;refine ⟨_,rfl,?_⟩))
 go_ret
 exact ⟨by first | rfl | (simp;done) | (simp [*];done),by repeat (first | exact Drawn0.refl _ | apply Drawn0.step)⟩
def metric_Weight.f (a0:Nat):Option (Int):=(metric_within.f a0 4697254411347427328).bind fun t393 => (some t393)
set_option maxHeartbeats 8000000 in
set_option maxRecDepth 100000 in
theorem metric_Weight.calls (a0:Nat) (r:Int) (w:World) (h:metric_Weight.f a0 = some r) :
  Calls Try.prog 50 #[.float .f64 a0] w fun e w' => e = .returned (.int .i64 r) ∧ Drawn0 w w':=by
 have H:((metric_within.f a0 4697254411347427328).bind fun t393 => (some t393)) = some r:=h
 clear h
 replace H:=Option.bind_eq_some_iff.mp H
 obtain ⟨t393,A20,H⟩:=H
 replace H:(some t393) = some r:=H
 have A2:=Aside0.mk A20
 clear A20
 obtain rfl:=Option.some.inj H
 go_enter Try.func50,Try.ntmps50
 go_wp2_with (first | ((with_reducible refine gate_callee (f:=68) rfl ?_);refine goesL_ (some 4) rfl rfl Try.func68 (by kernel_rfl) rfl #[.float .f64 a0,.float .f64 4697254411347427328] rfl (by (try simp only [List.map_toArray,List.map_cons,List.map_nil]);first | done | rfl | (simp only [List.length_drop,List.length_take];rfl)) ?_;(with_reducible refine (metric_within.calls a0 4697254411347427328 t393 _ A2.out).mono ?_);rintro e w' ⟨rfl,⟨nd,rfl⟩⟩;refine ⟨_,rfl,?_⟩))
 go_ret
 exact ⟨by first | rfl | (simp;done) | (simp [*];done),by repeat (first | exact Drawn0.refl _ | apply Drawn0.step)⟩
def beaconref16_far.f (a0:Nat):Option (Bool):=(math_IsInf.f a0 1).bind fun t394 => (some t394)
set_option maxHeartbeats 8000000 in
set_option maxRecDepth 100000 in
theorem beaconref16_far.calls (a0:Nat) (r:Bool) (w:World) (h:beaconref16_far.f a0 = some r) :
  Calls Try.prog 60 #[.float .f64 a0] w fun e w' => e = .returned (.bool r) ∧ Drawn0 w w':=by
 have H:((math_IsInf.f a0 1).bind fun t394 => (some t394)) = some r:=h
 clear h
 replace H:=Option.bind_eq_some_iff.mp H
 obtain ⟨t394,A20,H⟩:=H
 replace H:(some t394) = some r:=H
 have A2:=Aside0.mk A20
 clear A20
 obtain rfl:=Option.some.inj H
 go_enter Try.func60,Try.ntmps60
 go_wp2_with (first | ((with_reducible refine gate_callee (f:=62) rfl ?_);refine goesL_ (some 4) rfl rfl Try.func62 (by kernel_rfl) rfl #[.float .f64 a0,.int .i64 1] rfl (by (try simp only [List.map_toArray,List.map_cons,List.map_nil]);first | done | rfl | (simp only [List.length_drop,List.length_take];rfl)) ?_;(with_reducible refine (math_IsInf.calls a0 1 t394 _ A2.out).mono ?_);rintro e w' ⟨rfl,⟨nd,rfl⟩⟩;refine ⟨_,rfl,?_⟩))
 go_ret
 exact ⟨by first | rfl | (simp;done) | (simp [*];done),by repeat (first | exact Drawn0.refl _ | apply Drawn0.step)⟩
def beaconref16_ahead.f (a0_0:Int) (a0_1:Int) (a0_2:Nat) (a0_3:Int) (a0_4:Nat) (a0_5:Int) (a1_0:Int) (a1_1:Int) (a1_2:Nat) (a1_3:Int) (a1_4:Nat) (a1_5:Int):Option (Bool):=if a0_1 < a1_1 then (some true) else (if a0_1 = a1_1 then (some (decide (a0_0 < a1_0))) else (some false))
set_option maxHeartbeats 8000000 in
set_option maxRecDepth 100000 in
theorem beaconref16_ahead.calls (a0_0:Int) (a0_1:Int) (a0_2:Nat) (a0_3:Int) (a0_4:Nat) (a0_5:Int) (a1_0:Int) (a1_1:Int) (a1_2:Nat) (a1_3:Int) (a1_4:Nat) (a1_5:Int) (r:Bool) (w:World) (h:beaconref16_ahead.f a0_0 a0_1 a0_2 a0_3 a0_4 a0_5 a1_0 a1_1 a1_2 a1_3 a1_4 a1_5 = some r) :
  Calls Try.prog 38 #[.agg #[.int .i64 a0_0,.int .i64 a0_1,.float .f64 a0_2,.int .i64 a0_3,.float .f64 a0_4,.int .i64 a0_5],.agg #[.int .i64 a1_0,.int .i64 a1_1,.float .f64 a1_2,.int .i64 a1_3,.float .f64 a1_4,.int .i64 a1_5]] w fun e w' => e = .returned (.bool r) ∧ Below w.heap.size w w':=by
 have hu58:=Try.underlying58
 have HB:=Aside0.mk (Below.refl w.heap.size w)
 have H:(if a0_1 < a1_1 then (some true) else (if a0_1 = a1_1 then (some (decide (a0_0 < a1_0))) else (some false))) = some r:=h
 clear h
 by_cases c3:a0_1 < a1_1
 ·rw [if_pos c3] at H
  have c3b0:decide (a0_1 < a1_1) = true:=decide_eq_true c3
  clear c3
  obtain rfl:=Option.some.inj H
  go_enter Try.func38,Try.ntmps38
  go_wp2_with (first | ((with_reducible refine gate_dst (N:=2) rfl ?_);refine box_event ?hg (N:=2) ?hd (cs:=#[.int .i64 a0_0,.int .i64 a0_1,.float .f64 a0_2,.int .i64 a0_3,.float .f64 a0_4,.int .i64 a0_5]) (t:=58) ?hr ?_;(case hd => rfl);(case hg => rfl);(case hr => first | (go_simp;done) | (go_simp;rfl));intro gb395 hg w4 hbox hb;have n0_:=Aside0.mk (below_step (by repeat (first | (with_reducible first | exact HB.out | apply below_alloc | apply pw_below_drewN | apply below_drew1) | exact HB.out)) hb);have n1_:=Aside0.mk (hbox);have n2_:=Aside0.mk ((by rw [hg];exact (below_size (by repeat (first | (with_reducible first | exact HB.out | apply below_alloc | apply pw_below_drewN | apply below_drew1) | exact HB.out))):w.heap.size ≤ gb395));have n3_:=Aside0.mk ((by rw [hg];exact (below_size (by repeat (first | (with_reducible first | exact HB.out | apply below_alloc | apply pw_below_drewN | apply below_drew1) | exact HB.out))):w.heap.size ≤ gb395));clear HB;have HB:=n0_;have BK395:=n1_;have GW395:=n2_;have GE395:=n3_;clear n0_ n1_ n2_ n3_;clear hb hbox hg) | ((with_reducible refine gate_dst (N:=3) rfl ?_);refine box_event ?hg (N:=3) ?hd (cs:=#[.int .i64 a1_0,.int .i64 a1_1,.float .f64 a1_2,.int .i64 a1_3,.float .f64 a1_4,.int .i64 a1_5]) (t:=58) ?hr ?_;(case hd => rfl);(case hg => rfl);(case hr => first | (go_simp;done) | (go_simp;rfl));intro gb396 hg w5 hbox hb;have n0_:=Aside0.mk (blk_below (g:=gb395) (o:=.cells #[.int .i64 a0_0,.int .i64 a0_1,.float .f64 a0_2,.int .i64 a0_3,.float .f64 a0_4,.int .i64 a0_5] 58 (0,0)) (by (with_reducible repeat (first | refine blk_drewN ?_ _ | refine blk_drew ?_ | refine blk_alloc ?_ _));exact BK395.out) hb);have n1_:=Aside0.mk (below_step (by repeat (first | (with_reducible first | exact HB.out | apply below_alloc | apply pw_below_drewN | apply below_drew1 | refine below_set ?_ GE395.out) | exact HB.out)) hb);have n2_:=Aside0.mk (hbox);have n3_:=Aside0.mk ((by rw [hg];exact (below_size (by repeat (first | (with_reducible first | exact HB.out | apply below_alloc | apply pw_below_drewN | apply below_drew1 | refine below_set ?_ GE395.out) | exact HB.out))):w.heap.size ≤ gb396));have n4_:=Aside0.mk ((by rw [hg];exact (below_size (by repeat (first | (with_reducible first | exact HB.out | apply below_alloc | apply pw_below_drewN | apply below_drew1 | refine below_set ?_ GE395.out) | exact HB.out))):w.heap.size ≤ gb396));have n5_:=Aside0.mk ((by rw [hg];exact Nat.ne_of_lt (blk_lt (g:=gb395) (o:=.cells #[.int .i64 a0_0,.int .i64 a0_1,.float .f64 a0_2,.int .i64 a0_3,.float .f64 a0_4,.int .i64 a0_5] 58 (0,0)) (by (with_reducible repeat (first | refine blk_drewN ?_ _ | refine blk_drew ?_ | refine blk_alloc ?_ _));exact BK395.out)):gb395 ≠ gb396));have n6_:=Aside0.mk ((by rw [hg];exact Nat.ne_of_gt (blk_lt (g:=gb395) (o:=.cells #[.int .i64 a0_0,.int .i64 a0_1,.float .f64 a0_2,.int .i64 a0_3,.float .f64 a0_4,.int .i64 a0_5] 58 (0,0)) (by (with_reducible repeat (first | refine blk_drewN ?_ _ | refine blk_drew ?_ | refine blk_alloc ?_ _));exact BK395.out)):gb396 ≠ gb395));clear BK395;clear HB;have BK395:=n0_;have HB:=n1_;have BK396:=n2_;have GW396:=n3_;have GE396:=n4_;have NB395_396:=n5_;have NB396_395:=n6_;clear n0_ n1_ n2_ n3_ n4_ n5_ n6_;clear hb hbox hg;have hnb6:=NB395_396.out;have hnc6:=NB396_395.out;have hcz7_0:w5.cell? ⟨gb395,0,none⟩ = some (.int .i64 a0_0):=(blk_cell BK395.out 0).trans rfl;have hcz7_1:w5.cell? ⟨gb395,1,none⟩ = some (.int .i64 a0_1):=(blk_cell BK395.out 1).trans rfl;have hcz7_2:w5.cell? ⟨gb395,2,none⟩ = some (.float .f64 a0_2):=(blk_cell BK395.out 2).trans rfl;have hcz7_3:w5.cell? ⟨gb395,3,none⟩ = some (.int .i64 a0_3):=(blk_cell BK395.out 3).trans rfl;have hcz7_4:w5.cell? ⟨gb395,4,none⟩ = some (.float .f64 a0_4):=(blk_cell BK395.out 4).trans rfl;have hcz7_5:w5.cell? ⟨gb395,5,none⟩ = some (.int .i64 a0_5):=(blk_cell BK395.out 5).trans rfl;have hfz7_0:=blk_frozen BK395.out 0;have hfz7_1:=blk_frozen BK395.out 1;have hfz7_2:=blk_frozen BK395.out 2;have hfz7_3:=blk_frozen BK395.out 3;have hfz7_4:=blk_frozen BK395.out 4;have hfz7_5:=blk_frozen BK395.out 5;have hcz8_0:w5.cell? ⟨gb396,0,none⟩ = some (.int .i64 a1_0):=(blk_cell BK396.out 0).trans rfl;have hcz8_1:w5.cell? ⟨gb396,1,none⟩ = some (.int .i64 a1_1):=(blk_cell BK396.out 1).trans rfl;have hcz8_2:w5.cell? ⟨gb396,2,none⟩ = some (.float .f64 a1_2):=(blk_cell BK396.out 2).trans rfl;have hcz8_3:w5.cell? ⟨gb396,3,none⟩ = some (.int .i64 a1_3):=(blk_cell BK396.out 3).trans rfl;have hcz8_4:w5.cell? ⟨gb396,4,none⟩ = some (.float .f64 a1_4):=(blk_cell BK396.out 4).trans rfl;have hcz8_5:w5.cell? ⟨gb396,5,none⟩ = some (.int .i64 a1_5):=(blk_cell BK396.out 5).trans rfl;have hfz8_0:=blk_frozen BK396.out 0;have hfz8_1:=blk_frozen BK396.out 1;have hfz8_2:=blk_frozen BK396.out 2;have hfz8_3:=blk_frozen BK396.out 3;have hfz8_4:=blk_frozen BK396.out 4;have hfz8_5:=blk_frozen BK396.out 5))
  go_ret
  exact ⟨by first | rfl | (simp [errW_none,errW_some] <;> rfl) | (simp [*,errW_none,errW_some] <;> rfl),by repeat (first | (with_reducible first | exact HB.out | apply below_alloc | apply pw_below_drewN | apply below_drew1 | refine below_set ?_ GE395.out | refine below_set ?_ GE396.out) | exact HB.out)⟩
 rw [if_neg c3] at H
 have c3b0:decide (a0_1 < a1_1) = false:=decide_eq_false c3
 clear c3
 by_cases c9:a0_1 = a1_1
 ·rw [if_pos c9] at H
  have c9b0:(a0_1 == a1_1) = true:=beq_iff_eq.mpr c9
  have c9b1:(a0_1 != a1_1) = false:=bne_eq_false_iff_eq.mpr c9
  clear c9
  obtain rfl:=Option.some.inj H
  go_enter Try.func38,Try.ntmps38
  go_wp2_with (first | ((with_reducible refine gate_dst (N:=2) rfl ?_);refine box_event ?hg (N:=2) ?hd (cs:=#[.int .i64 a0_0,.int .i64 a0_1,.float .f64 a0_2,.int .i64 a0_3,.float .f64 a0_4,.int .i64 a0_5]) (t:=58) ?hr ?_;(case hd => rfl);(case hg => rfl);(case hr => first | (go_simp;done) | (go_simp;rfl));intro gb395 hg w10 hbox hb;have n0_:=Aside0.mk (below_step (by repeat (first | (with_reducible first | exact HB.out | apply below_alloc | apply pw_below_drewN | apply below_drew1) | exact HB.out)) hb);have n1_:=Aside0.mk (hbox);have n2_:=Aside0.mk ((by rw [hg];exact (below_size (by repeat (first | (with_reducible first | exact HB.out | apply below_alloc | apply pw_below_drewN | apply below_drew1) | exact HB.out))):w.heap.size ≤ gb395));have n3_:=Aside0.mk ((by rw [hg];exact (below_size (by repeat (first | (with_reducible first | exact HB.out | apply below_alloc | apply pw_below_drewN | apply below_drew1) | exact HB.out))):w.heap.size ≤ gb395));clear HB;have HB:=n0_;have BK395:=n1_;have GW395:=n2_;have GE395:=n3_;clear n0_ n1_ n2_ n3_;clear hb hbox hg) | ((with_reducible refine gate_dst (N:=3) rfl ?_);refine box_event ?hg (N:=3) ?hd (cs:=#[.int .i64 a1_0,.int .i64 a1_1,.float .f64 a1_2,.int .i64 a1_3,.float .f64 a1_4,.int .i64 a1_5]) (t:=58) ?hr ?_;(case hd => rfl);(case hg => rfl);(case hr => first | (go_simp;done) | (go_simp;rfl));intro gb396 hg w11 hbox hb;have n0_:=Aside0.mk (blk_below (g:=gb395) (o:=.cells #[.int .i64 a0_0,.int .i64 a0_1,.float .f64 a0_2,.int .i64 a0_3,.float .f64 a0_4,.int .i64 a0_5] 58 (0,0)) (by (with_reducible repeat (first | refine blk_drewN ?_ _ | refine blk_drew ?_ | refine blk_alloc ?_ _));exact BK395.out) hb);have n1_:=Aside0.mk (below_step (by repeat (first | (with_reducible first | exact HB.out | apply below_alloc | apply pw_below_drewN | apply below_drew1 | refine below_set ?_ GE395.out) | exact HB.out)) hb);have n2_:=Aside0.mk (hbox);have n3_:=Aside0.mk ((by rw [hg];exact (below_size (by repeat (first | (with_reducible first | exact HB.out | apply below_alloc | apply pw_below_drewN | apply below_drew1 | refine below_set ?_ GE395.out) | exact HB.out))):w.heap.size ≤ gb396));have n4_:=Aside0.mk ((by rw [hg];exact (below_size (by repeat (first | (with_reducible first | exact HB.out | apply below_alloc | apply pw_below_drewN | apply below_drew1 | refine below_set ?_ GE395.out) | exact HB.out))):w.heap.size ≤ gb396));have n5_:=Aside0.mk ((by rw [hg];exact Nat.ne_of_lt (blk_lt (g:=gb395) (o:=.cells #[.int .i64 a0_0,.int .i64 a0_1,.float .f64 a0_2,.int .i64 a0_3,.float .f64 a0_4,.int .i64 a0_5] 58 (0,0)) (by (with_reducible repeat (first | refine blk_drewN ?_ _ | refine blk_drew ?_ | refine blk_alloc ?_ _));exact BK395.out)):gb395 ≠ gb396));have n6_:=Aside0.mk ((by rw [hg];exact Nat.ne_of_gt (blk_lt (g:=gb395) (o:=.cells #[.int .i64 a0_0,.int .i64 a0_1,.float .f64 a0_2,.int .i64 a0_3,.float .f64 a0_4,.int .i64 a0_5] 58 (0,0)) (by (with_reducible repeat (first | refine blk_drewN ?_ _ | refine blk_drew ?_ | refine blk_alloc ?_ _));exact BK395.out)):gb396 ≠ gb395));clear BK395;clear HB;have BK395:=n0_;have HB:=n1_;have BK396:=n2_;have GW396:=n3_;have GE396:=n4_;have NB395_396:=n5_;have NB396_395:=n6_;clear n0_ n1_ n2_ n3_ n4_ n5_ n6_;clear hb hbox hg;have hnb12:=NB395_396.out;have hnc12:=NB396_395.out;have hcz13_0:w11.cell? ⟨gb395,0,none⟩ = some (.int .i64 a0_0):=(blk_cell BK395.out 0).trans rfl;have hcz13_1:w11.cell? ⟨gb395,1,none⟩ = some (.int .i64 a0_1):=(blk_cell BK395.out 1).trans rfl;have hcz13_2:w11.cell? ⟨gb395,2,none⟩ = some (.float .f64 a0_2):=(blk_cell BK395.out 2).trans rfl;have hcz13_3:w11.cell? ⟨gb395,3,none⟩ = some (.int .i64 a0_3):=(blk_cell BK395.out 3).trans rfl;have hcz13_4:w11.cell? ⟨gb395,4,none⟩ = some (.float .f64 a0_4):=(blk_cell BK395.out 4).trans rfl;have hcz13_5:w11.cell? ⟨gb395,5,none⟩ = some (.int .i64 a0_5):=(blk_cell BK395.out 5).trans rfl;have hfz13_0:=blk_frozen BK395.out 0;have hfz13_1:=blk_frozen BK395.out 1;have hfz13_2:=blk_frozen BK395.out 2;have hfz13_3:=blk_frozen BK395.out 3;have hfz13_4:=blk_frozen BK395.out 4;have hfz13_5:=blk_frozen BK395.out 5;have hcz14_0:w11.cell? ⟨gb396,0,none⟩ = some (.int .i64 a1_0):=(blk_cell BK396.out 0).trans rfl;have hcz14_1:w11.cell? ⟨gb396,1,none⟩ = some (.int .i64 a1_1):=(blk_cell BK396.out 1).trans rfl;have hcz14_2:w11.cell? ⟨gb396,2,none⟩ = some (.float .f64 a1_2):=(blk_cell BK396.out 2).trans rfl;have hcz14_3:w11.cell? ⟨gb396,3,none⟩ = some (.int .i64 a1_3):=(blk_cell BK396.out 3).trans rfl;have hcz14_4:w11.cell? ⟨gb396,4,none⟩ = some (.float .f64 a1_4):=(blk_cell BK396.out 4).trans rfl;have hcz14_5:w11.cell? ⟨gb396,5,none⟩ = some (.int .i64 a1_5):=(blk_cell BK396.out 5).trans rfl;have hfz14_0:=blk_frozen BK396.out 0;have hfz14_1:=blk_frozen BK396.out 1;have hfz14_2:=blk_frozen BK396.out 2;have hfz14_3:=blk_frozen BK396.out 3;have hfz14_4:=blk_frozen BK396.out 4;have hfz14_5:=blk_frozen BK396.out 5))
  go_ret
  exact ⟨by first | rfl | (simp [errW_none,errW_some] <;> rfl) | (simp [*,errW_none,errW_some] <;> rfl),by repeat (first | (with_reducible first | exact HB.out | apply below_alloc | apply pw_below_drewN | apply below_drew1 | refine below_set ?_ GE395.out | refine below_set ?_ GE396.out) | exact HB.out)⟩
 rw [if_neg c9] at H
 have c9b0:(a0_1 == a1_1) = false:=beq_eq_false_iff_ne.mpr c9
 have c9b1:(a0_1 != a1_1) = true:=bne_iff_ne.mpr c9
 obtain rfl:=Option.some.inj H
 go_enter Try.func38,Try.ntmps38
 go_wp2_with (first | ((with_reducible refine gate_dst (N:=2) rfl ?_);refine box_event ?hg (N:=2) ?hd (cs:=#[.int .i64 a0_0,.int .i64 a0_1,.float .f64 a0_2,.int .i64 a0_3,.float .f64 a0_4,.int .i64 a0_5]) (t:=58) ?hr ?_;(case hd => rfl);(case hg => rfl);(case hr => first | (go_simp;done) | (go_simp;rfl));intro gb395 hg w15 hbox hb;have n0_:=Aside0.mk (below_step (by repeat (first | (with_reducible first | exact HB.out | apply below_alloc | apply pw_below_drewN | apply below_drew1) | exact HB.out)) hb);have n1_:=Aside0.mk (hbox);have n2_:=Aside0.mk ((by rw [hg];exact (below_size (by repeat (first | (with_reducible first | exact HB.out | apply below_alloc | apply pw_below_drewN | apply below_drew1) | exact HB.out))):w.heap.size ≤ gb395));have n3_:=Aside0.mk ((by rw [hg];exact (below_size (by repeat (first | (with_reducible first | exact HB.out | apply below_alloc | apply pw_below_drewN | apply below_drew1) | exact HB.out))):w.heap.size ≤ gb395));clear HB;have HB:=n0_;have BK395:=n1_;have GW395:=n2_;have GE395:=n3_;clear n0_ n1_ n2_ n3_;clear hb hbox hg) | ((with_reducible refine gate_dst (N:=3) rfl ?_);refine box_event ?hg (N:=3) ?hd (cs:=#[.int .i64 a1_0,.int .i64 a1_1,.float .f64 a1_2,.int .i64 a1_3,.float .f64 a1_4,.int .i64 a1_5]) (t:=58) ?hr ?_;(case hd => rfl);(case hg => rfl);(case hr => first | (go_simp;done) | (go_simp;rfl));intro gb396 hg w16 hbox hb;have n0_:=Aside0.mk (blk_below (g:=gb395) (o:=.cells #[.int .i64 a0_0,.int .i64 a0_1,.float .f64 a0_2,.int .i64 a0_3,.float .f64 a0_4,.int .i64 a0_5] 58 (0,0)) (by (with_reducible repeat (first | refine blk_drewN ?_ _ | refine blk_drew ?_ | refine blk_alloc ?_ _));exact BK395.out) hb);have n1_:=Aside0.mk (below_step (by repeat (first | (with_reducible first | exact HB.out | apply below_alloc | apply pw_below_drewN | apply below_drew1 | refine below_set ?_ GE395.out) | exact HB.out)) hb);have n2_:=Aside0.mk (hbox);have n3_:=Aside0.mk ((by rw [hg];exact (below_size (by repeat (first | (with_reducible first | exact HB.out | apply below_alloc | apply pw_below_drewN | apply below_drew1 | refine below_set ?_ GE395.out) | exact HB.out))):w.heap.size ≤ gb396));have n4_:=Aside0.mk ((by rw [hg];exact (below_size (by repeat (first | (with_reducible first | exact HB.out | apply below_alloc | apply pw_below_drewN | apply below_drew1 | refine below_set ?_ GE395.out) | exact HB.out))):w.heap.size ≤ gb396));have n5_:=Aside0.mk ((by rw [hg];exact Nat.ne_of_lt (blk_lt (g:=gb395) (o:=.cells #[.int .i64 a0_0,.int .i64 a0_1,.float .f64 a0_2,.int .i64 a0_3,.float .f64 a0_4,.int .i64 a0_5] 58 (0,0)) (by (with_reducible repeat (first | refine blk_drewN ?_ _ | refine blk_drew ?_ | refine blk_alloc ?_ _));exact BK395.out)):gb395 ≠ gb396));have n6_:=Aside0.mk ((by rw [hg];exact Nat.ne_of_gt (blk_lt (g:=gb395) (o:=.cells #[.int .i64 a0_0,.int .i64 a0_1,.float .f64 a0_2,.int .i64 a0_3,.float .f64 a0_4,.int .i64 a0_5] 58 (0,0)) (by (with_reducible repeat (first | refine blk_drewN ?_ _ | refine blk_drew ?_ | refine blk_alloc ?_ _));exact BK395.out)):gb396 ≠ gb395));clear BK395;clear HB;have BK395:=n0_;have HB:=n1_;have BK396:=n2_;have GW396:=n3_;have GE396:=n4_;have NB395_396:=n5_;have NB396_395:=n6_;clear n0_ n1_ n2_ n3_ n4_ n5_ n6_;clear hb hbox hg;have hnb17:=NB395_396.out;have hnc17:=NB396_395.out;have hcz18_0:w16.cell? ⟨gb395,0,none⟩ = some (.int .i64 a0_0):=(blk_cell BK395.out 0).trans rfl;have hcz18_1:w16.cell? ⟨gb395,1,none⟩ = some (.int .i64 a0_1):=(blk_cell BK395.out 1).trans rfl;have hcz18_2:w16.cell? ⟨gb395,2,none⟩ = some (.float .f64 a0_2):=(blk_cell BK395.out 2).trans rfl;have hcz18_3:w16.cell? ⟨gb395,3,none⟩ = some (.int .i64 a0_3):=(blk_cell BK395.out 3).trans rfl;have hcz18_4:w16.cell? ⟨gb395,4,none⟩ = some (.float .f64 a0_4):=(blk_cell BK395.out 4).trans rfl;have hcz18_5:w16.cell? ⟨gb395,5,none⟩ = some (.int .i64 a0_5):=(blk_cell BK395.out 5).trans rfl;have hfz18_0:=blk_frozen BK395.out 0;have hfz18_1:=blk_frozen BK395.out 1;have hfz18_2:=blk_frozen BK395.out 2;have hfz18_3:=blk_frozen BK395.out 3;have hfz18_4:=blk_frozen BK395.out 4;have hfz18_5:=blk_frozen BK395.out 5;have hcz19_0:w16.cell? ⟨gb396,0,none⟩ = some (.int .i64 a1_0):=(blk_cell BK396.out 0).trans rfl;have hcz19_1:w16.cell? ⟨gb396,1,none⟩ = some (.int .i64 a1_1):=(blk_cell BK396.out 1).trans rfl;have hcz19_2:w16.cell? ⟨gb396,2,none⟩ = some (.float .f64 a1_2):=(blk_cell BK396.out 2).trans rfl;have hcz19_3:w16.cell? ⟨gb396,3,none⟩ = some (.int .i64 a1_3):=(blk_cell BK396.out 3).trans rfl;have hcz19_4:w16.cell? ⟨gb396,4,none⟩ = some (.float .f64 a1_4):=(blk_cell BK396.out 4).trans rfl;have hcz19_5:w16.cell? ⟨gb396,5,none⟩ = some (.int .i64 a1_5):=(blk_cell BK396.out 5).trans rfl;have hfz19_0:=blk_frozen BK396.out 0;have hfz19_1:=blk_frozen BK396.out 1;have hfz19_2:=blk_frozen BK396.out 2;have hfz19_3:=blk_frozen BK396.out 3;have hfz19_4:=blk_frozen BK396.out 4;have hfz19_5:=blk_frozen BK396.out 5))
 go_ret
 exact ⟨by first | rfl | (simp [errW_none,errW_some] <;> rfl) | (simp [*,errW_none,errW_some] <;> rfl),by repeat (first | (with_reducible first | exact HB.out | apply below_alloc | apply pw_below_drewN | apply below_drew1 | refine below_set ?_ GE395.out | refine below_set ?_ GE396.out) | exact HB.out)⟩
end Go.Proofs.Ytjcnmpkaiopihaa.PA
