/- Printed by a program of this session (wip/tools/patch_print.py and pr.py, over the kit's print): each Go function as a plain Lean function, and that the Go code comes to just its answers. Conditions: those that each theorem names. -/
import Derived.Test.YtjcnmpkaiopihaaZoPAx0
import Derived.Test.YtjcnmpkaiopihaaZoPAx2
import Derived.Test.YtjcnmpkaiopihaaZoPAx26
namespace Go.Proofs.Ytjcnmpkaiopihaa.PA
open Go.RowKit Go.Proofs.YtjcnmpkaiopihaaW.PrintWords Go.Proofs.YtjcnmpkaiopihaaW.PrintLast Go.Proofs.YtjcnmpkaiopihaaW.PrintMore
attribute [local go_sem] max2_int min2_int max_two min_two max_three min_three max_four min_four
set_option linter.unusedVariables false
set_option linter.unusedSimpArgs false
def beaconref16_number.f (a0:Int):Option (Bool):=(beaconref02_CheckId.f a0).bind fun t428 => (some (t428 == 0))
set_option maxHeartbeats 8000000 in
set_option maxRecDepth 100000 in
theorem beaconref16_number.calls (a0:Int) (r:Bool) (w:World) (h:beaconref16_number.f a0 = some r) :
  Calls Try.prog 59 #[.int .i64 a0] w fun e w' => e = .returned (.bool r) ∧ Drawn0 w w':=by
 have H:((beaconref02_CheckId.f a0).bind fun t428 => (some (t428 == 0))) = some r:=h
 clear h
 replace H:=Option.bind_eq_some_iff.mp H
 obtain ⟨t428,A20,H⟩:=H
 replace H:(some (t428 == 0)) = some r:=H
 have A2:=Aside0.mk A20
 clear A20
 obtain rfl:=Option.some.inj H
 go_enter Try.func59,Try.ntmps59
 go_wp2_with (first | ((with_reducible refine gate_callee (f:=82) rfl ?_);refine goesL_ (some 4) rfl rfl Try.func82 (by kernel_rfl) rfl #[.int .i64 a0] rfl (by (try simp only [List.map_toArray,List.map_cons,List.map_nil]);first | done | rfl | (simp only [List.length_drop,List.length_take];rfl)) ?_;(with_reducible refine (beaconref02_CheckId.calls a0 t428 _ A2.out).mono ?_);rintro e w' ⟨rfl,⟨nd,rfl⟩⟩;refine ⟨_,rfl,?_⟩))
 go_ret
 exact ⟨by first | rfl | (simp;done) | (simp [*];done),by repeat (first | exact Drawn0.refl _ | apply Drawn0.step)⟩
def beaconref16_MayHome.f (a0:Int) (a1_0:Int) (a1_1:Int) (a1_2:Nat):Option (Bool):=if a1_0 = a0 then (if a1_1 = 0 then ((beaconref16_far.f a1_2).bind fun t430 => (some t430)) else ((beaconref16_number.f a1_1).bind fun t431 => (if t431 = true then ((beaconref06_Far.f a1_2).bind fun t432 => (if t432 = true then ((beaconref16_far.f a1_2).bind fun t433 => (if t433 = true then (some false) else (some ((FloatKind.f64.format.order a1_2 0 == some .eq) == (a1_1 == a0))))) else (some false))) else (some false)))) else (some false)
set_option maxHeartbeats 8000000 in
set_option maxRecDepth 100000 in
theorem beaconref16_MayHome.calls (a0:Int) (a1_0:Int) (a1_1:Int) (a1_2:Nat) (r:Bool) (w:World) (h:beaconref16_MayHome.f a0 a1_0 a1_1 a1_2 = some r) :
  Calls Try.prog 23 #[.int .i64 a0,.agg #[.int .i64 a1_0,.int .i64 a1_1,.float .f64 a1_2]] w fun e w' => e = .returned (.bool r) ∧ Below w.heap.size w w':=by
 have hu34:=Try.underlying34
 have HB:=Aside0.mk (Below.refl w.heap.size w)
 have H:(if a1_0 = a0 then (if a1_1 = 0 then ((beaconref16_far.f a1_2).bind fun t430 => (some t430)) else ((beaconref16_number.f a1_1).bind fun t431 => (if t431 = true then ((beaconref06_Far.f a1_2).bind fun t432 => (if t432 = true then ((beaconref16_far.f a1_2).bind fun t433 => (if t433 = true then (some false) else (some ((FloatKind.f64.format.order a1_2 0 == some .eq) == (a1_1 == a0))))) else (some false))) else (some false)))) else (some false)) = some r:=h
 clear h
 by_cases c3:a1_0 = a0
 rotate_left
 ·rw [if_neg c3] at H
  have c3b0:(a1_0 == a0) = false:=beq_eq_false_iff_ne.mpr c3
  have c3b1:(a1_0 != a0) = true:=bne_iff_ne.mpr c3
  obtain rfl:=Option.some.inj H
  go_enter Try.func23,Try.ntmps23
  go_wp2_with (first | ((with_reducible refine gate_dst (N:=3) rfl ?_);refine box_event ?hg (N:=3) ?hd (cs:=#[.int .i64 a1_0,.int .i64 a1_1,.float .f64 a1_2]) (t:=34) ?hr ?_;(case hd => rfl);(case hg => rfl);(case hr => first | (go_simp;done) | (go_simp;rfl));intro gb429 hg w22 hbox hb;have n0_:=Aside0.mk (below_step (by repeat (first | (with_reducible first | exact HB.out | apply below_alloc | apply pw_below_drewN | apply below_drew1) | exact HB.out)) hb);have n1_:=Aside0.mk (hbox);have n2_:=Aside0.mk ((by rw [hg];exact (below_size (by repeat (first | (with_reducible first | exact HB.out | apply below_alloc | apply pw_below_drewN | apply below_drew1) | exact HB.out))):w.heap.size ≤ gb429));have n3_:=Aside0.mk ((by rw [hg];exact (below_size (by repeat (first | (with_reducible first | exact HB.out | apply below_alloc | apply pw_below_drewN | apply below_drew1) | exact HB.out))):w.heap.size ≤ gb429));clear HB;have HB:=n0_;have BK429:=n1_;have GW429:=n2_;have GE429:=n3_;clear n0_ n1_ n2_ n3_;clear hb hbox hg;have hcz23_0:w22.cell? ⟨gb429,0,none⟩ = some (.int .i64 a1_0):=(blk_cell BK429.out 0).trans rfl;have hcz23_1:w22.cell? ⟨gb429,1,none⟩ = some (.int .i64 a1_1):=(blk_cell BK429.out 1).trans rfl;have hcz23_2:w22.cell? ⟨gb429,2,none⟩ = some (.float .f64 a1_2):=(blk_cell BK429.out 2).trans rfl;have hfz23_0:=blk_frozen BK429.out 0;have hfz23_1:=blk_frozen BK429.out 1;have hfz23_2:=blk_frozen BK429.out 2))
  go_ret
  exact ⟨by first | rfl | (simp [errW_none,errW_some] <;> rfl) | (simp [*,errW_none,errW_some] <;> rfl),by repeat (first | (with_reducible first | exact HB.out | apply below_alloc | apply pw_below_drewN | apply below_drew1 | refine below_set ?_ GE429.out) | exact HB.out)⟩
 rw [if_pos c3] at H
 have c3b0:(a1_0 == a0) = true:=beq_iff_eq.mpr c3
 have c3b1:(a1_0 != a0) = false:=bne_eq_false_iff_eq.mpr c3
 clear c3
 by_cases c4:a1_1 = 0
 ·rw [if_pos c4] at H
  have c4b0:(a1_1 == 0) = true:=beq_iff_eq.mpr c4
  have c4b1:(a1_1 != 0) = false:=bne_eq_false_iff_eq.mpr c4
  clear c4
  replace H:=Option.bind_eq_some_iff.mp H
  obtain ⟨t430,A50,H⟩:=H
  replace H:(some t430) = some r:=H
  have A5:=Aside0.mk A50
  clear A50
  obtain rfl:=Option.some.inj H
  go_enter Try.func23,Try.ntmps23
  go_wp2_with (first | ((with_reducible refine gate_dst (N:=3) rfl ?_);refine box_event ?hg (N:=3) ?hd (cs:=#[.int .i64 a1_0,.int .i64 a1_1,.float .f64 a1_2]) (t:=34) ?hr ?_;(case hd => rfl);(case hg => rfl);(case hr => first | (go_simp;done) | (go_simp;rfl));intro gb429 hg w6 hbox hb;have n0_:=Aside0.mk (below_step (by repeat (first | (with_reducible first | exact HB.out | apply below_alloc | apply pw_below_drewN | apply below_drew1) | exact HB.out)) hb);have n1_:=Aside0.mk (hbox);have n2_:=Aside0.mk ((by rw [hg];exact (below_size (by repeat (first | (with_reducible first | exact HB.out | apply below_alloc | apply pw_below_drewN | apply below_drew1) | exact HB.out))):w.heap.size ≤ gb429));have n3_:=Aside0.mk ((by rw [hg];exact (below_size (by repeat (first | (with_reducible first | exact HB.out | apply below_alloc | apply pw_below_drewN | apply below_drew1) | exact HB.out))):w.heap.size ≤ gb429));clear HB;have HB:=n0_;have BK429:=n1_;have GW429:=n2_;have GE429:=n3_;clear n0_ n1_ n2_ n3_;clear hb hbox hg;have hcz7_0:w6.cell? ⟨gb429,0,none⟩ = some (.int .i64 a1_0):=(blk_cell BK429.out 0).trans rfl;have hcz7_1:w6.cell? ⟨gb429,1,none⟩ = some (.int .i64 a1_1):=(blk_cell BK429.out 1).trans rfl;have hcz7_2:w6.cell? ⟨gb429,2,none⟩ = some (.float .f64 a1_2):=(blk_cell BK429.out 2).trans rfl;have hfz7_0:=blk_frozen BK429.out 0;have hfz7_1:=blk_frozen BK429.out 1;have hfz7_2:=blk_frozen BK429.out 2) | ((with_reducible refine gate_callee (f:=60) rfl ?_);refine goesL_ (some 14) rfl rfl Try.func60 (by kernel_rfl) rfl #[.float .f64 a1_2] rfl (by (try simp only [List.map_toArray,List.map_cons,List.map_nil]);first | done | rfl | (simp only [List.length_drop,List.length_take];rfl)) ?_;(with_reducible refine (beaconref16_far.calls a1_2 t430 _ A5.out).mono ?_);rintro e w' ⟨rfl,⟨nd,rfl⟩⟩;refine ⟨_,rfl,?_⟩))
  go_ret
  exact ⟨by first | rfl | (simp [errW_none,errW_some] <;> rfl) | (simp [*,errW_none,errW_some] <;> rfl),by repeat (first | (with_reducible first | exact HB.out | apply below_alloc | apply pw_below_drewN | apply below_drew1 | refine below_set ?_ GE429.out) | exact HB.out)⟩
 rw [if_neg c4] at H
 have c4b0:(a1_1 == 0) = false:=beq_eq_false_iff_ne.mpr c4
 have c4b1:(a1_1 != 0) = true:=bne_iff_ne.mpr c4
 replace H:=Option.bind_eq_some_iff.mp H
 obtain ⟨t431,A80,H⟩:=H
 replace H:(if t431 = true then ((beaconref06_Far.f a1_2).bind fun t432 => (if t432 = true then ((beaconref16_far.f a1_2).bind fun t433 => (if t433 = true then (some false) else (some ((FloatKind.f64.format.order a1_2 0 == some .eq) == (a1_1 == a0))))) else (some false))) else (some false)) = some r:=H
 have A8:=Aside0.mk A80
 clear A80
 by_cases c9:t431 = true
 rotate_left
 ·replace c9:=Bool.eq_false_iff.mpr c9
  subst c9
  have H1:(some false) = some r:=by rw [if_neg (show ¬ (false = true) by decide)] at H;exact H
  clear H
  have H:=H1
  clear H1
  obtain rfl:=Option.some.inj H
  go_enter Try.func23,Try.ntmps23
  go_wp2_with (first | ((with_reducible refine gate_dst (N:=3) rfl ?_);refine box_event ?hg (N:=3) ?hd (cs:=#[.int .i64 a1_0,.int .i64 a1_1,.float .f64 a1_2]) (t:=34) ?hr ?_;(case hd => rfl);(case hg => rfl);(case hr => first | (go_simp;done) | (go_simp;rfl));intro gb429 hg w20 hbox hb;have n0_:=Aside0.mk (below_step (by repeat (first | (with_reducible first | exact HB.out | apply below_alloc | apply pw_below_drewN | apply below_drew1) | exact HB.out)) hb);have n1_:=Aside0.mk (hbox);have n2_:=Aside0.mk ((by rw [hg];exact (below_size (by repeat (first | (with_reducible first | exact HB.out | apply below_alloc | apply pw_below_drewN | apply below_drew1) | exact HB.out))):w.heap.size ≤ gb429));have n3_:=Aside0.mk ((by rw [hg];exact (below_size (by repeat (first | (with_reducible first | exact HB.out | apply below_alloc | apply pw_below_drewN | apply below_drew1) | exact HB.out))):w.heap.size ≤ gb429));clear HB;have HB:=n0_;have BK429:=n1_;have GW429:=n2_;have GE429:=n3_;clear n0_ n1_ n2_ n3_;clear hb hbox hg;have hcz21_0:w20.cell? ⟨gb429,0,none⟩ = some (.int .i64 a1_0):=(blk_cell BK429.out 0).trans rfl;have hcz21_1:w20.cell? ⟨gb429,1,none⟩ = some (.int .i64 a1_1):=(blk_cell BK429.out 1).trans rfl;have hcz21_2:w20.cell? ⟨gb429,2,none⟩ = some (.float .f64 a1_2):=(blk_cell BK429.out 2).trans rfl;have hfz21_0:=blk_frozen BK429.out 0;have hfz21_1:=blk_frozen BK429.out 1;have hfz21_2:=blk_frozen BK429.out 2) | ((with_reducible refine gate_callee (f:=59) rfl ?_);refine goesL_ (some 17) rfl rfl Try.func59 (by kernel_rfl) rfl #[.int .i64 a1_1] rfl (by (try simp only [List.map_toArray,List.map_cons,List.map_nil]);first | done | rfl | (simp only [List.length_drop,List.length_take];rfl)) ?_;(with_reducible refine (beaconref16_number.calls a1_1 false _ A8.out).mono ?_);rintro e w' ⟨rfl,⟨nd,rfl⟩⟩;refine ⟨_,rfl,?_⟩))
  go_ret
  exact ⟨by first | rfl | (simp [errW_none,errW_some] <;> rfl) | (simp [*,errW_none,errW_some] <;> rfl),by repeat (first | (with_reducible first | exact HB.out | apply below_alloc | apply pw_below_drewN | apply below_drew1 | refine below_set ?_ GE429.out) | exact HB.out)⟩
 subst c9
 have H1:((beaconref06_Far.f a1_2).bind fun t432 => (if t432 = true then ((beaconref16_far.f a1_2).bind fun t433 => (if t433 = true then (some false) else (some ((FloatKind.f64.format.order a1_2 0 == some .eq) == (a1_1 == a0))))) else (some false))) = some r:=by rw [if_pos rfl] at H;exact H
 clear H
 have H:=H1
 clear H1
 replace H:=Option.bind_eq_some_iff.mp H
 obtain ⟨t432,A100,H⟩:=H
 replace H:(if t432 = true then ((beaconref16_far.f a1_2).bind fun t433 => (if t433 = true then (some false) else (some ((FloatKind.f64.format.order a1_2 0 == some .eq) == (a1_1 == a0))))) else (some false)) = some r:=H
 have A10:=Aside0.mk A100
 clear A100
 by_cases c11:t432 = true
 rotate_left
 ·replace c11:=Bool.eq_false_iff.mpr c11
  subst c11
  have H1:(some false) = some r:=by rw [if_neg (show ¬ (false = true) by decide)] at H;exact H
  clear H
  have H:=H1
  clear H1
  obtain rfl:=Option.some.inj H
  go_enter Try.func23,Try.ntmps23
  go_wp2_with (first | ((with_reducible refine gate_dst (N:=3) rfl ?_);refine box_event ?hg (N:=3) ?hd (cs:=#[.int .i64 a1_0,.int .i64 a1_1,.float .f64 a1_2]) (t:=34) ?hr ?_;(case hd => rfl);(case hg => rfl);(case hr => first | (go_simp;done) | (go_simp;rfl));intro gb429 hg w18 hbox hb;have n0_:=Aside0.mk (below_step (by repeat (first | (with_reducible first | exact HB.out | apply below_alloc | apply pw_below_drewN | apply below_drew1) | exact HB.out)) hb);have n1_:=Aside0.mk (hbox);have n2_:=Aside0.mk ((by rw [hg];exact (below_size (by repeat (first | (with_reducible first | exact HB.out | apply below_alloc | apply pw_below_drewN | apply below_drew1) | exact HB.out))):w.heap.size ≤ gb429));have n3_:=Aside0.mk ((by rw [hg];exact (below_size (by repeat (first | (with_reducible first | exact HB.out | apply below_alloc | apply pw_below_drewN | apply below_drew1) | exact HB.out))):w.heap.size ≤ gb429));clear HB;have HB:=n0_;have BK429:=n1_;have GW429:=n2_;have GE429:=n3_;clear n0_ n1_ n2_ n3_;clear hb hbox hg;have hcz19_0:w18.cell? ⟨gb429,0,none⟩ = some (.int .i64 a1_0):=(blk_cell BK429.out 0).trans rfl;have hcz19_1:w18.cell? ⟨gb429,1,none⟩ = some (.int .i64 a1_1):=(blk_cell BK429.out 1).trans rfl;have hcz19_2:w18.cell? ⟨gb429,2,none⟩ = some (.float .f64 a1_2):=(blk_cell BK429.out 2).trans rfl;have hfz19_0:=blk_frozen BK429.out 0;have hfz19_1:=blk_frozen BK429.out 1;have hfz19_2:=blk_frozen BK429.out 2) | ((with_reducible refine gate_callee (f:=59) rfl ?_);refine goesL_ (some 17) rfl rfl Try.func59 (by kernel_rfl) rfl #[.int .i64 a1_1] rfl (by (try simp only [List.map_toArray,List.map_cons,List.map_nil]);first | done | rfl | (simp only [List.length_drop,List.length_take];rfl)) ?_;(with_reducible refine (beaconref16_number.calls a1_1 true _ A8.out).mono ?_);rintro e w' ⟨rfl,⟨nd,rfl⟩⟩;refine ⟨_,rfl,?_⟩) | (go_at_call 61;(with_reducible refine (beaconref06_Far.calls a1_2 false _ A10.out).mono ?_);rintro e w' ⟨rfl,⟨nd,rfl⟩⟩))
  go_ret
  exact ⟨by first | rfl | (simp [errW_none,errW_some] <;> rfl) | (simp [*,errW_none,errW_some] <;> rfl),by repeat (first | (with_reducible first | exact HB.out | apply below_alloc | apply pw_below_drewN | apply below_drew1 | refine below_set ?_ GE429.out) | exact HB.out)⟩
 subst c11
 have H1:((beaconref16_far.f a1_2).bind fun t433 => (if t433 = true then (some false) else (some ((FloatKind.f64.format.order a1_2 0 == some .eq) == (a1_1 == a0))))) = some r:=by rw [if_pos rfl] at H;exact H
 clear H
 have H:=H1
 clear H1
 replace H:=Option.bind_eq_some_iff.mp H
 obtain ⟨t433,A120,H⟩:=H
 replace H:(if t433 = true then (some false) else (some ((FloatKind.f64.format.order a1_2 0 == some .eq) == (a1_1 == a0)))) = some r:=H
 have A12:=Aside0.mk A120
 clear A120
 by_cases c13:t433 = true
 ·subst c13
  have H1:(some false) = some r:=by rw [if_pos rfl] at H;exact H
  clear H
  have H:=H1
  clear H1
  obtain rfl:=Option.some.inj H
  go_enter Try.func23,Try.ntmps23
  go_wp2_with (first | ((with_reducible refine gate_dst (N:=3) rfl ?_);refine box_event ?hg (N:=3) ?hd (cs:=#[.int .i64 a1_0,.int .i64 a1_1,.float .f64 a1_2]) (t:=34) ?hr ?_;(case hd => rfl);(case hg => rfl);(case hr => first | (go_simp;done) | (go_simp;rfl));intro gb429 hg w14 hbox hb;have n0_:=Aside0.mk (below_step (by repeat (first | (with_reducible first | exact HB.out | apply below_alloc | apply pw_below_drewN | apply below_drew1) | exact HB.out)) hb);have n1_:=Aside0.mk (hbox);have n2_:=Aside0.mk ((by rw [hg];exact (below_size (by repeat (first | (with_reducible first | exact HB.out | apply below_alloc | apply pw_below_drewN | apply below_drew1) | exact HB.out))):w.heap.size ≤ gb429));have n3_:=Aside0.mk ((by rw [hg];exact (below_size (by repeat (first | (with_reducible first | exact HB.out | apply below_alloc | apply pw_below_drewN | apply below_drew1) | exact HB.out))):w.heap.size ≤ gb429));clear HB;have HB:=n0_;have BK429:=n1_;have GW429:=n2_;have GE429:=n3_;clear n0_ n1_ n2_ n3_;clear hb hbox hg;have hcz15_0:w14.cell? ⟨gb429,0,none⟩ = some (.int .i64 a1_0):=(blk_cell BK429.out 0).trans rfl;have hcz15_1:w14.cell? ⟨gb429,1,none⟩ = some (.int .i64 a1_1):=(blk_cell BK429.out 1).trans rfl;have hcz15_2:w14.cell? ⟨gb429,2,none⟩ = some (.float .f64 a1_2):=(blk_cell BK429.out 2).trans rfl;have hfz15_0:=blk_frozen BK429.out 0;have hfz15_1:=blk_frozen BK429.out 1;have hfz15_2:=blk_frozen BK429.out 2) | ((with_reducible refine gate_callee (f:=59) rfl ?_);refine goesL_ (some 17) rfl rfl Try.func59 (by kernel_rfl) rfl #[.int .i64 a1_1] rfl (by (try simp only [List.map_toArray,List.map_cons,List.map_nil]);first | done | rfl | (simp only [List.length_drop,List.length_take];rfl)) ?_;(with_reducible refine (beaconref16_number.calls a1_1 true _ A8.out).mono ?_);rintro e w' ⟨rfl,⟨nd,rfl⟩⟩;refine ⟨_,rfl,?_⟩) | (go_at_call 61;(with_reducible refine (beaconref06_Far.calls a1_2 true _ A10.out).mono ?_);rintro e w' ⟨rfl,⟨nd,rfl⟩⟩) | (go_at_call 60;(with_reducible refine (beaconref16_far.calls a1_2 true _ A12.out).mono ?_);rintro e w' ⟨rfl,⟨nd,rfl⟩⟩))
  go_ret
  exact ⟨by first | rfl | (simp [errW_none,errW_some] <;> rfl) | (simp [*,errW_none,errW_some] <;> rfl),by repeat (first | (with_reducible first | exact HB.out | apply below_alloc | apply pw_below_drewN | apply below_drew1 | refine below_set ?_ GE429.out) | exact HB.out)⟩
 replace c13:=Bool.eq_false_iff.mpr c13
 subst c13
 have H1:(some ((FloatKind.f64.format.order a1_2 0 == some .eq) == (a1_1 == a0))) = some r:=by rw [if_neg (show ¬ (false = true) by decide)] at H;exact H
 clear H
 have H:=H1
 clear H1
 obtain rfl:=Option.some.inj H
 go_enter Try.func23,Try.ntmps23
 go_wp2_with (first | ((with_reducible refine gate_dst (N:=3) rfl ?_);refine box_event ?hg (N:=3) ?hd (cs:=#[.int .i64 a1_0,.int .i64 a1_1,.float .f64 a1_2]) (t:=34) ?hr ?_;(case hd => rfl);(case hg => rfl);(case hr => first | (go_simp;done) | (go_simp;rfl));intro gb429 hg w16 hbox hb;have n0_:=Aside0.mk (below_step (by repeat (first | (with_reducible first | exact HB.out | apply below_alloc | apply pw_below_drewN | apply below_drew1) | exact HB.out)) hb);have n1_:=Aside0.mk (hbox);have n2_:=Aside0.mk ((by rw [hg];exact (below_size (by repeat (first | (with_reducible first | exact HB.out | apply below_alloc | apply pw_below_drewN | apply below_drew1) | exact HB.out))):w.heap.size ≤ gb429));have n3_:=Aside0.mk ((by rw [hg];exact (below_size (by repeat (first | (with_reducible first | exact HB.out | apply below_alloc | apply pw_below_drewN | apply below_drew1) | exact HB.out))):w.heap.size ≤ gb429));clear HB;have HB:=n0_;have BK429:=n1_;have GW429:=n2_;have GE429:=n3_;clear n0_ n1_ n2_ n3_;clear hb hbox hg;have hcz17_0:w16.cell? ⟨gb429,0,none⟩ = some (.int .i64 a1_0):=(blk_cell BK429.out 0).trans rfl;have hcz17_1:w16.cell? ⟨gb429,1,none⟩ = some (.int .i64 a1_1):=(blk_cell BK429.out 1).trans rfl;have hcz17_2:w16.cell? ⟨gb429,2,none⟩ = some (.float .f64 a1_2):=(blk_cell BK429.out 2).trans rfl;have hfz17_0:=blk_frozen BK429.out 0;have hfz17_1:=blk_frozen BK429.out 1;have hfz17_2:=blk_frozen BK429.out 2) | ((with_reducible refine gate_callee (f:=59) rfl ?_);refine goesL_ (some 17) rfl rfl Try.func59 (by kernel_rfl) rfl #[.int .i64 a1_1] rfl (by (try simp only [List.map_toArray,List.map_cons,List.map_nil]);first | done | rfl | (simp only [List.length_drop,List.length_take];rfl)) ?_;(with_reducible refine (beaconref16_number.calls a1_1 true _ A8.out).mono ?_);rintro e w' ⟨rfl,⟨nd,rfl⟩⟩;refine ⟨_,rfl,?_⟩) | (go_at_call 61;(with_reducible refine (beaconref06_Far.calls a1_2 true _ A10.out).mono ?_);rintro e w' ⟨rfl,⟨nd,rfl⟩⟩) | (go_at_call 60;(with_reducible refine (beaconref16_far.calls a1_2 false _ A12.out).mono ?_);rintro e w' ⟨rfl,⟨nd,rfl⟩⟩))
 go_ret
 exact ⟨by first | rfl | (simp [errW_none,errW_some] <;> rfl) | (simp [*,errW_none,errW_some] <;> rfl),by repeat (first | (with_reducible first | exact HB.out | apply below_alloc | apply pw_below_drewN | apply below_drew1 | refine below_set ?_ GE429.out) | exact HB.out)⟩
end Go.Proofs.Ytjcnmpkaiopihaa.PA
