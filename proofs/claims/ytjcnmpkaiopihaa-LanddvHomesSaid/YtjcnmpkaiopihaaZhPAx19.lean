/- Printed by a program of this session (wip/tools/patch_print.py and pr.py, over the kit's print): each Go function as a plain Lean function, and that the Go code comes to just its answers. Conditions: those that each theorem names. -/
import Derived.Test.YtjcnmpkaiopihaaZhMn
import Derived.Test.YtjcnmpkaiopihaaZhPAx0
import Derived.Test.YtjcnmpkaiopihaaZhPAx1
import Derived.Test.YtjcnmpkaiopihaaZhPAx2
import Derived.Test.YtjcnmpkaiopihaaZhPAx6
import Derived.Test.YtjcnmpkaiopihaaZhPAx17
import Derived.Test.YtjcnmpkaiopihaaZhPAx18
namespace Go.Proofs.Ytjcnmpkaiopihaa.PA
open Go.RowKit Go.Proofs.YtjcnmpkaiopihaaW.PrintWords Go.Proofs.YtjcnmpkaiopihaaW.PrintLast Go.Proofs.YtjcnmpkaiopihaaW.PrintMore
attribute [local go_sem] max2_int min2_int max_two min_two max_three min_three max_four min_four
set_option linter.unusedVariables false
set_option linter.unusedSimpArgs false
attribute [local go_sem high] eqA116
def landdv_asked.f (k:Nat) (a0:Int) (l1:List (S58)):Option (Int):=(ident_CheckId.f a0).bind fun t330 => (if t330 = 0 then ((landdv_may.f k a0 l1).bind fun t331 => (if t331 = true then (some 0) else (some 1))) else (some t330))
set_option maxHeartbeats 8000000 in
set_option maxRecDepth 100000 in
theorem landdv_asked.calls (k:Nat) (a0:Int) (A1:Option Addr) (c1:Nat) (l1:List (S58)) (r:Int) (w:World) (hr1:Kd.C k58 w A1 l1.length l1) (hc1:l1.length ≤ c1) (h:landdv_asked.f k a0 l1 = some r) :
  Calls Try.prog 64 #[.int .i64 a0,.slice A1 l1.length c1] w fun e w' => e = .returned (.int .i64 r) ∧ Below w.heap.size w w':=by
 have HR1:=Aside0.mk hr1
 have HC1:=Aside0.mk hc1
 clear hr1 hc1
 have HB:=Aside0.mk (Below.refl w.heap.size w)
 have H:((ident_CheckId.f a0).bind fun t330 => (if t330 = 0 then ((landdv_may.f k a0 l1).bind fun t331 => (if t331 = true then (some 0) else (some 1))) else (some t330))) = some r:=h
 clear h
 replace H:=Option.bind_eq_some_iff.mp H
 obtain ⟨t330,A30,H⟩:=H
 replace H:(if t330 = 0 then ((landdv_may.f k a0 l1).bind fun t331 => (if t331 = true then (some 0) else (some 1))) else (some t330)) = some r:=H
 have A3:=Aside0.mk A30
 clear A30
 by_cases c4:t330 = 0
 rotate_left
 ·rw [if_neg c4] at H
  have c4b0:(t330 == 0) = false:=beq_eq_false_iff_ne.mpr c4
  have c4b1:(t330 != 0) = true:=bne_iff_ne.mpr c4
  obtain rfl:=Option.some.inj H
  go_enter Try.func64,Try.ntmps64
  go_wp2_with (first | ((with_reducible refine gate_callee (f:=49) rfl ?_);refine goesL_ (some 7) rfl rfl Try.func49 (by kernel_rfl) rfl #[.int .i64 a0] rfl (by (try simp only [List.map_toArray,List.map_cons,List.map_nil]);first | done | rfl | (simp only [List.length_drop,List.length_take];rfl)) ?_;(with_reducible refine (ident_CheckId.calls a0 t330 _ A3.out).mono ?_);rintro e w' ⟨rfl,⟨nd,rfl⟩⟩;refine ⟨_,rfl,?_⟩))
  go_ret
  exact ⟨by first | rfl | (simp [errW_none,errW_some] <;> rfl) | (simp [*,errW_none,errW_some] <;> rfl),by repeat (first | (with_reducible first | exact HB.out | apply below_alloc | apply pw_below_drewN | apply below_drew1) | exact HB.out)⟩
 rw [if_pos c4] at H
 have c4b0:(t330 == 0) = true:=beq_iff_eq.mpr c4
 have c4b1:(t330 != 0) = false:=bne_eq_false_iff_eq.mpr c4
 clear c4
 replace H:=Option.bind_eq_some_iff.mp H
 obtain ⟨t331,A50,H⟩:=H
 replace H:(if t331 = true then (some 0) else (some 1)) = some r:=H
 have A5:=Aside0.mk A50
 clear A50
 by_cases c6:t331 = true
 ·subst c6
  have H1:(some 0) = some r:=by rw [if_pos rfl] at H;exact H
  clear H
  have H:=H1
  clear H1
  obtain rfl:=Option.some.inj H
  go_enter Try.func64,Try.ntmps64
  go_wp2_with (first | ((with_reducible refine gate_callee (f:=49) rfl ?_);refine goesL_ (some 7) rfl rfl Try.func49 (by kernel_rfl) rfl #[.int .i64 a0] rfl (by (try simp only [List.map_toArray,List.map_cons,List.map_nil]);first | done | rfl | (simp only [List.length_drop,List.length_take];rfl)) ?_;(with_reducible refine (ident_CheckId.calls a0 t330 _ A3.out).mono ?_);rintro e w' ⟨rfl,⟨nd,rfl⟩⟩;refine ⟨_,rfl,?_⟩) | ((with_reducible refine gate_callee (f:=89) rfl ?_);refine goesL_ (some 13) rfl rfl Try.func89 (by kernel_rfl) rfl #[.int .i64 a0,.slice A1 l1.length c1] rfl (by (try simp only [List.map_toArray,List.map_cons,List.map_nil]);first | done | rfl | (simp only [List.length_drop,List.length_take];rfl)) ?_;(with_reducible refine (landdv_may.calls k a0 _ _ l1 true _ ?side1 ?side2 A5.out).mono ?_);(case side1 => repeat (first | exact HR1.out | (with_reducible refine Kd.C_alloc ?_ _) | (with_reducible refine Kd.C_drewN ?_ _) | (with_reducible refine Kd.C_drew ?_)));(case side2 => exact HC1.out);rintro e w7 ⟨rfl,hb⟩;refine ⟨_,rfl,?_⟩;have n0_:=Aside0.mk (below_step (by repeat (first | (with_reducible first | exact HB.out | apply below_alloc | apply pw_below_drewN | apply below_drew1) | exact HB.out)) hb);clear HB;have HB:=n0_;clear n0_;(try clear hb);(try clear hb2);(try clear hk);(try clear hi)))
  go_ret
  exact ⟨by first | rfl | (simp [errW_none,errW_some] <;> rfl) | (simp [*,errW_none,errW_some] <;> rfl),by repeat (first | (with_reducible first | exact HB.out | apply below_alloc | apply pw_below_drewN | apply below_drew1) | exact HB.out)⟩
 replace c6:=Bool.eq_false_iff.mpr c6
 subst c6
 have H1:(some 1) = some r:=by rw [if_neg (show ¬ (false = true) by decide)] at H;exact H
 clear H
 have H:=H1
 clear H1
 obtain rfl:=Option.some.inj H
 go_enter Try.func64,Try.ntmps64
 go_wp2_with (first | ((with_reducible refine gate_callee (f:=49) rfl ?_);refine goesL_ (some 7) rfl rfl Try.func49 (by kernel_rfl) rfl #[.int .i64 a0] rfl (by (try simp only [List.map_toArray,List.map_cons,List.map_nil]);first | done | rfl | (simp only [List.length_drop,List.length_take];rfl)) ?_;(with_reducible refine (ident_CheckId.calls a0 t330 _ A3.out).mono ?_);rintro e w' ⟨rfl,⟨nd,rfl⟩⟩;refine ⟨_,rfl,?_⟩) | ((with_reducible refine gate_callee (f:=89) rfl ?_);refine goesL_ (some 13) rfl rfl Try.func89 (by kernel_rfl) rfl #[.int .i64 a0,.slice A1 l1.length c1] rfl (by (try simp only [List.map_toArray,List.map_cons,List.map_nil]);first | done | rfl | (simp only [List.length_drop,List.length_take];rfl)) ?_;(with_reducible refine (landdv_may.calls k a0 _ _ l1 false _ ?side1 ?side2 A5.out).mono ?_);(case side1 => repeat (first | exact HR1.out | (with_reducible refine Kd.C_alloc ?_ _) | (with_reducible refine Kd.C_drewN ?_ _) | (with_reducible refine Kd.C_drew ?_)));(case side2 => exact HC1.out);rintro e w8 ⟨rfl,hb⟩;refine ⟨_,rfl,?_⟩;have n0_:=Aside0.mk (below_step (by repeat (first | (with_reducible first | exact HB.out | apply below_alloc | apply pw_below_drewN | apply below_drew1) | exact HB.out)) hb);clear HB;have HB:=n0_;clear n0_;(try clear hb);(try clear hb2);(try clear hk);(try clear hi)))
 go_ret
 exact ⟨by first | rfl | (simp [errW_none,errW_some] <;> rfl) | (simp [*,errW_none,errW_some] <;> rfl),by repeat (first | (with_reducible first | exact HB.out | apply below_alloc | apply pw_below_drewN | apply below_drew1) | exact HB.out)⟩
def landdv_Home.l0:Nat → List (S58) → Int → Int → Int → Int → Nat → Option (Int × Int × Nat × Int)
 | 0,_,_,_,_,_,_ => none
 | k + 1,x26,x27,x28,x336000,x336001,x336002 => if x28 < x27 then (if 0 ≤ x28 then (if x28 < (x26.length:Int) then (if (FloatKind.f64.format.order ((rd_T58 x26 x28).f2) x336002 == some .lt) = true then (landdv_Home.l0 k x26 x27 (wrap64 (x28 + 1)) x336000 ((rd_T58 x26 x28).f0) ((rd_T58 x26 x28).f2)) else (landdv_Home.l0 k x26 x27 (wrap64 (x28 + 1)) x336000 x336001 x336002)) else (none)) else (none)) else (some (x336000,x336001,x336002,0))
def landdv_Home.f (k:Nat) (a0:Int) (a1:Bool) (l2:List (S58)):Option (Int × Int × Nat × Int):=(landdv_asked.f k a0 l2).bind fun t333 => (if t333 = 0 then (if a1 = true then (some (a0,a0,0,0)) else ((math_Inf.f 1).bind fun t334 => (landdv_Home.l0 k l2 (l2.length:Int) 0 a0 0 t334))) else (some (0,0,0,t333)))
def landdv_Home.T11:Bool × List (List Nat × List Nat):=(true,[([],[]),([0],[0]),([],[]),([2],[2]),([0,1],[]),([4,1,0,1],[1,4]),([0,1,2,3,4,5],[]),([6,3,5,0,1,2,3,4,5],[3,6])])
def landdv_Home.B11:List Nat:=[0,1,0,4,3,19,63,127]
theorem landdv_Home.tab11:rtab .any (opsOf Try.f26 11) = landdv_Home.T11:=by kernel_rfl
theorem landdv_Home.bits11:waitsOk landdv_Home.T11.2 landdv_Home.B11 = true:=by kernel_rfl
set_option maxHeartbeats 8000000 in
set_option maxRecDepth 100000 in
theorem landdv_Home.calls (k:Nat) (a0:Int) (a1:Bool) (A2:Option Addr) (c2:Nat) (l2:List (S58)) (r1:Int) (r2:Int) (r3:Nat) (r4:Int) (w:World) (hr2:Kd.C k58 w A2 l2.length l2) (hc2:l2.length ≤ c2) (h:landdv_Home.f k a0 a1 l2 = some (r1,r2,r3,r4)) :
  Calls Try.prog 26 #[.int .i64 a0,.bool a1,.slice A2 l2.length c2] w fun e w' => e = .returned (.tuple #[.agg #[.int .i64 r1,.int .i64 r2,.float .f64 r3],.int .i64 r4]) ∧ Below w.heap.size w w':=by
 have hu34:=Try.underlying34
 have hu58:=Try.underlying58
 have HR2:=Aside0.mk hr2
 have HC2:=Aside0.mk hc2
 clear hr2 hc2
 have HB:=Aside0.mk (Below.refl w.heap.size w)
 have H:((landdv_asked.f k a0 l2).bind fun t333 => (if t333 = 0 then (if a1 = true then (some (a0,a0,0,0)) else ((math_Inf.f 1).bind fun t334 => (landdv_Home.l0 k l2 (l2.length:Int) 0 a0 0 t334))) else (some (0,0,0,t333)))) = some (r1,r2,r3,r4):=h
 clear h
 replace H:=Option.bind_eq_some_iff.mp H
 obtain ⟨t333,A40,H⟩:=H
 replace H:(if t333 = 0 then (if a1 = true then (some (a0,a0,0,0)) else ((math_Inf.f 1).bind fun t334 => (landdv_Home.l0 k l2 (l2.length:Int) 0 a0 0 t334))) else (some (0,0,0,t333))) = some (r1,r2,r3,r4):=H
 have A4:=Aside0.mk A40
 clear A40
 by_cases c5:t333 = 0
 rotate_left
 ·rw [if_neg c5] at H
  have c5b0:(t333 == 0) = false:=beq_eq_false_iff_ne.mpr c5
  have c5b1:(t333 != 0) = true:=bne_iff_ne.mpr c5
  simp only [Option.some.injEq,Prod.mk.injEq] at H
  obtain ⟨rfl,rfl,rfl,rfl⟩:=H
  go_enter Try.func26,Try.ntmps26
  go_wp2_with (first | ((with_reducible refine gate_dst (N:=6) rfl ?_);refine box_event ?hg (N:=6) ?hd (cs:=#[.int .i64 0,.int .i64 0,.float .f64 0]) (t:=34) ?hr ?_;(case hd => rfl);(case hg => rfl);(case hr => first | (go_simp;done) | (go_simp;rfl));intro gb332 hg w39 hbox hb;have n0_:=Aside0.mk (below_step (by repeat (first | (with_reducible first | exact HB.out | apply below_alloc | apply pw_below_drewN | apply below_drew1) | exact HB.out)) hb);have n1_:=Aside0.mk (hbox);have n2_:=Aside0.mk ((by rw [hg];exact (below_size (by repeat (first | (with_reducible first | exact HB.out | apply below_alloc | apply pw_below_drewN | apply below_drew1) | exact HB.out))):w.heap.size ≤ gb332));have n3_:=Aside0.mk ((by rw [hg];exact (below_size (by repeat (first | (with_reducible first | exact HB.out | apply below_alloc | apply pw_below_drewN | apply below_drew1) | exact HB.out))):w.heap.size ≤ gb332));clear HB;have HB:=n0_;have BK332:=n1_;have GW332:=n2_;have GE332:=n3_;clear n0_ n1_ n2_ n3_;clear hb hbox hg) | ((with_reducible refine gate_callee (f:=64) rfl ?_);refine goesL_ (some 14) rfl rfl Try.func64 (by kernel_rfl) rfl #[.int .i64 a0,.slice A2 l2.length c2] rfl (by (try simp only [List.map_toArray,List.map_cons,List.map_nil]);first | done | rfl | (simp only [List.length_drop,List.length_take];rfl)) ?_;(with_reducible refine (landdv_asked.calls k a0 _ _ l2 t333 _ ?side1 ?side2 A4.out).mono ?_);(case side1 => repeat (first | exact (Kd.C_below HR2.out HB.out) | (with_reducible refine Kd.C_alloc ?_ _) | (with_reducible refine Kd.C_drewN ?_ _) | (with_reducible refine Kd.C_drew ?_)));(case side2 => exact HC2.out);rintro e w40 ⟨rfl,hb⟩;refine ⟨_,rfl,?_⟩;have n0_:=Aside0.mk (blk_below (g:=gb332) (o:=.cells #[.int .i64 0,.int .i64 0,.float .f64 0] 34 (0,0)) (by (with_reducible repeat (first | refine blk_drewN ?_ _ | refine blk_drew ?_ | refine blk_alloc ?_ _));exact BK332.out) hb);have n1_:=Aside0.mk (below_step (by repeat (first | (with_reducible first | exact HB.out | apply below_alloc | apply pw_below_drewN | apply below_drew1 | refine below_set ?_ GE332.out) | exact HB.out)) hb);clear BK332;clear HB;have BK332:=n0_;have HB:=n1_;clear n0_ n1_;(try clear hb);(try clear hb2);(try clear hk);(try clear hi);have hcz41_0:w40.cell? ⟨gb332,0,none⟩ = some (.int .i64 0):=(blk_cell BK332.out 0).trans rfl;have hcz41_1:w40.cell? ⟨gb332,1,none⟩ = some (.int .i64 0):=(blk_cell BK332.out 1).trans rfl;have hcz41_2:w40.cell? ⟨gb332,2,none⟩ = some (.float .f64 0):=(blk_cell BK332.out 2).trans rfl;have hfz41_0:=blk_frozen BK332.out 0;have hfz41_1:=blk_frozen BK332.out 1;have hfz41_2:=blk_frozen BK332.out 2))
  refine bodyPost_ret (results_ct rfl _ _ gb332 34 #[.int .i64 0,.int .i64 0,.float .f64 0] (0,0) _ rfl (by (with_reducible repeat (first | refine blk_drewN ?_ _ | refine blk_drew ?_ | refine blk_alloc ?_ _));refine blk_put (cs:=#[.int .i64 0,.int .i64 0,.float .f64 0]) ?_ 2 _ rfl;(with_reducible repeat (first | refine blk_drewN ?_ _ | refine blk_drew ?_ | refine blk_alloc ?_ _));refine blk_put (cs:=#[.int .i64 0,.int .i64 0,.float .f64 0]) ?_ 1 _ rfl;(with_reducible repeat (first | refine blk_drewN ?_ _ | refine blk_drew ?_ | refine blk_alloc ?_ _));refine blk_put (cs:=#[.int .i64 0,.int .i64 0,.float .f64 0]) ?_ 0 _ rfl;(with_reducible repeat (first | refine blk_drewN ?_ _ | refine blk_drew ?_ | refine blk_alloc ?_ _));exact BK332.out) Try.underlying34 rfl (by kernel_rfl)) rfl ?_
  exact ⟨by first | rfl | (simp [errW_none,errW_some] <;> rfl) | (simp [*,errW_none,errW_some] <;> rfl),by repeat (first | (with_reducible first | exact HB.out | apply below_alloc | apply pw_below_drewN | apply below_drew1 | refine below_set ?_ GE332.out) | exact HB.out)⟩
 rw [if_pos c5] at H
 have c5b0:(t333 == 0) = true:=beq_iff_eq.mpr c5
 have c5b1:(t333 != 0) = false:=bne_eq_false_iff_eq.mpr c5
 clear c5
 by_cases c6:a1 = true
 ·subst c6
  have H1:(some (a0,a0,0,0)) = some (r1,r2,r3,r4):=by rw [if_pos rfl] at H;exact H
  clear H
  have H:=H1
  clear H1
  simp only [Option.some.injEq,Prod.mk.injEq] at H
  obtain ⟨rfl,rfl,rfl,rfl⟩:=H
  go_enter Try.func26,Try.ntmps26
  go_wp2_with (first | ((with_reducible refine gate_dst (N:=6) rfl ?_);refine box_event ?hg (N:=6) ?hd (cs:=#[.int .i64 0,.int .i64 0,.float .f64 0]) (t:=34) ?hr ?_;(case hd => rfl);(case hg => rfl);(case hr => first | (go_simp;done) | (go_simp;rfl));intro gb332 hg w7 hbox hb;have n0_:=Aside0.mk (below_step (by repeat (first | (with_reducible first | exact HB.out | apply below_alloc | apply pw_below_drewN | apply below_drew1) | exact HB.out)) hb);have n1_:=Aside0.mk (hbox);have n2_:=Aside0.mk ((by rw [hg];exact (below_size (by repeat (first | (with_reducible first | exact HB.out | apply below_alloc | apply pw_below_drewN | apply below_drew1) | exact HB.out))):w.heap.size ≤ gb332));have n3_:=Aside0.mk ((by rw [hg];exact (below_size (by repeat (first | (with_reducible first | exact HB.out | apply below_alloc | apply pw_below_drewN | apply below_drew1) | exact HB.out))):w.heap.size ≤ gb332));clear HB;have HB:=n0_;have BK332:=n1_;have GW332:=n2_;have GE332:=n3_;clear n0_ n1_ n2_ n3_;clear hb hbox hg) | ((with_reducible refine gate_callee (f:=64) rfl ?_);refine goesL_ (some 14) rfl rfl Try.func64 (by kernel_rfl) rfl #[.int .i64 a0,.slice A2 l2.length c2] rfl (by (try simp only [List.map_toArray,List.map_cons,List.map_nil]);first | done | rfl | (simp only [List.length_drop,List.length_take];rfl)) ?_;(with_reducible refine (landdv_asked.calls k a0 _ _ l2 t333 _ ?side1 ?side2 A4.out).mono ?_);(case side1 => repeat (first | exact (Kd.C_below HR2.out HB.out) | (with_reducible refine Kd.C_alloc ?_ _) | (with_reducible refine Kd.C_drewN ?_ _) | (with_reducible refine Kd.C_drew ?_)));(case side2 => exact HC2.out);rintro e w8 ⟨rfl,hb⟩;refine ⟨_,rfl,?_⟩;have n0_:=Aside0.mk (blk_below (g:=gb332) (o:=.cells #[.int .i64 0,.int .i64 0,.float .f64 0] 34 (0,0)) (by (with_reducible repeat (first | refine blk_drewN ?_ _ | refine blk_drew ?_ | refine blk_alloc ?_ _));exact BK332.out) hb);have n1_:=Aside0.mk (below_step (by repeat (first | (with_reducible first | exact HB.out | apply below_alloc | apply pw_below_drewN | apply below_drew1 | refine below_set ?_ GE332.out) | exact HB.out)) hb);clear BK332;clear HB;have BK332:=n0_;have HB:=n1_;clear n0_ n1_;(try clear hb);(try clear hb2);(try clear hk);(try clear hi);have hcz9_0:w8.cell? ⟨gb332,0,none⟩ = some (.int .i64 0):=(blk_cell BK332.out 0).trans rfl;have hcz9_1:w8.cell? ⟨gb332,1,none⟩ = some (.int .i64 0):=(blk_cell BK332.out 1).trans rfl;have hcz9_2:w8.cell? ⟨gb332,2,none⟩ = some (.float .f64 0):=(blk_cell BK332.out 2).trans rfl;have hfz9_0:=blk_frozen BK332.out 0;have hfz9_1:=blk_frozen BK332.out 1;have hfz9_2:=blk_frozen BK332.out 2))
  refine bodyPost_ret (results_ct rfl _ _ gb332 34 #[.int .i64 a0,.int .i64 a0,.float .f64 0] (0,0) _ rfl (by (with_reducible repeat (first | refine blk_drewN ?_ _ | refine blk_drew ?_ | refine blk_alloc ?_ _));refine blk_put (cs:=#[.int .i64 a0,.int .i64 a0,.float .f64 0]) ?_ 2 _ rfl;(with_reducible repeat (first | refine blk_drewN ?_ _ | refine blk_drew ?_ | refine blk_alloc ?_ _));refine blk_put (cs:=#[.int .i64 a0,.int .i64 0,.float .f64 0]) ?_ 1 _ rfl;(with_reducible repeat (first | refine blk_drewN ?_ _ | refine blk_drew ?_ | refine blk_alloc ?_ _));refine blk_put (cs:=#[.int .i64 0,.int .i64 0,.float .f64 0]) ?_ 0 _ rfl;(with_reducible repeat (first | refine blk_drewN ?_ _ | refine blk_drew ?_ | refine blk_alloc ?_ _));exact BK332.out) Try.underlying34 rfl (by kernel_rfl)) rfl ?_
  exact ⟨by first | rfl | (simp [errW_none,errW_some] <;> rfl) | (simp [*,errW_none,errW_some] <;> rfl),by repeat (first | (with_reducible first | exact HB.out | apply below_alloc | apply pw_below_drewN | apply below_drew1 | refine below_set ?_ GE332.out) | exact HB.out)⟩
 replace c6:=Bool.eq_false_iff.mpr c6
 subst c6
 have H1:((math_Inf.f 1).bind fun t334 => (landdv_Home.l0 k l2 (l2.length:Int) 0 a0 0 t334)) = some (r1,r2,r3,r4):=by rw [if_neg (show ¬ (false = true) by decide)] at H;exact H
 clear H
 have H:=H1
 clear H1
 replace H:=Option.bind_eq_some_iff.mp H
 obtain ⟨t334,A100,H⟩:=H
 replace H:(landdv_Home.l0 k l2 (l2.length:Int) 0 a0 0 t334) = some (r1,r2,r3,r4):=H
 have A10:=Aside0.mk A100
 clear A100
 have H':=Aside0.mk H
 clear H
 go_enter Try.func26,Try.ntmps26
 go_wp2_with (first | ((with_reducible refine gate_dst (N:=6) rfl ?_);refine box_event ?hg (N:=6) ?hd (cs:=#[.int .i64 0,.int .i64 0,.float .f64 0]) (t:=34) ?hr ?_;(case hd => rfl);(case hg => rfl);(case hr => first | (go_simp;done) | (go_simp;rfl));intro gb332 hg w11 hbox hb;have n0_:=Aside0.mk (below_step (by repeat (first | (with_reducible first | exact HB.out | apply below_alloc | apply pw_below_drewN | apply below_drew1) | exact HB.out)) hb);have n1_:=Aside0.mk (hbox);have n2_:=Aside0.mk ((by rw [hg];exact (below_size (by repeat (first | (with_reducible first | exact HB.out | apply below_alloc | apply pw_below_drewN | apply below_drew1) | exact HB.out))):w.heap.size ≤ gb332));have n3_:=Aside0.mk ((by rw [hg];exact (below_size (by repeat (first | (with_reducible first | exact HB.out | apply below_alloc | apply pw_below_drewN | apply below_drew1) | exact HB.out))):w.heap.size ≤ gb332));clear HB;have HB:=n0_;have BK332:=n1_;have GW332:=n2_;have GE332:=n3_;clear n0_ n1_ n2_ n3_;clear hb hbox hg) | ((with_reducible refine gate_callee (f:=64) rfl ?_);refine goesL_ (some 14) rfl rfl Try.func64 (by kernel_rfl) rfl #[.int .i64 a0,.slice A2 l2.length c2] rfl (by (try simp only [List.map_toArray,List.map_cons,List.map_nil]);first | done | rfl | (simp only [List.length_drop,List.length_take];rfl)) ?_;(with_reducible refine (landdv_asked.calls k a0 _ _ l2 t333 _ ?side1 ?side2 A4.out).mono ?_);(case side1 => repeat (first | exact (Kd.C_below HR2.out HB.out) | (with_reducible refine Kd.C_alloc ?_ _) | (with_reducible refine Kd.C_drewN ?_ _) | (with_reducible refine Kd.C_drew ?_)));(case side2 => exact HC2.out);rintro e w12 ⟨rfl,hb⟩;refine ⟨_,rfl,?_⟩;have n0_:=Aside0.mk (blk_below (g:=gb332) (o:=.cells #[.int .i64 0,.int .i64 0,.float .f64 0] 34 (0,0)) (by (with_reducible repeat (first | refine blk_drewN ?_ _ | refine blk_drew ?_ | refine blk_alloc ?_ _));exact BK332.out) hb);have n1_:=Aside0.mk (below_step (by repeat (first | (with_reducible first | exact HB.out | apply below_alloc | apply pw_below_drewN | apply below_drew1 | refine below_set ?_ GE332.out) | exact HB.out)) hb);clear BK332;clear HB;have BK332:=n0_;have HB:=n1_;clear n0_ n1_;(try clear hb);(try clear hb2);(try clear hk);(try clear hi)) | ((with_reducible refine gate_callee (f:=40) rfl ?_);refine goesL_ (some 24) rfl rfl Try.func40 (by kernel_rfl) rfl #[.int .i64 1] rfl (by (try simp only [List.map_toArray,List.map_cons,List.map_nil]);first | done | rfl | (simp only [List.length_drop,List.length_take];rfl)) ?_;(with_reducible refine (math_Inf.calls 1 t334 _ A10.out).mono ?_);rintro e w' ⟨rfl,⟨nd,rfl⟩⟩;refine ⟨_,rfl,?_⟩;(try (rw [drewN_self w12];generalize hq_:World.drewN w12 _ = w12;have n0_:Aside0 (w12.heap[gb332]? = some (.cells #[.int .i64 0,.int .i64 0,.float .f64 0] 34 (0,0))):=⟨by rw [← hq_];exact (by (with_reducible repeat (first | refine blk_drewN ?_ _ | refine blk_drew ?_ | refine blk_alloc ?_ _));exact BK332.out)⟩;have n1_:Aside0 (Below w.heap.size w w12):=⟨by rw [← hq_];exact (by repeat (first | (with_reducible first | exact HB.out | apply below_alloc | apply pw_below_drewN | apply below_drew1 | refine below_set ?_ GE332.out) | exact HB.out))⟩;clear BK332 HB hq_;have BK332:=n0_;have HB:=n1_;clear n0_ n1_))) | ((with_reducible refine gate_dst (N:=9) rfl ?_);refine box_event ?hg (N:=9) ?hd (cs:=#[.int .i64 0,.int .i64 0,.float .f64 0]) (t:=34) ?hr ?_;(case hd => rfl);(case hg => rfl);(case hr => first | (go_simp;done) | (go_simp;rfl));intro gb335 hg w13 hbox hb;have n0_:=Aside0.mk (blk_below (g:=gb332) (o:=.cells #[.int .i64 0,.int .i64 0,.float .f64 0] 34 (0,0)) (by (with_reducible repeat (first | refine blk_drewN ?_ _ | refine blk_drew ?_ | refine blk_alloc ?_ _));exact BK332.out) hb);have n1_:=Aside0.mk (below_step (by repeat (first | (with_reducible first | exact HB.out | apply below_alloc | apply pw_below_drewN | apply below_drew1 | refine below_set ?_ GE332.out) | exact HB.out)) hb);have n2_:=Aside0.mk (hbox);have n3_:=Aside0.mk ((by rw [hg];exact (below_size (by repeat (first | (with_reducible first | exact HB.out | apply below_alloc | apply pw_below_drewN | apply below_drew1 | refine below_set ?_ GE332.out) | exact HB.out))):w.heap.size ≤ gb335));have n4_:=Aside0.mk ((by rw [hg];exact (below_size (by repeat (first | (with_reducible first | exact HB.out | apply below_alloc | apply pw_below_drewN | apply below_drew1 | refine below_set ?_ GE332.out) | exact HB.out))):w.heap.size ≤ gb335));have n5_:=Aside0.mk ((by rw [hg];exact Nat.ne_of_lt (blk_lt (g:=gb332) (o:=.cells #[.int .i64 0,.int .i64 0,.float .f64 0] 34 (0,0)) (by (with_reducible repeat (first | refine blk_drewN ?_ _ | refine blk_drew ?_ | refine blk_alloc ?_ _));exact BK332.out)):gb332 ≠ gb335));have n6_:=Aside0.mk ((by rw [hg];exact Nat.ne_of_gt (blk_lt (g:=gb332) (o:=.cells #[.int .i64 0,.int .i64 0,.float .f64 0] 34 (0,0)) (by (with_reducible repeat (first | refine blk_drewN ?_ _ | refine blk_drew ?_ | refine blk_alloc ?_ _));exact BK332.out)):gb335 ≠ gb332));clear BK332;clear HB;have BK332:=n0_;have HB:=n1_;have BK335:=n2_;have GW335:=n3_;have GE335:=n4_;have NB332_335:=n5_;have NB335_332:=n6_;clear n0_ n1_ n2_ n3_ n4_ n5_ n6_;clear hb hbox hg;have hnb14:=NB335_332.out;have hnc14:=NB332_335.out;have hcz15_0:w13.cell? ⟨gb335,0,none⟩ = some (.int .i64 0):=(blk_cell BK335.out 0).trans rfl;have hcz15_1:w13.cell? ⟨gb335,1,none⟩ = some (.int .i64 0):=(blk_cell BK335.out 1).trans rfl;have hcz15_2:w13.cell? ⟨gb335,2,none⟩ = some (.float .f64 0):=(blk_cell BK335.out 2).trans rfl;have hfz15_0:=blk_frozen BK335.out 0;have hfz15_1:=blk_frozen BK335.out 1;have hfz15_2:=blk_frozen BK335.out 2))
 go_loopg [28] k (fun kq v28 w' => ∃ (x28_1:Int) (x336001_1:Int) (x336002_1:Nat),v28 = .int .i64 x28_1 ∧ Aside0 (landdv_Home.l0 kq l2 (l2.length:Int) x28_1 a0 x336001_1 x336002_1 = some (r1,r2,r3,r4)) ∧ Aside0 (kq ≤ k) ∧ Aside0 (w'.heap[gb332]? = some (.cells #[.int .i64 0,.int .i64 0,.float .f64 0] 34 (0,0))) ∧ Aside0 (w'.heap[gb335]? = some (.cells #[.int .i64 a0,.int .i64 x336001_1,.float .f64 x336002_1] 34 (0,0))) ∧ Aside0 (Below w.heap.size w w'))
 case atStart => exact ⟨(0),(0),(t334),(by first | rfl | (simp;done) | (simp [*];done)),H',⟨Nat.le_refl _⟩,⟨by (with_reducible repeat (first | refine blk_drewN ?_ _ | refine blk_drew ?_ | refine blk_alloc ?_ _));refine blk_far ?_ NB332_335.out _;(with_reducible repeat (first | refine blk_drewN ?_ _ | refine blk_drew ?_ | refine blk_alloc ?_ _));refine blk_far ?_ NB332_335.out _;(with_reducible repeat (first | refine blk_drewN ?_ _ | refine blk_drew ?_ | refine blk_alloc ?_ _));refine blk_far ?_ NB332_335.out _;(with_reducible repeat (first | refine blk_drewN ?_ _ | refine blk_drew ?_ | refine blk_alloc ?_ _));exact BK332.out⟩,⟨by (with_reducible repeat (first | refine blk_drewN ?_ _ | refine blk_drew ?_ | refine blk_alloc ?_ _));refine blk_put (cs:=#[.int .i64 a0,.int .i64 0,.float .f64 0]) ?_ 2 _ rfl;(with_reducible repeat (first | refine blk_drewN ?_ _ | refine blk_drew ?_ | refine blk_alloc ?_ _));refine blk_put (cs:=#[.int .i64 a0,.int .i64 0,.float .f64 0]) ?_ 1 _ rfl;(with_reducible repeat (first | refine blk_drewN ?_ _ | refine blk_drew ?_ | refine blk_alloc ?_ _));refine blk_put (cs:=#[.int .i64 0,.int .i64 0,.float .f64 0]) ?_ 0 _ rfl;(with_reducible repeat (first | refine blk_drewN ?_ _ | refine blk_drew ?_ | refine blk_alloc ?_ _));exact BK335.out⟩,⟨by repeat (first | (with_reducible first | exact HB.out | apply below_alloc | apply pw_below_drewN | apply below_drew1 | refine below_set ?_ GE332.out | refine below_set ?_ GE335.out) | exact HB.out)⟩⟩
 case round =>
  clear H'
  obtain ⟨x28_1,x336001_1,x336002_1,rfl,HA,HK1,BK332,BK335,HB⟩:=hrel
  cases gk with
  | zero => exact absurd HA.out (by simp [landdv_Home.l0])
  | succ k1 =>
   have H:=HA.out
   clear HA
   simp only [landdv_Home.l0] at H
   by_cases c16:x28_1 < (l2.length:Int)
   rotate_left
   ·rw [if_neg c16] at H
    have c16b0:decide (x28_1 < (l2.length:Int)) = false:=decide_eq_false c16
    clear c16
    simp only [Option.some.injEq,Prod.mk.injEq] at H
    obtain ⟨rfl,rfl,rfl,rfl⟩:=H
    have hnb36:=NB335_332.out
    have hnc36:=NB332_335.out
    have hcz37_0:wr.cell? ⟨gb335,0,none⟩ = some (.int .i64 a0):=(blk_cell BK335.out 0).trans rfl
    have hcz37_1:wr.cell? ⟨gb335,1,none⟩ = some (.int .i64 x336001_1):=(blk_cell BK335.out 1).trans rfl
    have hcz37_2:wr.cell? ⟨gb335,2,none⟩ = some (.float .f64 x336002_1):=(blk_cell BK335.out 2).trans rfl
    have hfz37_0:=blk_frozen BK335.out 0
    have hfz37_1:=blk_frozen BK335.out 1
    have hfz37_2:=blk_frozen BK335.out 2
    have hcz38_0:wr.cell? ⟨gb332,0,none⟩ = some (.int .i64 0):=(blk_cell BK332.out 0).trans rfl
    have hcz38_1:wr.cell? ⟨gb332,1,none⟩ = some (.int .i64 0):=(blk_cell BK332.out 1).trans rfl
    have hcz38_2:wr.cell? ⟨gb332,2,none⟩ = some (.float .f64 0):=(blk_cell BK332.out 2).trans rfl
    have hfz38_0:=blk_frozen BK332.out 0
    have hfz38_1:=blk_frozen BK332.out 1
    have hfz38_2:=blk_frozen BK332.out 2
    go_wp2
    refine bodyPost_ret (results_ct rfl _ _ gb332 34 #[.int .i64 a0,.int .i64 x336001_1,.float .f64 x336002_1] (0,0) _ rfl (by (with_reducible repeat (first | refine blk_drewN ?_ _ | refine blk_drew ?_ | refine blk_alloc ?_ _));refine blk_put (cs:=#[.int .i64 a0,.int .i64 x336001_1,.float .f64 0]) ?_ 2 _ rfl;(with_reducible repeat (first | refine blk_drewN ?_ _ | refine blk_drew ?_ | refine blk_alloc ?_ _));refine blk_put (cs:=#[.int .i64 a0,.int .i64 0,.float .f64 0]) ?_ 1 _ rfl;(with_reducible repeat (first | refine blk_drewN ?_ _ | refine blk_drew ?_ | refine blk_alloc ?_ _));refine blk_put (cs:=#[.int .i64 0,.int .i64 0,.float .f64 0]) ?_ 0 _ rfl;(with_reducible repeat (first | refine blk_drewN ?_ _ | refine blk_drew ?_ | refine blk_alloc ?_ _));exact BK332.out) Try.underlying34 rfl (by kernel_rfl)) rfl ?_
    exact ⟨by first | rfl | (simp [errW_none,errW_some] <;> rfl) | (simp [*,errW_none,errW_some] <;> rfl),by repeat (first | (with_reducible first | exact HB.out | apply below_alloc | apply pw_below_drewN | apply below_drew1 | refine below_set ?_ GE332.out | refine below_set ?_ GE335.out) | exact HB.out)⟩
   rw [if_pos c16] at H
   have c16b0:decide (x28_1 < (l2.length:Int)) = true:=decide_eq_true c16
   clear c16
   by_cases c17:0 ≤ x28_1
   rotate_left
   ·rw [if_neg c17] at H
    exact absurd H (by simp)
   rw [if_pos c17] at H
   have c17b0:decide (0 ≤ x28_1) = true:=decide_eq_true c17
   clear c17
   by_cases c18:x28_1 < (l2.length:Int)
   rotate_left
   ·rw [if_neg c18] at H
    exact absurd H (by simp)
   rw [if_pos c18] at H
   have c18b0:decide (x28_1 < (l2.length:Int)) = true:=decide_eq_true c18
   clear c18
   by_cases c19:(FloatKind.f64.format.order ((rd_T58 l2 x28_1).f2) x336002_1 == some .lt) = true
   rotate_left
   ·rw [if_neg c19] at H
    have c19b0:(FloatKind.f64.format.order ((rd_T58 l2 x28_1).f2) x336002_1 == some .lt) = false:=by simpa using c19
    (try (have c19b1:decide (FloatKind.f64.format.order ((rd_T58 l2 x28_1).f2) x336002_1 = some .lt) = false:=by simpa using c19))
    (try (have c19b2:(FloatKind.f64.format.order ((rd_T58 l2 x28_1).f2) x336002_1 == some .lt) = false:=by simpa using c19))
    (try (have c19b3:¬ (FloatKind.f64.format.order ((rd_T58 l2 x28_1).f2) x336002_1 = some .lt):=by simpa using c19))
    clear c19
    have H':=Aside0.mk H
    clear H
    have p336:0 ≤ (x28_1:Int):=of_decide_eq_true (by first | (with_reducible assumption) | assumption)
    have q336:x28_1 < (l2.length:Int):=of_decide_eq_true (by first | (with_reducible assumption) | assumption)
    obtain ⟨ad336,e336,hx336_0,hx336_1,hx336_2,hx336_3,hx336_4,hx336_5⟩:=at_T58 HR2.out x28_1 p336 q336
    cases e336
    replace hx336_0:=(HB.out.cell (World.block_lt_of_cell? w _ hx336_0)).trans hx336_0
    replace hx336_1:=(HB.out.cell (World.block_lt_of_cell? w _ hx336_1)).trans hx336_1
    replace hx336_2:=(HB.out.cell (World.block_lt_of_cell? w _ hx336_2)).trans hx336_2
    replace hx336_3:=(HB.out.cell (World.block_lt_of_cell? w _ hx336_3)).trans hx336_3
    replace hx336_4:=(HB.out.cell (World.block_lt_of_cell? w _ hx336_4)).trans hx336_4
    replace hx336_5:=(HB.out.cell (World.block_lt_of_cell? w _ hx336_5)).trans hx336_5
    replace p336:=eq_true p336
    replace q336:=eq_true q336
    go_wp2_with (first | ((with_reducible refine gate_dst (N:=11) rfl ?_);refine box_event ?hg (N:=11) ?hd (cs:=#[.int .i64 0,.int .i64 0,.float .f64 0,.int .i64 0,.float .f64 0,.int .i64 0]) (t:=58) ?hr ?_;(case hd => rfl);(case hg => rfl);(case hr => first | (go_simp;done) | (go_simp;rfl));intro gb337 hg w30 hbox hb;have n0_:=Aside0.mk (blk_below (g:=gb332) (o:=.cells #[.int .i64 0,.int .i64 0,.float .f64 0] 34 (0,0)) (by (with_reducible repeat (first | refine blk_drewN ?_ _ | refine blk_drew ?_ | refine blk_alloc ?_ _));exact BK332.out) hb);have n1_:=Aside0.mk (blk_below (g:=gb335) (o:=.cells #[.int .i64 a0,.int .i64 x336001_1,.float .f64 x336002_1] 34 (0,0)) (by (with_reducible repeat (first | refine blk_drewN ?_ _ | refine blk_drew ?_ | refine blk_alloc ?_ _));exact BK335.out) hb);have n2_:=Aside0.mk (below_step (by repeat (first | (with_reducible first | exact HB.out | apply below_alloc | apply pw_below_drewN | apply below_drew1 | refine below_set ?_ GE332.out | refine below_set ?_ GE335.out) | exact HB.out)) hb);have n3_:=Aside0.mk (hbox);have n4_:=Aside0.mk ((by rw [hg];exact (below_size (by repeat (first | (with_reducible first | exact HB.out | apply below_alloc | apply pw_below_drewN | apply below_drew1 | refine below_set ?_ GE332.out | refine below_set ?_ GE335.out) | exact HB.out))):w.heap.size ≤ gb337));have n5_:=Aside0.mk ((by rw [hg];exact (below_size (by repeat (first | (with_reducible first | exact HB.out | apply below_alloc | apply pw_below_drewN | apply below_drew1 | refine below_set ?_ GE332.out | refine below_set ?_ GE335.out) | exact HB.out))):w.heap.size ≤ gb337));have n6_:=Aside0.mk ((by rw [hg];exact Nat.ne_of_lt (blk_lt (g:=gb332) (o:=.cells #[.int .i64 0,.int .i64 0,.float .f64 0] 34 (0,0)) (by (with_reducible repeat (first | refine blk_drewN ?_ _ | refine blk_drew ?_ | refine blk_alloc ?_ _));exact BK332.out)):gb332 ≠ gb337));have n7_:=Aside0.mk ((by rw [hg];exact Nat.ne_of_gt (blk_lt (g:=gb332) (o:=.cells #[.int .i64 0,.int .i64 0,.float .f64 0] 34 (0,0)) (by (with_reducible repeat (first | refine blk_drewN ?_ _ | refine blk_drew ?_ | refine blk_alloc ?_ _));exact BK332.out)):gb337 ≠ gb332));have n8_:=Aside0.mk ((by rw [hg];exact Nat.ne_of_lt (blk_lt (g:=gb335) (o:=.cells #[.int .i64 a0,.int .i64 x336001_1,.float .f64 x336002_1] 34 (0,0)) (by (with_reducible repeat (first | refine blk_drewN ?_ _ | refine blk_drew ?_ | refine blk_alloc ?_ _));exact BK335.out)):gb335 ≠ gb337));have n9_:=Aside0.mk ((by rw [hg];exact Nat.ne_of_gt (blk_lt (g:=gb335) (o:=.cells #[.int .i64 a0,.int .i64 x336001_1,.float .f64 x336002_1] 34 (0,0)) (by (with_reducible repeat (first | refine blk_drewN ?_ _ | refine blk_drew ?_ | refine blk_alloc ?_ _));exact BK335.out)):gb337 ≠ gb335));clear BK332;clear BK335;clear HB;have BK332:=n0_;have BK335:=n1_;have HB:=n2_;have BK337:=n3_;have GW337:=n4_;have GE337:=n5_;have NB332_337:=n6_;have NB337_332:=n7_;have NB335_337:=n8_;have NB337_335:=n9_;clear n0_ n1_ n2_ n3_ n4_ n5_ n6_ n7_ n8_ n9_;clear hb hbox hg;have hnb31:=NB337_332.out;have hnc31:=NB332_337.out;have hnb32:=NB337_335.out;have hnc32:=NB335_337.out;have hcz33_0:w30.cell? ⟨gb337,0,none⟩ = some (.int .i64 0):=(blk_cell BK337.out 0).trans rfl;have hcz33_1:w30.cell? ⟨gb337,1,none⟩ = some (.int .i64 0):=(blk_cell BK337.out 1).trans rfl;have hcz33_2:w30.cell? ⟨gb337,2,none⟩ = some (.float .f64 0):=(blk_cell BK337.out 2).trans rfl;have hcz33_3:w30.cell? ⟨gb337,3,none⟩ = some (.int .i64 0):=(blk_cell BK337.out 3).trans rfl;have hcz33_4:w30.cell? ⟨gb337,4,none⟩ = some (.float .f64 0):=(blk_cell BK337.out 4).trans rfl;have hcz33_5:w30.cell? ⟨gb337,5,none⟩ = some (.int .i64 0):=(blk_cell BK337.out 5).trans rfl;have hfz33_0:=blk_frozen BK337.out 0;have hfz33_1:=blk_frozen BK337.out 1;have hfz33_2:=blk_frozen BK337.out 2;have hfz33_3:=blk_frozen BK337.out 3;have hfz33_4:=blk_frozen BK337.out 4;have hfz33_5:=blk_frozen BK337.out 5;have hnb34:=NB335_332.out;have hnc34:=NB332_335.out;have hcz35_0:w30.cell? ⟨gb335,0,none⟩ = some (.int .i64 a0):=(blk_cell BK335.out 0).trans rfl;have hcz35_1:w30.cell? ⟨gb335,1,none⟩ = some (.int .i64 x336001_1):=(blk_cell BK335.out 1).trans rfl;have hcz35_2:w30.cell? ⟨gb335,2,none⟩ = some (.float .f64 x336002_1):=(blk_cell BK335.out 2).trans rfl;have hfz35_0:=blk_frozen BK335.out 0;have hfz35_1:=blk_frozen BK335.out 1;have hfz35_2:=blk_frozen BK335.out 2))
    go_roundg k1
    case measure => have:=HK1.out;omega
    case rel => exact ⟨(wrap64 (x28_1 + 1)),(x336001_1),(x336002_1),(by first | rfl | (simp;done) | (simp [*];done)),H',⟨by have:=HK1.out;omega⟩,⟨by (with_reducible repeat (first | refine blk_drewN ?_ _ | refine blk_drew ?_ | refine blk_alloc ?_ _));refine blk_far ?_ NB332_337.out _;(with_reducible repeat (first | refine blk_drewN ?_ _ | refine blk_drew ?_ | refine blk_alloc ?_ _));refine blk_far ?_ NB332_337.out _;(with_reducible repeat (first | refine blk_drewN ?_ _ | refine blk_drew ?_ | refine blk_alloc ?_ _));refine blk_far ?_ NB332_337.out _;(with_reducible repeat (first | refine blk_drewN ?_ _ | refine blk_drew ?_ | refine blk_alloc ?_ _));refine blk_far ?_ NB332_337.out _;(with_reducible repeat (first | refine blk_drewN ?_ _ | refine blk_drew ?_ | refine blk_alloc ?_ _));refine blk_far ?_ NB332_337.out _;(with_reducible repeat (first | refine blk_drewN ?_ _ | refine blk_drew ?_ | refine blk_alloc ?_ _));refine blk_far ?_ NB332_337.out _;(with_reducible repeat (first | refine blk_drewN ?_ _ | refine blk_drew ?_ | refine blk_alloc ?_ _));exact BK332.out⟩,⟨by (with_reducible repeat (first | refine blk_drewN ?_ _ | refine blk_drew ?_ | refine blk_alloc ?_ _));refine blk_far ?_ NB335_337.out _;(with_reducible repeat (first | refine blk_drewN ?_ _ | refine blk_drew ?_ | refine blk_alloc ?_ _));refine blk_far ?_ NB335_337.out _;(with_reducible repeat (first | refine blk_drewN ?_ _ | refine blk_drew ?_ | refine blk_alloc ?_ _));refine blk_far ?_ NB335_337.out _;(with_reducible repeat (first | refine blk_drewN ?_ _ | refine blk_drew ?_ | refine blk_alloc ?_ _));refine blk_far ?_ NB335_337.out _;(with_reducible repeat (first | refine blk_drewN ?_ _ | refine blk_drew ?_ | refine blk_alloc ?_ _));refine blk_far ?_ NB335_337.out _;(with_reducible repeat (first | refine blk_drewN ?_ _ | refine blk_drew ?_ | refine blk_alloc ?_ _));refine blk_far ?_ NB335_337.out _;(with_reducible repeat (first | refine blk_drewN ?_ _ | refine blk_drew ?_ | refine blk_alloc ?_ _));exact BK335.out⟩,⟨by repeat (first | (with_reducible first | exact HB.out | apply below_alloc | apply pw_below_drewN | apply below_drew1 | refine below_set ?_ GE332.out | refine below_set ?_ GE335.out | refine below_set ?_ GE337.out) | exact HB.out)⟩⟩
   rw [if_pos c19] at H
   have c19b0:(FloatKind.f64.format.order ((rd_T58 l2 x28_1).f2) x336002_1 == some .lt) = true:=c19
   (try (have c19b1:decide (FloatKind.f64.format.order ((rd_T58 l2 x28_1).f2) x336002_1 = some .lt) = true:=by simpa using c19))
   (try (have c19b2:(FloatKind.f64.format.order ((rd_T58 l2 x28_1).f2) x336002_1 == some .lt) = true:=by simpa using c19))
   clear c19
   have H':=Aside0.mk H
   clear H
   have p336:0 ≤ (x28_1:Int):=of_decide_eq_true (by first | (with_reducible assumption) | assumption)
   have q336:x28_1 < (l2.length:Int):=of_decide_eq_true (by first | (with_reducible assumption) | assumption)
   obtain ⟨ad336,e336,hx336_0,hx336_1,hx336_2,hx336_3,hx336_4,hx336_5⟩:=at_T58 HR2.out x28_1 p336 q336
   cases e336
   replace hx336_0:=(HB.out.cell (World.block_lt_of_cell? w _ hx336_0)).trans hx336_0
   replace hx336_1:=(HB.out.cell (World.block_lt_of_cell? w _ hx336_1)).trans hx336_1
   replace hx336_2:=(HB.out.cell (World.block_lt_of_cell? w _ hx336_2)).trans hx336_2
   replace hx336_3:=(HB.out.cell (World.block_lt_of_cell? w _ hx336_3)).trans hx336_3
   replace hx336_4:=(HB.out.cell (World.block_lt_of_cell? w _ hx336_4)).trans hx336_4
   replace hx336_5:=(HB.out.cell (World.block_lt_of_cell? w _ hx336_5)).trans hx336_5
   replace p336:=eq_true p336
   replace q336:=eq_true q336
   try go_wp2_with (first | ((with_reducible refine gate_dst (N:=11) rfl ?_);refine box_event ?hg (N:=11) ?hd (cs:=#[.int .i64 0,.int .i64 0,.float .f64 0,.int .i64 0,.float .f64 0,.int .i64 0]) (t:=58) ?hr ?_;(case hd => rfl);(case hg => rfl);(case hr => first | (go_simp;done) | (go_simp;rfl));intro gb337 hg w20 hbox hb;have n0_:=Aside0.mk (blk_below (g:=gb332) (o:=.cells #[.int .i64 0,.int .i64 0,.float .f64 0] 34 (0,0)) (by (with_reducible repeat (first | refine blk_drewN ?_ _ | refine blk_drew ?_ | refine blk_alloc ?_ _));exact BK332.out) hb);have n1_:=Aside0.mk (blk_below (g:=gb335) (o:=.cells #[.int .i64 a0,.int .i64 x336001_1,.float .f64 x336002_1] 34 (0,0)) (by (with_reducible repeat (first | refine blk_drewN ?_ _ | refine blk_drew ?_ | refine blk_alloc ?_ _));exact BK335.out) hb);have n2_:=Aside0.mk (below_step (by repeat (first | (with_reducible first | exact HB.out | apply below_alloc | apply pw_below_drewN | apply below_drew1 | refine below_set ?_ GE332.out | refine below_set ?_ GE335.out) | exact HB.out)) hb);have n3_:=Aside0.mk (hbox);have n4_:=Aside0.mk ((by rw [hg];exact (below_size (by repeat (first | (with_reducible first | exact HB.out | apply below_alloc | apply pw_below_drewN | apply below_drew1 | refine below_set ?_ GE332.out | refine below_set ?_ GE335.out) | exact HB.out))):w.heap.size ≤ gb337));have n5_:=Aside0.mk ((by rw [hg];exact (below_size (by repeat (first | (with_reducible first | exact HB.out | apply below_alloc | apply pw_below_drewN | apply below_drew1 | refine below_set ?_ GE332.out | refine below_set ?_ GE335.out) | exact HB.out))):w.heap.size ≤ gb337));have n6_:=Aside0.mk ((by rw [hg];exact Nat.ne_of_lt (blk_lt (g:=gb332) (o:=.cells #[.int .i64 0,.int .i64 0,.float .f64 0] 34 (0,0)) (by (with_reducible repeat (first | refine blk_drewN ?_ _ | refine blk_drew ?_ | refine blk_alloc ?_ _));exact BK332.out)):gb332 ≠ gb337));have n7_:=Aside0.mk ((by rw [hg];exact Nat.ne_of_gt (blk_lt (g:=gb332) (o:=.cells #[.int .i64 0,.int .i64 0,.float .f64 0] 34 (0,0)) (by (with_reducible repeat (first | refine blk_drewN ?_ _ | refine blk_drew ?_ | refine blk_alloc ?_ _));exact BK332.out)):gb337 ≠ gb332));have n8_:=Aside0.mk ((by rw [hg];exact Nat.ne_of_lt (blk_lt (g:=gb335) (o:=.cells #[.int .i64 a0,.int .i64 x336001_1,.float .f64 x336002_1] 34 (0,0)) (by (with_reducible repeat (first | refine blk_drewN ?_ _ | refine blk_drew ?_ | refine blk_alloc ?_ _));exact BK335.out)):gb335 ≠ gb337));have n9_:=Aside0.mk ((by rw [hg];exact Nat.ne_of_gt (blk_lt (g:=gb335) (o:=.cells #[.int .i64 a0,.int .i64 x336001_1,.float .f64 x336002_1] 34 (0,0)) (by (with_reducible repeat (first | refine blk_drewN ?_ _ | refine blk_drew ?_ | refine blk_alloc ?_ _));exact BK335.out)):gb337 ≠ gb335));clear BK332;clear BK335;clear HB;have BK332:=n0_;have BK335:=n1_;have HB:=n2_;have BK337:=n3_;have GW337:=n4_;have GE337:=n5_;have NB332_337:=n6_;have NB337_332:=n7_;have NB335_337:=n8_;have NB337_335:=n9_;clear n0_ n1_ n2_ n3_ n4_ n5_ n6_ n7_ n8_ n9_;clear hb hbox hg;have hnb21:=NB337_332.out;have hnc21:=NB332_337.out;have hnb22:=NB337_335.out;have hnc22:=NB335_337.out;have hcz23_0:w20.cell? ⟨gb337,0,none⟩ = some (.int .i64 0):=(blk_cell BK337.out 0).trans rfl;have hcz23_1:w20.cell? ⟨gb337,1,none⟩ = some (.int .i64 0):=(blk_cell BK337.out 1).trans rfl;have hcz23_2:w20.cell? ⟨gb337,2,none⟩ = some (.float .f64 0):=(blk_cell BK337.out 2).trans rfl;have hcz23_3:w20.cell? ⟨gb337,3,none⟩ = some (.int .i64 0):=(blk_cell BK337.out 3).trans rfl;have hcz23_4:w20.cell? ⟨gb337,4,none⟩ = some (.float .f64 0):=(blk_cell BK337.out 4).trans rfl;have hcz23_5:w20.cell? ⟨gb337,5,none⟩ = some (.int .i64 0):=(blk_cell BK337.out 5).trans rfl;have hfz23_0:=blk_frozen BK337.out 0;have hfz23_1:=blk_frozen BK337.out 1;have hfz23_2:=blk_frozen BK337.out 2;have hfz23_3:=blk_frozen BK337.out 3;have hfz23_4:=blk_frozen BK337.out 4;have hfz23_5:=blk_frozen BK337.out 5;have hnb24:=NB335_332.out;have hnc24:=NB332_335.out;have hcz25_0:w20.cell? ⟨gb335,0,none⟩ = some (.int .i64 a0):=(blk_cell BK335.out 0).trans rfl;have hcz25_1:w20.cell? ⟨gb335,1,none⟩ = some (.int .i64 x336001_1):=(blk_cell BK335.out 1).trans rfl;have hcz25_2:w20.cell? ⟨gb335,2,none⟩ = some (.float .f64 x336002_1):=(blk_cell BK335.out 2).trans rfl;have hfz25_0:=blk_frozen BK335.out 0;have hfz25_1:=blk_frozen BK335.out 1;have hfz25_2:=blk_frozen BK335.out 2))
   have n0_:Aside0 (((((((w20.setCell ⟨gb337,0,none⟩ (.int .i64 ((rd_T58 l2 x28_1).f0))).setCell ⟨gb337,1,none⟩ (.int .i64 ((rd_T58 l2 x28_1).f1))).setCell ⟨gb337,2,none⟩ (.float .f64 ((rd_T58 l2 x28_1).f2))).setCell ⟨gb337,3,none⟩ (.int .i64 ((rd_T58 l2 x28_1).f3))).setCell ⟨gb337,4,none⟩ (.float .f64 ((rd_T58 l2 x28_1).f4))).setCell ⟨gb337,5,none⟩ (.int .i64 ((rd_T58 l2 x28_1).f5))).heap[gb332]? = some (.cells #[.int .i64 0,.int .i64 0,.float .f64 0] 34 (0,0))):=⟨by (with_reducible repeat (first | refine blk_drewN ?_ _ | refine blk_drew ?_ | refine blk_alloc ?_ _));refine blk_far ?_ NB332_337.out _;(with_reducible repeat (first | refine blk_drewN ?_ _ | refine blk_drew ?_ | refine blk_alloc ?_ _));refine blk_far ?_ NB332_337.out _;(with_reducible repeat (first | refine blk_drewN ?_ _ | refine blk_drew ?_ | refine blk_alloc ?_ _));refine blk_far ?_ NB332_337.out _;(with_reducible repeat (first | refine blk_drewN ?_ _ | refine blk_drew ?_ | refine blk_alloc ?_ _));refine blk_far ?_ NB332_337.out _;(with_reducible repeat (first | refine blk_drewN ?_ _ | refine blk_drew ?_ | refine blk_alloc ?_ _));refine blk_far ?_ NB332_337.out _;(with_reducible repeat (first | refine blk_drewN ?_ _ | refine blk_drew ?_ | refine blk_alloc ?_ _));refine blk_far ?_ NB332_337.out _;(with_reducible repeat (first | refine blk_drewN ?_ _ | refine blk_drew ?_ | refine blk_alloc ?_ _));exact BK332.out⟩
   have n1_:Aside0 (((((((w20.setCell ⟨gb337,0,none⟩ (.int .i64 ((rd_T58 l2 x28_1).f0))).setCell ⟨gb337,1,none⟩ (.int .i64 ((rd_T58 l2 x28_1).f1))).setCell ⟨gb337,2,none⟩ (.float .f64 ((rd_T58 l2 x28_1).f2))).setCell ⟨gb337,3,none⟩ (.int .i64 ((rd_T58 l2 x28_1).f3))).setCell ⟨gb337,4,none⟩ (.float .f64 ((rd_T58 l2 x28_1).f4))).setCell ⟨gb337,5,none⟩ (.int .i64 ((rd_T58 l2 x28_1).f5))).heap[gb335]? = some (.cells #[.int .i64 a0,.int .i64 x336001_1,.float .f64 x336002_1] 34 (0,0))):=⟨by (with_reducible repeat (first | refine blk_drewN ?_ _ | refine blk_drew ?_ | refine blk_alloc ?_ _));refine blk_far ?_ NB335_337.out _;(with_reducible repeat (first | refine blk_drewN ?_ _ | refine blk_drew ?_ | refine blk_alloc ?_ _));refine blk_far ?_ NB335_337.out _;(with_reducible repeat (first | refine blk_drewN ?_ _ | refine blk_drew ?_ | refine blk_alloc ?_ _));refine blk_far ?_ NB335_337.out _;(with_reducible repeat (first | refine blk_drewN ?_ _ | refine blk_drew ?_ | refine blk_alloc ?_ _));refine blk_far ?_ NB335_337.out _;(with_reducible repeat (first | refine blk_drewN ?_ _ | refine blk_drew ?_ | refine blk_alloc ?_ _));refine blk_far ?_ NB335_337.out _;(with_reducible repeat (first | refine blk_drewN ?_ _ | refine blk_drew ?_ | refine blk_alloc ?_ _));refine blk_far ?_ NB335_337.out _;(with_reducible repeat (first | refine blk_drewN ?_ _ | refine blk_drew ?_ | refine blk_alloc ?_ _));exact BK335.out⟩
   have n2_:Aside0 (((((((w20.setCell ⟨gb337,0,none⟩ (.int .i64 ((rd_T58 l2 x28_1).f0))).setCell ⟨gb337,1,none⟩ (.int .i64 ((rd_T58 l2 x28_1).f1))).setCell ⟨gb337,2,none⟩ (.float .f64 ((rd_T58 l2 x28_1).f2))).setCell ⟨gb337,3,none⟩ (.int .i64 ((rd_T58 l2 x28_1).f3))).setCell ⟨gb337,4,none⟩ (.float .f64 ((rd_T58 l2 x28_1).f4))).setCell ⟨gb337,5,none⟩ (.int .i64 ((rd_T58 l2 x28_1).f5))).heap[gb337]? = some (.cells #[.int .i64 ((rd_T58 l2 x28_1).f0),.int .i64 ((rd_T58 l2 x28_1).f1),.float .f64 ((rd_T58 l2 x28_1).f2),.int .i64 ((rd_T58 l2 x28_1).f3),.float .f64 ((rd_T58 l2 x28_1).f4),.int .i64 ((rd_T58 l2 x28_1).f5)] 58 (0,0))):=⟨by (with_reducible repeat (first | refine blk_drewN ?_ _ | refine blk_drew ?_ | refine blk_alloc ?_ _));refine blk_put (cs:=#[.int .i64 ((rd_T58 l2 x28_1).f0),.int .i64 ((rd_T58 l2 x28_1).f1),.float .f64 ((rd_T58 l2 x28_1).f2),.int .i64 ((rd_T58 l2 x28_1).f3),.float .f64 ((rd_T58 l2 x28_1).f4),.int .i64 0]) ?_ 5 _ rfl;(with_reducible repeat (first | refine blk_drewN ?_ _ | refine blk_drew ?_ | refine blk_alloc ?_ _));refine blk_put (cs:=#[.int .i64 ((rd_T58 l2 x28_1).f0),.int .i64 ((rd_T58 l2 x28_1).f1),.float .f64 ((rd_T58 l2 x28_1).f2),.int .i64 ((rd_T58 l2 x28_1).f3),.float .f64 0,.int .i64 0]) ?_ 4 _ rfl;(with_reducible repeat (first | refine blk_drewN ?_ _ | refine blk_drew ?_ | refine blk_alloc ?_ _));refine blk_put (cs:=#[.int .i64 ((rd_T58 l2 x28_1).f0),.int .i64 ((rd_T58 l2 x28_1).f1),.float .f64 ((rd_T58 l2 x28_1).f2),.int .i64 0,.float .f64 0,.int .i64 0]) ?_ 3 _ rfl;(with_reducible repeat (first | refine blk_drewN ?_ _ | refine blk_drew ?_ | refine blk_alloc ?_ _));refine blk_put (cs:=#[.int .i64 ((rd_T58 l2 x28_1).f0),.int .i64 ((rd_T58 l2 x28_1).f1),.float .f64 0,.int .i64 0,.float .f64 0,.int .i64 0]) ?_ 2 _ rfl;(with_reducible repeat (first | refine blk_drewN ?_ _ | refine blk_drew ?_ | refine blk_alloc ?_ _));refine blk_put (cs:=#[.int .i64 ((rd_T58 l2 x28_1).f0),.int .i64 0,.float .f64 0,.int .i64 0,.float .f64 0,.int .i64 0]) ?_ 1 _ rfl;(with_reducible repeat (first | refine blk_drewN ?_ _ | refine blk_drew ?_ | refine blk_alloc ?_ _));refine blk_put (cs:=#[.int .i64 0,.int .i64 0,.float .f64 0,.int .i64 0,.float .f64 0,.int .i64 0]) ?_ 0 _ rfl;(with_reducible repeat (first | refine blk_drewN ?_ _ | refine blk_drew ?_ | refine blk_alloc ?_ _));exact BK337.out⟩
   have n3_:Aside0 (Below w.heap.size w ((((((w20.setCell ⟨gb337,0,none⟩ (.int .i64 ((rd_T58 l2 x28_1).f0))).setCell ⟨gb337,1,none⟩ (.int .i64 ((rd_T58 l2 x28_1).f1))).setCell ⟨gb337,2,none⟩ (.float .f64 ((rd_T58 l2 x28_1).f2))).setCell ⟨gb337,3,none⟩ (.int .i64 ((rd_T58 l2 x28_1).f3))).setCell ⟨gb337,4,none⟩ (.float .f64 ((rd_T58 l2 x28_1).f4))).setCell ⟨gb337,5,none⟩ (.int .i64 ((rd_T58 l2 x28_1).f5)))):=⟨by repeat (first | (with_reducible first | exact HB.out | apply below_alloc | apply pw_below_drewN | apply below_drew1 | refine below_set ?_ GE332.out | refine below_set ?_ GE335.out | refine below_set ?_ GE337.out) | exact HB.out)⟩
   (try clear BK332)
   (try clear BK335)
   (try clear BK337)
   (try clear HB)
   generalize ((((((w20.setCell ⟨gb337,0,none⟩ (.int .i64 ((rd_T58 l2 x28_1).f0))).setCell ⟨gb337,1,none⟩ (.int .i64 ((rd_T58 l2 x28_1).f1))).setCell ⟨gb337,2,none⟩ (.float .f64 ((rd_T58 l2 x28_1).f2))).setCell ⟨gb337,3,none⟩ (.int .i64 ((rd_T58 l2 x28_1).f3))).setCell ⟨gb337,4,none⟩ (.float .f64 ((rd_T58 l2 x28_1).f4))).setCell ⟨gb337,5,none⟩ (.int .i64 ((rd_T58 l2 x28_1).f5))) = w26 at n0_ n1_ n2_ n3_ ⊢
   have BK332:=n0_
   have BK335:=n1_
   have BK337:=n2_
   have HB:=n3_
   clear n0_ n1_ n2_ n3_
   have n0_:=Aside0.mk (blk_drew BK332.out)
   have n1_:=Aside0.mk (blk_drew BK335.out)
   have n2_:=Aside0.mk (blk_drew BK337.out)
   have n3_:=Aside0.mk (below_drew1 HB.out)
   clear BK332
   clear BK335
   clear BK337
   clear HB
   have BK332:=n0_
   have BK335:=n1_
   have BK337:=n2_
   have HB:=n3_
   clear n0_ n1_ n2_ n3_
   refine start_ (n:=8) (S:=fun w' => w'.cell? ⟨gb337,0,none⟩ = some (.int .i64 ((rd_T58 l2 x28_1).f0)) ∧ w'.cell? ⟨gb337,1,none⟩ = some (.int .i64 ((rd_T58 l2 x28_1).f1)) ∧ w'.cell? ⟨gb337,2,none⟩ = some (.float .f64 ((rd_T58 l2 x28_1).f2)) ∧ w'.cell? ⟨gb337,3,none⟩ = some (.int .i64 ((rd_T58 l2 x28_1).f3)) ∧ w'.cell? ⟨gb337,4,none⟩ = some (.float .f64 ((rd_T58 l2 x28_1).f4)) ∧ w'.cell? ⟨gb337,5,none⟩ = some (.int .i64 ((rd_T58 l2 x28_1).f5))) (ds:=[]) #[false,false,false,false,false,false,false,false] (by kernel_rfl) rfl rfl ⟨(blk_cell BK337.out 0).trans rfl,(blk_cell BK337.out 1).trans rfl,(blk_cell BK337.out 2).trans rfl,(blk_cell BK337.out 3).trans rfl,(blk_cell BK337.out 4).trans rfl,(blk_cell BK337.out 5).trans rfl⟩ (fun hHeld => ?_);refine with_tabW landdv_Home.tab11 landdv_Home.bits11 (fun HT_ HW_ => ?_)
   generalize w26.drew = w27 at BK332 BK335 BK337 HB hHeld ⊢
   refine manyW_ (fuel:=3) (a':=?_) ((0,0) :: (2,0) :: (1,2) :: (4,0) :: (3,2) :: []) #[true,true,true,true,true,false,false,false] rfl HT_ HW_ (by kernel_rfl) (fun _ _ _ _ _ h => h) (fun _ => hHeld) ?_ ?_
   rotate_left
   ·repeat (first | exact Chain.nil _ | (apply Chain.on;rfl;rfl;(focus intro w';go_simp;with_reducible rfl);(focus simp only [Act.put,List.setIfInBounds_toArray,List.set_cons_zero,List.set_cons_succ,i64_w,i32_w];rfl)) | (apply Chain.take;rfl;rfl;(focus rintro w' ⟨s0,s1,s2,s3,s4,s5⟩;go_simp;with_reducible rfl);(focus simp only [Act.put,List.setIfInBounds_toArray,List.set_cons_zero,List.set_cons_succ,i64_w,i32_w];rfl)))
   refine one_ (i:=5) (N:=none) #[true,true,true,true,true,true,false,false] rfl rfl (one_of HT_.out (by kernel_rfl)) (by decide) (fun K hK => ?_)
   have hs28:w27.cell? ⟨gb335,1,none⟩ = some (.int .i64 x336001_1):=(blk_cell BK335.out 1).trans rfl
   have hfs28:=blk_frozen BK335.out 1
   have hns28_0:=NB332_335.out
   have hns28_2:=NB337_335.out
   have hms28_0:=NB335_332.out
   have hms28_2:=NB335_337.out
   refine skip_ (w1:=?_) (by rfl) rfl ?_ ?_
   rotate_left
   ·go_simp
    rfl
   refine hK.out _ _ ⟨((cell_far (p:=⟨gb335,_,none⟩) NB337_335.out _).trans (hHeld.1)),((cell_far (p:=⟨gb335,_,none⟩) NB337_335.out _).trans (hHeld.2.1)),((cell_far (p:=⟨gb335,_,none⟩) NB337_335.out _).trans (hHeld.2.2.1)),((cell_far (p:=⟨gb335,_,none⟩) NB337_335.out _).trans (hHeld.2.2.2.1)),((cell_far (p:=⟨gb335,_,none⟩) NB337_335.out _).trans (hHeld.2.2.2.2.1)),((cell_far (p:=⟨gb335,_,none⟩) NB337_335.out _).trans (hHeld.2.2.2.2.2))⟩ (fun hHeld => ?_)
   clear hK K
   refine manyT_ (fuel:=1) (a':=?_) ((6,0) :: []) #[true,true,true,true,true,true,true,false] rfl HT_ (by kernel_rfl) (fun _ _ _ _ _ h => h) (fun h => absurd h (by decide)) ?_ ?_
   rotate_left
   ·repeat (first | exact Chain.nil _ | (apply Chain.on;rfl;rfl;(focus intro w';go_simp;with_reducible rfl);(focus simp only [Act.put,List.setIfInBounds_toArray,List.set_cons_zero,List.set_cons_succ,i64_w,i32_w];rfl)))
   refine one_ (i:=7) (N:=none) #[true,true,true,true,true,true,true,true] rfl rfl (one_of HT_.out (by kernel_rfl)) (by decide) (fun K hK => ?_)
   have hs29:w27.cell? ⟨gb335,2,none⟩ = some (.float .f64 x336002_1):=(blk_cell BK335.out 2).trans rfl
   have hfs29:=blk_frozen BK335.out 2
   have hns29_0:=NB332_335.out
   have hns29_2:=NB337_335.out
   have hms29_0:=NB335_332.out
   have hms29_2:=NB335_337.out
   refine skip_ (w1:=?_) (by rfl) rfl ?_ ?_
   rotate_left
   ·go_simp
    rfl
   refine hK.out _ _ ⟨((cell_far (p:=⟨gb335,_,none⟩) NB337_335.out _).trans (hHeld.1)),((cell_far (p:=⟨gb335,_,none⟩) NB337_335.out _).trans (hHeld.2.1)),((cell_far (p:=⟨gb335,_,none⟩) NB337_335.out _).trans (hHeld.2.2.1)),((cell_far (p:=⟨gb335,_,none⟩) NB337_335.out _).trans (hHeld.2.2.2.1)),((cell_far (p:=⟨gb335,_,none⟩) NB337_335.out _).trans (hHeld.2.2.2.2.1)),((cell_far (p:=⟨gb335,_,none⟩) NB337_335.out _).trans (hHeld.2.2.2.2.2))⟩ (fun hHeld => ?_)
   clear hK K
   refine done_ (done_of HT_.out (by kernel_rfl)) ?_
   try go_wp2
   go_roundg k1
   case measure => have:=HK1.out;omega
   case rel => exact ⟨(wrap64 (x28_1 + 1)),((rd_T58 l2 x28_1).f0),((rd_T58 l2 x28_1).f2),(by first | rfl | (simp;done) | (simp [*];done)),H',⟨by have:=HK1.out;omega⟩,⟨by (with_reducible repeat (first | refine blk_drewN ?_ _ | refine blk_drew ?_ | refine blk_alloc ?_ _));refine blk_far ?_ NB332_335.out _;(with_reducible repeat (first | refine blk_drewN ?_ _ | refine blk_drew ?_ | refine blk_alloc ?_ _));refine blk_far ?_ NB332_335.out _;(with_reducible repeat (first | refine blk_drewN ?_ _ | refine blk_drew ?_ | refine blk_alloc ?_ _));exact BK332.out⟩,⟨by (with_reducible repeat (first | refine blk_drewN ?_ _ | refine blk_drew ?_ | refine blk_alloc ?_ _));refine blk_put (cs:=#[.int .i64 a0,.int .i64 ((rd_T58 l2 x28_1).f0),.float .f64 x336002_1]) ?_ 2 _ rfl;(with_reducible repeat (first | refine blk_drewN ?_ _ | refine blk_drew ?_ | refine blk_alloc ?_ _));refine blk_put (cs:=#[.int .i64 a0,.int .i64 x336001_1,.float .f64 x336002_1]) ?_ 1 _ rfl;(with_reducible repeat (first | refine blk_drewN ?_ _ | refine blk_drew ?_ | refine blk_alloc ?_ _));exact BK335.out⟩,⟨by repeat (first | (with_reducible first | exact HB.out | apply below_alloc | apply pw_below_drewN | apply below_drew1 | refine below_set ?_ GE332.out | refine below_set ?_ GE335.out | refine below_set ?_ GE337.out) | exact HB.out)⟩⟩
def message_none.f (a0_0:Int) (a0_1:Int) (a0_2:Int) (a0_3:Int) (a0_4:Int) (a0_5:Int) (a0_6:Int) (a0_7:Int) (a0_8:ByteArray) (a0_9:Int) (a0_10:Int) (a0_11:ByteArray):Option (Bool):=some (a0_0 == 0 && (a0_1 == 0 && (a0_2 == 0 && (a0_3 == 0 && (a0_4 == 0 && (a0_5 == 0 && (a0_6 == 0 && (a0_7 == 0 && (a0_8.toList == ([]:List UInt8) && (a0_9 == 0 && (a0_10 == 0 && (a0_11.toList == ([]:List UInt8)))))))))))))
set_option maxHeartbeats 8000000 in
set_option maxRecDepth 100000 in
theorem message_none.calls (a0_0:Int) (a0_1:Int) (a0_2:Int) (a0_3:Int) (a0_4:Int) (a0_5:Int) (a0_6:Int) (a0_7:Int) (a0_8:ByteArray) (a0_9:Int) (a0_10:Int) (a0_11:ByteArray) (r:Bool) (w:World) (h:message_none.f a0_0 a0_1 a0_2 a0_3 a0_4 a0_5 a0_6 a0_7 a0_8 a0_9 a0_10 a0_11 = some r) :
  Calls Try.prog 140 #[.agg #[.int .i64 a0_0,.int .i64 a0_1,.int .i64 a0_2,.int .i64 a0_3,.int .i64 a0_4,.int .i64 a0_5,.int .u64 a0_6,.int .i64 a0_7,.string a0_8,.int .i64 a0_9,.int .i64 a0_10,.string a0_11]] w fun e w' => e = .returned (.bool r) ∧ Below w.heap.size w w':=by
 have hu116:=Try.underlying116
 have HB:=Aside0.mk (Below.refl w.heap.size w)
 have H:(some (a0_0 == 0 && (a0_1 == 0 && (a0_2 == 0 && (a0_3 == 0 && (a0_4 == 0 && (a0_5 == 0 && (a0_6 == 0 && (a0_7 == 0 && (a0_8.toList == ([]:List UInt8) && (a0_9 == 0 && (a0_10 == 0 && (a0_11.toList == ([]:List UInt8)))))))))))))) = some r:=h
 clear h
 obtain rfl:=Option.some.inj H
 go_enter Try.func140,Try.ntmps140
 go_wp2_with (first | ((with_reducible refine gate_dst (N:=1) rfl ?_);refine box_event ?hg (N:=1) ?hd (cs:=#[.int .i64 a0_0,.int .i64 a0_1,.int .i64 a0_2,.int .i64 a0_3,.int .i64 a0_4,.int .i64 a0_5,.int .u64 a0_6,.int .i64 a0_7,.string a0_8,.int .i64 a0_9,.int .i64 a0_10,.string a0_11]) (t:=116) ?hr ?_;(case hd => rfl);(case hg => rfl);(case hr => first | (go_simp;done) | (go_simp;rfl));intro gb338 hg w2 hbox hb;have n0_:=Aside0.mk (below_step (by repeat (first | (with_reducible first | exact HB.out | apply below_alloc | apply pw_below_drewN | apply below_drew1) | exact HB.out)) hb);have n1_:=Aside0.mk (hbox);have n2_:=Aside0.mk ((by rw [hg];exact (below_size (by repeat (first | (with_reducible first | exact HB.out | apply below_alloc | apply pw_below_drewN | apply below_drew1) | exact HB.out))):w.heap.size ≤ gb338));have n3_:=Aside0.mk ((by rw [hg];exact (below_size (by repeat (first | (with_reducible first | exact HB.out | apply below_alloc | apply pw_below_drewN | apply below_drew1) | exact HB.out))):w.heap.size ≤ gb338));clear HB;have HB:=n0_;have BK338:=n1_;have GW338:=n2_;have GE338:=n3_;clear n0_ n1_ n2_ n3_;clear hb hbox hg;have hcz3_0:w2.cell? ⟨gb338,0,none⟩ = some (.int .i64 a0_0):=(blk_cell BK338.out 0).trans rfl;have hcz3_1:w2.cell? ⟨gb338,1,none⟩ = some (.int .i64 a0_1):=(blk_cell BK338.out 1).trans rfl;have hcz3_2:w2.cell? ⟨gb338,2,none⟩ = some (.int .i64 a0_2):=(blk_cell BK338.out 2).trans rfl;have hcz3_3:w2.cell? ⟨gb338,3,none⟩ = some (.int .i64 a0_3):=(blk_cell BK338.out 3).trans rfl;have hcz3_4:w2.cell? ⟨gb338,4,none⟩ = some (.int .i64 a0_4):=(blk_cell BK338.out 4).trans rfl;have hcz3_5:w2.cell? ⟨gb338,5,none⟩ = some (.int .i64 a0_5):=(blk_cell BK338.out 5).trans rfl;have hcz3_6:w2.cell? ⟨gb338,6,none⟩ = some (.int .u64 a0_6):=(blk_cell BK338.out 6).trans rfl;have hcz3_7:w2.cell? ⟨gb338,7,none⟩ = some (.int .i64 a0_7):=(blk_cell BK338.out 7).trans rfl;have hcz3_8:w2.cell? ⟨gb338,8,none⟩ = some (.string a0_8):=(blk_cell BK338.out 8).trans rfl;have hcz3_9:w2.cell? ⟨gb338,9,none⟩ = some (.int .i64 a0_9):=(blk_cell BK338.out 9).trans rfl;have hcz3_10:w2.cell? ⟨gb338,10,none⟩ = some (.int .i64 a0_10):=(blk_cell BK338.out 10).trans rfl;have hcz3_11:w2.cell? ⟨gb338,11,none⟩ = some (.string a0_11):=(blk_cell BK338.out 11).trans rfl;have hfz3_0:=blk_frozen BK338.out 0;have hfz3_1:=blk_frozen BK338.out 1;have hfz3_2:=blk_frozen BK338.out 2;have hfz3_3:=blk_frozen BK338.out 3;have hfz3_4:=blk_frozen BK338.out 4;have hfz3_5:=blk_frozen BK338.out 5;have hfz3_6:=blk_frozen BK338.out 6;have hfz3_7:=blk_frozen BK338.out 7;have hfz3_8:=blk_frozen BK338.out 8;have hfz3_9:=blk_frozen BK338.out 9;have hfz3_10:=blk_frozen BK338.out 10;have hfz3_11:=blk_frozen BK338.out 11))
 go_ret
 exact ⟨by first | rfl | (simp [errW_none,errW_some] <;> rfl) | (simp [*,errW_none,errW_some] <;> rfl),by repeat (first | (with_reducible first | exact HB.out | apply below_alloc | apply pw_below_drewN | apply below_drew1 | refine below_set ?_ GE338.out) | exact HB.out)⟩
def message_number.f (a0:Int):Option (Bool):=(ident_CheckId.f a0).bind fun t339 => (some (t339 == 0))
set_option maxHeartbeats 8000000 in
set_option maxRecDepth 100000 in
theorem message_number.calls (a0:Int) (r:Bool) (w:World) (h:message_number.f a0 = some r) :
  Calls Try.prog 155 #[.int .i64 a0] w fun e w' => e = .returned (.bool r) ∧ Drawn0 w w':=by
 have H:((ident_CheckId.f a0).bind fun t339 => (some (t339 == 0))) = some r:=h
 clear h
 replace H:=Option.bind_eq_some_iff.mp H
 obtain ⟨t339,A20,H⟩:=H
 replace H:(some (t339 == 0)) = some r:=H
 have A2:=Aside0.mk A20
 clear A20
 obtain rfl:=Option.some.inj H
 go_enter Try.func155,Try.ntmps155
 go_wp2_with (first | ((with_reducible refine gate_callee (f:=49) rfl ?_);refine goesL_ (some 4) rfl rfl Try.func49 (by kernel_rfl) rfl #[.int .i64 a0] rfl (by (try simp only [List.map_toArray,List.map_cons,List.map_nil]);first | done | rfl | (simp only [List.length_drop,List.length_take];rfl)) ?_;(with_reducible refine (ident_CheckId.calls a0 t339 _ A2.out).mono ?_);rintro e w' ⟨rfl,⟨nd,rfl⟩⟩;refine ⟨_,rfl,?_⟩))
 go_ret
 exact ⟨by first | rfl | (simp;done) | (simp [*];done),by repeat (first | exact Drawn0.refl _ | apply Drawn0.step)⟩
def message_distance.j0:Nat → Nat → Bool → Option (Bool)
 | 0,_,_ => none
 | k + 1,x0,x8 => if x8 = true then (some false) else ((math_IsInf.f x0 1).bind fun t342 => (if t342 = true then (some true) else (if (FloatKind.f64.format.order x0 4742290407621132288 == some .lt) = true then ((floatBits .mul .f64 x0 4616189618054758400).bind fun t343 => ((math_Trunc.f t343).bind fun t344 => (some (FloatKind.f64.format.order t343 t344 == some .eq)))) else (some false))))
def message_distance.f (k:Nat) (a0:Nat):Option (Bool):=(math_Signbit.f a0).bind fun t340 => (if t340 = true then (message_distance.j0 k a0 true) else ((math_IsNaN.f a0).bind fun t341 => (message_distance.j0 k a0 t341)))
set_option maxHeartbeats 8000000 in
set_option maxRecDepth 100000 in
theorem message_distance.calls (k:Nat) (a0:Nat) (r:Bool) (w:World) (h:message_distance.f k a0 = some r) :
  Calls Try.prog 156 #[.float .f64 a0] w fun e w' => e = .returned (.bool r) ∧ Drawn0 w w':=by
 have H:((math_Signbit.f a0).bind fun t340 => (if t340 = true then (message_distance.j0 k a0 true) else ((math_IsNaN.f a0).bind fun t341 => (message_distance.j0 k a0 t341)))) = some r:=h
 clear h
 have HC2:=Aside0.mk H
 clear H
 go_enter Try.func156,Try.ntmps156
 go_upto_region 1 with (fail)
 go_cut [8] (fun v8 wc => ∃ (kq:Nat) (x8_1:Bool),v8 = .bool x8_1 ∧ Aside0 (message_distance.j0 kq a0 x8_1 = some r) ∧ Aside0 (kq ≤ k) ∧ Drawn0 w wc)
 case first =>
  have H:=HC2.out
  clear HC2
  replace H:=Option.bind_eq_some_iff.mp H
  obtain ⟨t340,A30,H⟩:=H
  replace H:(if t340 = true then (message_distance.j0 k a0 true) else ((math_IsNaN.f a0).bind fun t341 => (message_distance.j0 k a0 t341))) = some r:=H
  have A3:=Aside0.mk A30
  clear A30
  by_cases c4:t340 = true
  ·subst c4
   have H1:(message_distance.j0 k a0 true) = some r:=by rw [if_pos rfl] at H;exact H
   clear H
   have H:=H1
   clear H1
   have H':=Aside0.mk H
   clear H
   go_wp2_with (first | ((with_reducible refine gate_callee (f:=90) rfl ?_);refine goesL_ (some 4) rfl rfl Try.func90 (by kernel_rfl) rfl #[.float .f64 a0] rfl (by (try simp only [List.map_toArray,List.map_cons,List.map_nil]);first | done | rfl | (simp only [List.length_drop,List.length_take];rfl)) ?_;(with_reducible refine (math_Signbit.calls a0 true _ A3.out).mono ?_);rintro e w' ⟨rfl,⟨nd,rfl⟩⟩;refine ⟨_,rfl,?_⟩))
   go_meet
   case rel => exact ⟨_,(true),(by first | rfl | (simp;done) | (simp [*];done)),H',⟨by first | omega | exact Nat.le_refl _⟩,by repeat (first | exact Drawn0.refl _ | apply Drawn0.step)⟩
  replace c4:=Bool.eq_false_iff.mpr c4
  subst c4
  have H1:((math_IsNaN.f a0).bind fun t341 => (message_distance.j0 k a0 t341)) = some r:=by rw [if_neg (show ¬ (false = true) by decide)] at H;exact H
  clear H
  have H:=H1
  clear H1
  replace H:=Option.bind_eq_some_iff.mp H
  obtain ⟨t341,A50,H⟩:=H
  replace H:(message_distance.j0 k a0 t341) = some r:=H
  have A5:=Aside0.mk A50
  clear A50
  have H':=Aside0.mk H
  clear H
  go_wp2_with (first | ((with_reducible refine gate_callee (f:=90) rfl ?_);refine goesL_ (some 4) rfl rfl Try.func90 (by kernel_rfl) rfl #[.float .f64 a0] rfl (by (try simp only [List.map_toArray,List.map_cons,List.map_nil]);first | done | rfl | (simp only [List.length_drop,List.length_take];rfl)) ?_;(with_reducible refine (math_Signbit.calls a0 false _ A3.out).mono ?_);rintro e w' ⟨rfl,⟨nd,rfl⟩⟩;refine ⟨_,rfl,?_⟩) | (go_at_call 73;(with_reducible refine (math_IsNaN.calls a0 t341 _ A5.out).mono ?_);rintro e w' ⟨rfl,⟨nd,rfl⟩⟩))
  go_meet
  case rel => exact ⟨_,(t341),(by first | rfl | (simp;done) | (simp [*];done)),H',⟨by first | omega | exact Nat.le_refl _⟩,by repeat (first | exact Drawn0.refl _ | apply Drawn0.step)⟩
 case rest =>
  clear HC2
  obtain ⟨kq,x8_1,rfl,HA,HJ1,⟨mc1,rfl⟩⟩:=hcut
  cases kq with
  | zero => exact absurd HA.out (by simp [message_distance.j0])
  | succ kj1 =>
   have H:=HA.out
   clear HA
   simp only [message_distance.j0] at H
   by_cases c6:x8_1 = true
   ·subst c6
    have H1:(some false) = some r:=by rw [if_pos rfl] at H;exact H
    clear H
    have H:=H1
    clear H1
    obtain rfl:=Option.some.inj H
    go_wp2
    go_ret
    exact ⟨by first | rfl | (simp;done) | (simp [*];done),by repeat (first | exact Drawn0.refl _ | apply Drawn0.step)⟩
   replace c6:=Bool.eq_false_iff.mpr c6
   subst c6
   have H1:((math_IsInf.f a0 1).bind fun t342 => (if t342 = true then (some true) else (if (FloatKind.f64.format.order a0 4742290407621132288 == some .lt) = true then ((floatBits .mul .f64 a0 4616189618054758400).bind fun t343 => ((math_Trunc.f t343).bind fun t344 => (some (FloatKind.f64.format.order t343 t344 == some .eq)))) else (some false)))) = some r:=by rw [if_neg (show ¬ (false = true) by decide)] at H;exact H
   clear H
   have H:=H1
   clear H1
   replace H:=Option.bind_eq_some_iff.mp H
   obtain ⟨t342,A70,H⟩:=H
   replace H:(if t342 = true then (some true) else (if (FloatKind.f64.format.order a0 4742290407621132288 == some .lt) = true then ((floatBits .mul .f64 a0 4616189618054758400).bind fun t343 => ((math_Trunc.f t343).bind fun t344 => (some (FloatKind.f64.format.order t343 t344 == some .eq)))) else (some false))) = some r:=H
   have A7:=Aside0.mk A70
   clear A70
   by_cases c8:t342 = true
   ·subst c8
    have H1:(some true) = some r:=by rw [if_pos rfl] at H;exact H
    clear H
    have H:=H1
    clear H1
    obtain rfl:=Option.some.inj H
    go_wp2_with (first | ((with_reducible refine gate_callee (f:=62) rfl ?_);refine goesL_ (some 10) rfl rfl Try.func62 (by kernel_rfl) rfl #[.float .f64 a0,.int .i64 1] rfl (by (try simp only [List.map_toArray,List.map_cons,List.map_nil]);first | done | rfl | (simp only [List.length_drop,List.length_take];rfl)) ?_;(with_reducible refine (math_IsInf.calls a0 1 true _ A7.out).mono ?_);rintro e w' ⟨rfl,⟨nd,rfl⟩⟩;refine ⟨_,rfl,?_⟩))
    go_ret
    exact ⟨by first | rfl | (simp;done) | (simp [*];done),by repeat (first | exact Drawn0.refl _ | apply Drawn0.step)⟩
   replace c8:=Bool.eq_false_iff.mpr c8
   subst c8
   have H1:(if (FloatKind.f64.format.order a0 4742290407621132288 == some .lt) = true then ((floatBits .mul .f64 a0 4616189618054758400).bind fun t343 => ((math_Trunc.f t343).bind fun t344 => (some (FloatKind.f64.format.order t343 t344 == some .eq)))) else (some false)) = some r:=by rw [if_neg (show ¬ (false = true) by decide)] at H;exact H
   clear H
   have H:=H1
   clear H1
   by_cases c9:(FloatKind.f64.format.order a0 4742290407621132288 == some .lt) = true
   ·rw [if_pos c9] at H
    have c9b0:(FloatKind.f64.format.order a0 4742290407621132288 == some .lt) = true:=c9
    (try (have c9b1:decide (FloatKind.f64.format.order a0 4742290407621132288 = some .lt) = true:=by simpa using c9))
    (try (have c9b2:(FloatKind.f64.format.order a0 4742290407621132288 == some .lt) = true:=by simpa using c9))
    clear c9
    replace H:=Option.bind_eq_some_iff.mp H
    obtain ⟨t343,A100,H⟩:=H
    replace H:((math_Trunc.f t343).bind fun t344 => (some (FloatKind.f64.format.order t343 t344 == some .eq))) = some r:=H
    have A10f:∀ W_:World,(binOp .mul 23 (.float .f64 a0) (.float .f64 4616189618054758400)).run Try.prog W_ = .ok (.float .f64 t343) W_:=fun W_ => run_float_arith W_ .mul 23 .f64 _ _ _ A100
    have A10:=Aside0.mk A100
    clear A100
    replace H:=Option.bind_eq_some_iff.mp H
    obtain ⟨t344,A110,H⟩:=H
    replace H:(some (FloatKind.f64.format.order t343 t344 == some .eq)) = some r:=H
    have A11:=Aside0.mk A110
    clear A110
    obtain rfl:=Option.some.inj H
    go_wp2_with (first | ((with_reducible refine gate_callee (f:=62) rfl ?_);refine goesL_ (some 10) rfl rfl Try.func62 (by kernel_rfl) rfl #[.float .f64 a0,.int .i64 1] rfl (by (try simp only [List.map_toArray,List.map_cons,List.map_nil]);first | done | rfl | (simp only [List.length_drop,List.length_take];rfl)) ?_;(with_reducible refine (math_IsInf.calls a0 1 false _ A7.out).mono ?_);rintro e w' ⟨rfl,⟨nd,rfl⟩⟩;refine ⟨_,rfl,?_⟩) | (go_at_call 85;(with_reducible refine (math_Trunc.calls t343 t344 _ A11.out).mono ?_);rintro e w' ⟨rfl,⟨nd,rfl⟩⟩))
    go_ret
    exact ⟨by first | rfl | (simp;done) | (simp [*];done),by repeat (first | exact Drawn0.refl _ | apply Drawn0.step)⟩
   rw [if_neg c9] at H
   have c9b0:(FloatKind.f64.format.order a0 4742290407621132288 == some .lt) = false:=by simpa using c9
   (try (have c9b1:decide (FloatKind.f64.format.order a0 4742290407621132288 = some .lt) = false:=by simpa using c9))
   (try (have c9b2:(FloatKind.f64.format.order a0 4742290407621132288 == some .lt) = false:=by simpa using c9))
   (try (have c9b3:¬ (FloatKind.f64.format.order a0 4742290407621132288 = some .lt):=by simpa using c9))
   clear c9
   obtain rfl:=Option.some.inj H
   go_wp2_with (first | ((with_reducible refine gate_callee (f:=62) rfl ?_);refine goesL_ (some 10) rfl rfl Try.func62 (by kernel_rfl) rfl #[.float .f64 a0,.int .i64 1] rfl (by (try simp only [List.map_toArray,List.map_cons,List.map_nil]);first | done | rfl | (simp only [List.length_drop,List.length_take];rfl)) ?_;(with_reducible refine (math_IsInf.calls a0 1 false _ A7.out).mono ?_);rintro e w' ⟨rfl,⟨nd,rfl⟩⟩;refine ⟨_,rfl,?_⟩))
   go_ret
   exact ⟨by first | rfl | (simp;done) | (simp [*];done),by repeat (first | exact Drawn0.refl _ | apply Drawn0.step)⟩
end Go.Proofs.Ytjcnmpkaiopihaa.PA
