/- Printed by a program of this session (wip/tools/patch_print.py and pr.py, over the kit's print): each Go function as a plain Lean function, and that the Go code comes to just its answers. Conditions: those that each theorem names. -/
import Derived.Test.YtmdkcecbklgihaaSpX
import Derived.Test.YtmdkcecbklgihaaCPAx0
import Derived.Test.YtmdkcecbklgihaaCPAx1
import Derived.Test.YtmdkcecbklgihaaSpPAx9
import Derived.Test.YtmdkcecbklgihaaSpPAx13
import Derived.Test.YtmdkcecbklgihaaSpHp
namespace Go.Proofs.Ytmdkcecbklgihaa.PA
open Go.RowKit Go.Proofs.YtmdkcecbklgihaaW.PrintWords Go.Proofs.YtmdkcecbklgihaaW.PrintLast Go.Proofs.YtmdkcecbklgihaaW.PrintMore
attribute [local go_sem] max2_int min2_int max_two min_two max_three min_three max_four min_four
set_option linter.unusedVariables false
set_option linter.unusedSimpArgs false
mutual
noncomputable def beaconlaw08_PathsSteps.j0:Nat → Nat → List Int → Nat → Bool → List (S40) → List (S74) → Int → Int → Option (Bool)
 | 0,_,_,_,_,_,_,_,_ => none
 | k + 1,x1,x7,x8,x33,x368000,x368001,x369000,x369001 => if x33 = true then (if (x7.length:Int) = 0 then ((beaconlaw08_awake.f).bind fun t375 => (some t375)) else (some false)) else (if (x7.length:Int) = 0 then (beaconlaw08_PathsSteps.j1 k x1 x7 x8 true x368000 x368001 x369000 x369001) else (if 0 < (x7.length:Int) then (if (rd x7 0) = x369000 then (if 0 ≤ (wrap64 ((x7.length:Int) - 1)) then (if (wrap64 ((x7.length:Int) - 1)) < (x7.length:Int) then (beaconlaw08_PathsSteps.j1 k x1 x7 x8 ((rd x7 (wrap64 ((x7.length:Int) - 1))) != x369001) x368000 x368001 x369000 x369001) else (none)) else (none)) else (beaconlaw08_PathsSteps.j1 k x1 x7 x8 true x368000 x368001 x369000 x369001)) else (none)))
noncomputable def beaconlaw08_PathsSteps.j1:Nat → Nat → List Int → Nat → Bool → List (S40) → List (S74) → Int → Int → Option (Bool)
 | 0,_,_,_,_,_,_,_,_ => none
 | k + 1,x1,x7,x8,x61,x368000,x368001,x369000,x369001 => if x61 = true then (some false) else (beaconlaw08_PathsSteps.l0 k x1 x7 x8 0 0 x368000 x368001 x369000 x369001)
noncomputable def beaconlaw08_PathsSteps.l0:Nat → Nat → List Int → Nat → Nat → Int → List (S40) → List (S74) → Int → Int → Option (Bool)
 | 0,_,_,_,_,_,_,_,_,_ => none
 | k + 1,x1,x7,x8,x10,x11,x368000,x368001,x369000,x369001 => if x11 < (x7.length:Int) then (beaconlaw08_PathsSteps.l1 k x1 x7 x8 x10 x11 0 x368000 x368001 x369000 x369001) else (if (FloatKind.f64.format.order x10 x8 == some .eq) = true then ((beaconlaw08_awake.f).bind fun t378 => (some t378)) else (some false))
noncomputable def beaconlaw08_PathsSteps.l1:Nat → Nat → List Int → Nat → Nat → Int → Int → List (S40) → List (S74) → Int → Int → Option (Bool)
 | 0,_,_,_,_,_,_,_,_,_,_ => none
 | k + 1,x1,x7,x8,x10,x11,x12,x368000,x368001,x369000,x369001 => if x12 < x11 then (if 0 ≤ x12 then (if x12 < (x7.length:Int) then (if 0 ≤ x11 then (if x11 < (x7.length:Int) then (if (rd x7 x12) = (rd x7 x11) then (some false) else (beaconlaw08_PathsSteps.l1 k x1 x7 x8 x10 x11 (wrap64 (x12 + 1)) x368000 x368001 x369000 x369001)) else (none)) else (none)) else (none)) else (none)) else (if x11 > 0 then (if 0 ≤ (wrap64 (x11 - 1)) then (if (wrap64 (x11 - 1)) < (x7.length:Int) then (if 0 ≤ x11 then (if x11 < (x7.length:Int) then ((beaconlaw08_weight.f k x368000 x368001 (rd x7 (wrap64 (x11 - 1))) (rd x7 x11)).bind fun t383 => (if (FloatKind.f64.format.order t383 0 == some .eq) = true then (some false) else ((floatBits .add .f64 x10 t383).bind fun t384 => (beaconlaw08_PathsSteps.j4 k x1 x7 x8 t384 x11 x368000 x368001 x369000 x369001)))) else (none)) else (none)) else (none)) else (none)) else (beaconlaw08_PathsSteps.j4 k x1 x7 x8 x10 x11 x368000 x368001 x369000 x369001))
noncomputable def beaconlaw08_PathsSteps.j4:Nat → Nat → List Int → Nat → Nat → Int → List (S40) → List (S74) → Int → Int → Option (Bool)
 | 0,_,_,_,_,_,_,_,_,_ => none
 | k + 1,x1,x7,x8,x10,x11,x368000,x368001,x369000,x369001 => if 0 ≤ x11 then (if x11 < (x7.length:Int) then ((paths_Path.f x368000 x368001 x1 (rd x7 x11) x369001).bind fun bt386 => (if bt386.2.2 = 0 then (if x11 ≤ (x7.length:Int) then ((beaconlaw08_ints.f k bt386.1 (x7.drop (x11:Int).toNat)).bind fun t395 => (if t395 = true then ((floatBits .add .f64 x10 bt386.2.1).bind fun t396 => (beaconlaw08_PathsSteps.j5 k x1 x7 x8 x10 x11 (FloatKind.f64.format.order t396 x8 != some .eq) x368000 x368001 x369000 x369001)) else (beaconlaw08_PathsSteps.j5 k x1 x7 x8 x10 x11 true x368000 x368001 x369000 x369001))) else (none)) else (beaconlaw08_PathsSteps.j5 k x1 x7 x8 x10 x11 true x368000 x368001 x369000 x369001))) else (none)) else (none)
noncomputable def beaconlaw08_PathsSteps.j5:Nat → Nat → List Int → Nat → Nat → Int → Bool → List (S40) → List (S74) → Int → Int → Option (Bool)
 | 0,_,_,_,_,_,_,_,_,_,_ => none
 | k + 1,x1,x7,x8,x10,x11,x129,x368000,x368001,x369000,x369001 => if x129 = true then (some false) else (beaconlaw08_PathsSteps.l0 k x1 x7 x8 x10 (wrap64 (x11 + 1)) x368000 x368001 x369000 x369001)
end
noncomputable def beaconlaw08_PathsSteps.f (k:Nat) (l0_0:List (S40)) (l0_1:List (S74)) (a1:Nat) (a2_0:Int) (a2_1:Int):Option (Bool):=(paths_Path.f l0_0 l0_1 a1 a2_0 a2_1).bind fun bt369 => (if bt369.2.2 = 0 then ((math_IsInf.f bt369.2.1 1).bind fun t374 => (beaconlaw08_PathsSteps.j0 k a1 bt369.1 bt369.2.1 t374 l0_0 l0_1 a2_0 a2_1)) else (beaconlaw08_PathsSteps.j0 k a1 bt369.1 bt369.2.1 true l0_0 l0_1 a2_0 a2_1))
noncomputable def beaconlaw08_PathsSteps.T4:Bool × List (List Nat × List Nat):=(true,[([],[]),([0],[0]),([1],[1]),([2],[2]),([3],[3]),([4,3],[3,4]),([5,3],[3,5]),([3],[3]),([7,3],[3,7]),([6,8,3],[3,6,8]),([3,9],[3,9]),([10,3],[10]),([11],[11]),([11],[11]),([13,11],[11,13]),([14,11],[11,14]),([12,15,11],[11,12,15]),([16,11],[11,16]),([11],[11]),([18,11],[11,18]),([17,19,11],[11,17,19]),([11,20],[11,20])])
noncomputable def beaconlaw08_PathsSteps.B4:List Nat:=[0,1,3,7,15,31,63,15,143,511,1023,2047,4095,4095,12287,28671,65535,131071,4095,266239,1048575,2097151]
theorem beaconlaw08_PathsSteps.tab4:rtab .any (opsOf Try.f8 4) = beaconlaw08_PathsSteps.T4:=by kernel_rfl
theorem beaconlaw08_PathsSteps.bits4:waitsOk beaconlaw08_PathsSteps.T4.2 beaconlaw08_PathsSteps.B4 = true:=by kernel_rfl
noncomputable def beaconlaw08_PathsSteps.T13:Bool × List (List Nat × List Nat):=(true,[([],[]),([],[]),([0,1],[0,1]),([2],[2]),([],[]),([],[]),([4,5],[4,5]),([6],[6]),([3,7],[3,7])])
noncomputable def beaconlaw08_PathsSteps.B13:List Nat:=[0,0,3,7,0,0,48,112,255]
theorem beaconlaw08_PathsSteps.tab13:rtab .any (opsOf Try.f8 13) = beaconlaw08_PathsSteps.T13:=by kernel_rfl
theorem beaconlaw08_PathsSteps.bits13:waitsOk beaconlaw08_PathsSteps.T13.2 beaconlaw08_PathsSteps.B13 = true:=by kernel_rfl
noncomputable def beaconlaw08_PathsSteps.T16:Bool × List (List Nat × List Nat):=(true,[([],[]),([],[]),([],[]),([2],[2]),([1,3],[1,3]),([4],[4]),([],[]),([],[]),([6,7],[6,7]),([8],[8]),([0,5,9],[0,5,9]),([10,10,0,1,2,3,4,5,6,7,8,9,10],[10])])
noncomputable def beaconlaw08_PathsSteps.B16:List Nat:=[0,0,0,4,14,30,0,0,192,448,1023,2047]
theorem beaconlaw08_PathsSteps.tab16:rtab .any (opsOf Try.f8 16) = beaconlaw08_PathsSteps.T16:=by kernel_rfl
theorem beaconlaw08_PathsSteps.bits16:waitsOk beaconlaw08_PathsSteps.T16.2 beaconlaw08_PathsSteps.B16 = true:=by kernel_rfl
noncomputable def beaconlaw08_PathsSteps.T20:Bool × List (List Nat × List Nat):=(true,[([],[]),([],[]),([],[]),([],[]),([2,3],[2,3]),([4],[4]),([],[]),([6],[6]),([0,1,5,7],[0,1,5,7]),([8],[8]),([9],[9]),([9],[9]),([9],[9]),([10,8,0,1,2,3,4,5,6,7,8,9,10],[10]),([11,13,0,1,2,3,4,5,6,7,8,9,10,11,13],[11]),([12,14,0,1,2,3,4,5,6,7,8,9,10,11,12,13,14],[12])])
noncomputable def beaconlaw08_PathsSteps.B20:List Nat:=[0,0,0,0,12,28,0,64,255,511,1023,1023,1023,2047,12287,32767]
theorem beaconlaw08_PathsSteps.tab20:rtab .any (opsOf Try.f8 20) = beaconlaw08_PathsSteps.T20:=by kernel_rfl
theorem beaconlaw08_PathsSteps.bits20:waitsOk beaconlaw08_PathsSteps.T20.2 beaconlaw08_PathsSteps.B20 = true:=by kernel_rfl
set_option maxHeartbeats 8000000 in
set_option maxRecDepth 100000 in
theorem beaconlaw08_PathsSteps.calls (k:Nat) (A0_0:Option Addr) (c0_0:Nat) (l0_0:List (S40)) (A0_1:Option Addr) (c0_1:Nat) (l0_1:List (S74)) (a1:Nat) (a2_0:Int) (a2_1:Int) (r:Bool) (w:World) (hr0_0:Kd.C k40 w A0_0 l0_0.length l0_0) (hc0_0:l0_0.length ≤ c0_0) (hr0_1:Kd.C k74 w A0_1 l0_1.length l0_1) (hc0_1:l0_1.length ≤ c0_1) (h:beaconlaw08_PathsSteps.f k l0_0 l0_1 a1 a2_0 a2_1 = some r) :
  Calls Try.prog 8 #[.agg #[.slice A0_0 l0_0.length c0_0,.slice A0_1 l0_1.length c0_1],.float .f64 a1,.agg #[.int .i64 a2_0,.int .i64 a2_1]] w fun e w' => e = .returned (.bool r) ∧ Below w.heap.size w w':=by
 have hu25:=Try.underlying25
 have hu45:=Try.underlying45
 have HR0_0:=Aside0.mk hr0_0
 have HC0_0:=Aside0.mk hc0_0
 clear hr0_0 hc0_0
 have HR0_1:=Aside0.mk hr0_1
 have HC0_1:=Aside0.mk hc0_1
 clear hr0_1 hc0_1
 have HB:=Aside0.mk (Below.refl w.heap.size w)
 have H:((paths_Path.f l0_0 l0_1 a1 a2_0 a2_1).bind fun bt369 => (if bt369.2.2 = 0 then ((math_IsInf.f bt369.2.1 1).bind fun t374 => (beaconlaw08_PathsSteps.j0 k a1 bt369.1 bt369.2.1 t374 l0_0 l0_1 a2_0 a2_1)) else (beaconlaw08_PathsSteps.j0 k a1 bt369.1 bt369.2.1 true l0_0 l0_1 a2_0 a2_1))) = some r:=h
 clear h
 replace H:=Option.bind_eq_some_iff.mp H
 obtain ⟨⟨t369,t372,t373⟩,A40,H⟩:=H
 replace H:(if t373 = 0 then ((math_IsInf.f t372 1).bind fun t374 => (beaconlaw08_PathsSteps.j0 k a1 t369 t372 t374 l0_0 l0_1 a2_0 a2_1)) else (beaconlaw08_PathsSteps.j0 k a1 t369 t372 true l0_0 l0_1 a2_0 a2_1)) = some r:=H
 have A4:=Aside0.mk A40
 clear A40
 have HC5:=Aside0.mk H
 clear H
 go_enter Try.func8,Try.ntmps8
 go_upto_region 2 with (first | ((with_reducible refine gate_dst (N:=3) rfl ?_);(try (refine gate_guard (by rfl) ?_;dsimp only));refine box_event ?hg (N:=3) ?hd (cs:=#[.slice A0_0 l0_0.length c0_0,.slice A0_1 l0_1.length c0_1]) (t:=25) ?hr ?_;(case hd => rfl);(case hg => rfl);(case hr => first | (go_simp;done) | (go_simp;rfl));intro gb367 hg w6 hbox hb;have n0_:=Aside0.mk (below_step (by repeat (first | (with_reducible first | exact HB.out | apply below_alloc | apply pw_below_drewN | apply below_drew1) | exact HB.out)) hb);have n1_:=Aside0.mk (hbox);have n2_:=Aside0.mk ((by rw [hg];exact (below_size (by repeat (first | (with_reducible first | exact HB.out | apply below_alloc | apply pw_below_drewN | apply below_drew1) | exact HB.out))):w.heap.size ≤ gb367));have n3_:=Aside0.mk ((by rw [hg];exact (below_size (by repeat (first | (with_reducible first | exact HB.out | apply below_alloc | apply pw_below_drewN | apply below_drew1) | exact HB.out))):w.heap.size ≤ gb367));clear HB;have HB:=n0_;have BK367:=n1_;have GW367:=n2_;have GE367:=n3_;clear n0_ n1_ n2_ n3_;clear hb hbox hg) | ((with_reducible refine gate_dst (N:=5) rfl ?_);(try (refine gate_guard (by rfl) ?_;dsimp only));refine box_event ?hg (N:=5) ?hd (cs:=#[.int .i64 a2_0,.int .i64 a2_1]) (t:=45) ?hr ?_;(case hd => rfl);(case hg => rfl);(case hr => first | (go_simp;done) | (go_simp;rfl));intro gb368 hg w7 hbox hb;have n0_:=Aside0.mk (blk_below (g:=gb367) (o:=.cells #[.slice A0_0 l0_0.length c0_0,.slice A0_1 l0_1.length c0_1] 25 (0,0)) (by (with_reducible repeat (first | refine blk_drewN ?_ _ | refine blk_drew ?_ | refine blk_alloc ?_ _));exact BK367.out) hb);have n1_:=Aside0.mk (below_step (by repeat (first | (with_reducible first | exact HB.out | apply below_alloc | apply pw_below_drewN | apply below_drew1 | refine below_set ?_ GE367.out) | exact HB.out)) hb);have n2_:=Aside0.mk (hbox);have n3_:=Aside0.mk ((by rw [hg];exact (below_size (by repeat (first | (with_reducible first | exact HB.out | apply below_alloc | apply pw_below_drewN | apply below_drew1 | refine below_set ?_ GE367.out) | exact HB.out))):w.heap.size ≤ gb368));have n4_:=Aside0.mk ((by rw [hg];exact (below_size (by repeat (first | (with_reducible first | exact HB.out | apply below_alloc | apply pw_below_drewN | apply below_drew1 | refine below_set ?_ GE367.out) | exact HB.out))):w.heap.size ≤ gb368));have n5_:=Aside0.mk ((by rw [hg];exact Nat.ne_of_lt (blk_lt (g:=gb367) (o:=.cells #[.slice A0_0 l0_0.length c0_0,.slice A0_1 l0_1.length c0_1] 25 (0,0)) (by (with_reducible repeat (first | refine blk_drewN ?_ _ | refine blk_drew ?_ | refine blk_alloc ?_ _));exact BK367.out)):gb367 ≠ gb368));have n6_:=Aside0.mk ((by rw [hg];exact Nat.ne_of_gt (blk_lt (g:=gb367) (o:=.cells #[.slice A0_0 l0_0.length c0_0,.slice A0_1 l0_1.length c0_1] 25 (0,0)) (by (with_reducible repeat (first | refine blk_drewN ?_ _ | refine blk_drew ?_ | refine blk_alloc ?_ _));exact BK367.out)):gb368 ≠ gb367));clear BK367;clear HB;have BK367:=n0_;have HB:=n1_;have BK368:=n2_;have GW368:=n3_;have GE368:=n4_;have NB367_368:=n5_;have NB368_367:=n6_;clear n0_ n1_ n2_ n3_ n4_ n5_ n6_;clear hb hbox hg;have hnb8:=NB367_368.out;have hnc8:=NB368_367.out;have hcz9_0:w7.cell? ⟨gb367,0,none⟩ = some (.slice A0_0 l0_0.length c0_0):=(blk_cell BK367.out 0).trans rfl;have hcz9_1:w7.cell? ⟨gb367,1,none⟩ = some (.slice A0_1 l0_1.length c0_1):=(blk_cell BK367.out 1).trans rfl;have hfz9_0:=blk_frozen BK367.out 0;have hfz9_1:=blk_frozen BK367.out 1;have hcz10_0:w7.cell? ⟨gb368,0,none⟩ = some (.int .i64 a2_0):=(blk_cell BK368.out 0).trans rfl;have hcz10_1:w7.cell? ⟨gb368,1,none⟩ = some (.int .i64 a2_1):=(blk_cell BK368.out 1).trans rfl;have hfz10_0:=blk_frozen BK368.out 0;have hfz10_1:=blk_frozen BK368.out 1) | ((with_reducible refine gate_callee (f:=21) rfl ?_);refine goesL_ (some 24) rfl rfl Try.func21 (by kernel_rfl) rfl #[.agg #[.slice A0_0 l0_0.length c0_0,.slice A0_1 l0_1.length c0_1],.float .f64 a1,.int .i64 a2_0,.int .i64 a2_1] rfl (by (try simp only [List.map_toArray,List.map_cons,List.map_nil]);first | done | rfl | (simp only [List.length_drop,List.length_take];rfl)) ?_;(with_reducible refine (paths_Path.calls _ _ l0_0 _ _ l0_1 a1 a2_0 a2_1 t369 t372 t373 _ ?side1 ?side2 ?side3 ?side4 A4.out).mono ?_);(case side1 => repeat (first | exact (Kd.C_below HR0_0.out HB.out) | (with_reducible refine Kd.C_alloc ?_ _) | (with_reducible refine Kd.C_drewN ?_ _) | (with_reducible refine Kd.C_drew ?_)));(case side2 => exact HC0_0.out);(case side3 => repeat (first | exact (Kd.C_below HR0_1.out HB.out) | (with_reducible refine Kd.C_alloc ?_ _) | (with_reducible refine Kd.C_drewN ?_ _) | (with_reducible refine Kd.C_drew ?_)));(case side4 => exact HC0_1.out);rintro e w11 ⟨v370,rfl,ho0,hb⟩;refine ⟨_,rfl,?_⟩;have n0_:=Aside0.mk (Kd.R_lower ho0 (below_size (by repeat (first | (with_reducible first | exact HB.out | apply below_alloc | apply pw_below_drewN | apply below_drew1 | refine below_set ?_ GE367.out | refine below_set ?_ GE368.out) | exact HB.out))));have n1_:=Aside0.mk (blk_below (g:=gb367) (o:=.cells #[.slice A0_0 l0_0.length c0_0,.slice A0_1 l0_1.length c0_1] 25 (0,0)) (by (with_reducible repeat (first | refine blk_drewN ?_ _ | refine blk_drew ?_ | refine blk_alloc ?_ _));exact BK367.out) hb);have n2_:=Aside0.mk (blk_below (g:=gb368) (o:=.cells #[.int .i64 a2_0,.int .i64 a2_1] 45 (0,0)) (by (with_reducible repeat (first | refine blk_drewN ?_ _ | refine blk_drew ?_ | refine blk_alloc ?_ _));exact BK368.out) hb);have n3_:=Aside0.mk (below_step (by repeat (first | (with_reducible first | exact HB.out | apply below_alloc | apply pw_below_drewN | apply below_drew1 | refine below_set ?_ GE367.out | refine below_set ?_ GE368.out) | exact HB.out)) hb);clear BK367;clear BK368;clear HB;have HO371:=n0_;have BK367:=n1_;have BK368:=n2_;have HB:=n3_;clear n0_ n1_ n2_ n3_;(try clear hb);(try clear hb2);(try clear hk);(try clear hi);(try clear ho0)))
 (try simp only [Act.put,List.setIfInBounds_toArray,List.set_cons_zero,List.set_cons_succ])
 go_cut [33] (fun v33 wc => ∃ (kq:Nat) (x33_4:Bool),v33 = .bool x33_4 ∧ Aside0 (beaconlaw08_PathsSteps.j0 kq a1 t369 t372 x33_4 l0_0 l0_1 a2_0 a2_1 = some r) ∧ Aside0 (kq ≤ k) ∧ Aside0 (Kd.R (Kd.int .i64) 3 wc w.heap.size (fun _ => True) v370 t369) ∧ Aside0 (wc.heap[gb367]? = some (.cells #[(.slice A0_0 l0_0.length c0_0),(.slice A0_1 l0_1.length c0_1)] 25 (0,0))) ∧ Aside0 (wc.heap[gb368]? = some (.cells #[.int .i64 a2_0,.int .i64 a2_1] 45 (0,0))) ∧ Aside0 (Below w.heap.size w wc))
 case first =>
  have H:=HC5.out
  clear HC5
  by_cases c12:t373 = 0
  ·rw [if_pos c12] at H
   have c12b0:(t373 == 0) = true:=beq_iff_eq.mpr c12
   have c12b1:(t373 != 0) = false:=bne_eq_false_iff_eq.mpr c12
   clear c12
   (first | rw [c12b0] | (simp only [i64_w,i32_w];rw [c12b0]) | skip)
   replace H:=Option.bind_eq_some_iff.mp H
   obtain ⟨t374,A130,H⟩:=H
   replace H:(beaconlaw08_PathsSteps.j0 k a1 t369 t372 t374 l0_0 l0_1 a2_0 a2_1) = some r:=H
   have A13:=Aside0.mk A130
   clear A130
   have H':=Aside0.mk H
   clear H
   go_wp2_with (first | (go_at_call 20;(with_reducible refine (math_IsInf.calls t372 1 t374 _ A13.out).mono ?_);rintro e w' ⟨rfl,⟨nd,rfl⟩⟩))
   go_meet
   case rel => exact ⟨_,(t374),(by first | rfl | (simp;done) | (simp [*];done)),H',⟨by first | omega | exact Nat.le_refl _⟩,⟨by (with_reducible repeat (first | apply Kd.R_alloc | apply Kd.R_drewN | apply Kd.R_drew));exact HO371.out⟩,⟨by (with_reducible repeat (first | refine blk_drewN ?_ _ | refine blk_drew ?_ | refine blk_alloc ?_ _));exact BK367.out⟩,⟨by (with_reducible repeat (first | refine blk_drewN ?_ _ | refine blk_drew ?_ | refine blk_alloc ?_ _));exact BK368.out⟩,⟨by repeat (first | (with_reducible first | exact HB.out | apply below_alloc | apply pw_below_drewN | apply below_drew1 | refine below_set ?_ GE367.out | refine below_set ?_ GE368.out) | exact HB.out)⟩⟩
  ·rw [if_neg c12] at H
   have c12b0:(t373 == 0) = false:=beq_eq_false_iff_ne.mpr c12
   have c12b1:(t373 != 0) = true:=bne_iff_ne.mpr c12
   (first | rw [c12b0] | (simp only [i64_w,i32_w];rw [c12b0]) | skip)
   have H':=Aside0.mk H
   clear H
   go_wp2
   go_meet
   case rel => exact ⟨_,(true),(by first | rfl | (simp;done) | (simp [*];done)),H',⟨by first | omega | exact Nat.le_refl _⟩,⟨by (with_reducible repeat (first | apply Kd.R_alloc | apply Kd.R_drewN | apply Kd.R_drew));exact HO371.out⟩,⟨by (with_reducible repeat (first | refine blk_drewN ?_ _ | refine blk_drew ?_ | refine blk_alloc ?_ _));exact BK367.out⟩,⟨by (with_reducible repeat (first | refine blk_drewN ?_ _ | refine blk_drew ?_ | refine blk_alloc ?_ _));exact BK368.out⟩,⟨by repeat (first | (with_reducible first | exact HB.out | apply below_alloc | apply pw_below_drewN | apply below_drew1 | refine below_set ?_ GE367.out | refine below_set ?_ GE368.out) | exact HB.out)⟩⟩
 case rest =>
  clear HC5
  try clear c1
  try clear c2
  try clear p2
  try clear c8
  try clear c12
  try clear c12b0
  try clear c12b1
  try clear hcz10_0
  try clear hcz10_1
  try clear hcz9_0
  try clear hcz9_1
  try clear hfz10_0
  try clear hfz10_1
  try clear hfz9_0
  try clear hfz9_1
  obtain ⟨kq,x33_4,rfl,HA,HJ4,HO_7,BK367,BK368,HB⟩:=hcut
  cases kq with
  | zero => exact absurd HA.out (by simp [beaconlaw08_PathsSteps.j0])
  | succ kj4 =>
   have H:=HA.out
   clear HA
   simp only [beaconlaw08_PathsSteps.j0] at H
   by_cases c14:x33_4 = true
   ·subst c14
    have H1:(if (t369.length:Int) = 0 then ((beaconlaw08_awake.f).bind fun t375 => (some t375)) else (some false)) = some r:=by rw [if_pos rfl] at H;exact H
    clear H
    have H:=H1
    clear H1
    by_cases c15:(t369.length:Int) = 0
    ·rw [if_pos c15] at H
     have c15b0:((t369.length:Int) == 0) = true:=beq_iff_eq.mpr c15
     have c15b1:((t369.length:Int) != 0) = false:=bne_eq_false_iff_eq.mpr c15
     clear c15
     replace H:=Option.bind_eq_some_iff.mp H
     obtain ⟨t375,A160,H⟩:=H
     replace H:(some t375) = some r:=H
     have A16:=Aside0.mk A160
     clear A160
     obtain rfl:=Option.some.inj H
     obtain ⟨Ao17,co17,eo17⟩:=Kd.R_slice HO_7.out
     subst eo17
     go_wp2_with (first | (go_at_call 14;(with_reducible refine (beaconlaw08_awake.calls  t375 _ A16.out).mono ?_);rintro e w18 ⟨rfl,hb⟩;have n0_:=Aside0.mk (Kd.R_below (by (with_reducible repeat (first | apply Kd.R_alloc | apply Kd.R_drewN | apply Kd.R_drew));exact HO_7.out) hb);have n1_:=Aside0.mk (blk_below (g:=gb367) (o:=.cells #[.slice A0_0 l0_0.length c0_0,.slice A0_1 l0_1.length c0_1] 25 (0,0)) (by (with_reducible repeat (first | refine blk_drewN ?_ _ | refine blk_drew ?_ | refine blk_alloc ?_ _));exact BK367.out) hb);have n2_:=Aside0.mk (blk_below (g:=gb368) (o:=.cells #[.int .i64 a2_0,.int .i64 a2_1] 45 (0,0)) (by (with_reducible repeat (first | refine blk_drewN ?_ _ | refine blk_drew ?_ | refine blk_alloc ?_ _));exact BK368.out) hb);have n3_:=Aside0.mk (below_step (by repeat (first | (with_reducible first | exact HB.out | apply below_alloc | apply pw_below_drewN | apply below_drew1 | refine below_set ?_ GE367.out | refine below_set ?_ GE368.out) | exact HB.out)) hb);clear HO_7;clear BK367;clear BK368;clear HB;have HO_7:=n0_;have BK367:=n1_;have BK368:=n2_;have HB:=n3_;clear n0_ n1_ n2_ n3_;(try clear hb);(try clear hb2);(try clear hk);(try clear hi)))
     go_ret
     exact ⟨by first | rfl | (simp [errW_none,errW_some] <;> rfl) | (simp [*,errW_none,errW_some] <;> rfl),by repeat (first | (with_reducible first | exact HB.out | apply below_alloc | apply pw_below_drewN | apply below_drew1 | refine below_set ?_ GE367.out | refine below_set ?_ GE368.out) | exact HB.out)⟩
    ·rw [if_neg c15] at H
     have c15b0:((t369.length:Int) == 0) = false:=beq_eq_false_iff_ne.mpr c15
     have c15b1:((t369.length:Int) != 0) = true:=bne_iff_ne.mpr c15
     have c15b2:¬ (t369 = []):=fun h_ => c15 (by rw [h_];rfl)
     obtain rfl:=Option.some.inj H
     obtain ⟨Ao19,co19,eo19⟩:=Kd.R_slice HO_7.out
     subst eo19
     go_wp2
     go_ret
     exact ⟨by first | rfl | (simp [errW_none,errW_some] <;> rfl) | (simp [*,errW_none,errW_some] <;> rfl),by repeat (first | (with_reducible first | exact HB.out | apply below_alloc | apply pw_below_drewN | apply below_drew1 | refine below_set ?_ GE367.out | refine below_set ?_ GE368.out) | exact HB.out)⟩
   ·replace c14:=Bool.eq_false_iff.mpr c14
    subst c14
    have H1:(if (t369.length:Int) = 0 then (beaconlaw08_PathsSteps.j1 kj4 a1 t369 t372 true l0_0 l0_1 a2_0 a2_1) else (if 0 < (t369.length:Int) then (if (rd t369 0) = a2_0 then (if 0 ≤ (wrap64 ((t369.length:Int) - 1)) then (if (wrap64 ((t369.length:Int) - 1)) < (t369.length:Int) then (beaconlaw08_PathsSteps.j1 kj4 a1 t369 t372 ((rd t369 (wrap64 ((t369.length:Int) - 1))) != a2_1) l0_0 l0_1 a2_0 a2_1) else (none)) else (none)) else (beaconlaw08_PathsSteps.j1 kj4 a1 t369 t372 true l0_0 l0_1 a2_0 a2_1)) else (none))) = some r:=by rw [if_neg (show ¬ (false = true) by decide)] at H;exact H
    clear H
    have H:=H1
    clear H1
    have HC20:=Aside0.mk H
    clear H
    go_upto_region 4 with (fail)
    go_cut [61] (fun v61 wc => ∃ (kq:Nat) (x61_19:Bool),v61 = .bool x61_19 ∧ Aside0 (beaconlaw08_PathsSteps.j1 kq a1 t369 t372 x61_19 l0_0 l0_1 a2_0 a2_1 = some r) ∧ Aside0 (kq ≤ kj4) ∧ Aside0 (Kd.R (Kd.int .i64) 3 wc w.heap.size (fun _ => True) v370 t369) ∧ Aside0 (wc.heap[gb367]? = some (.cells #[(.slice A0_0 l0_0.length c0_0),(.slice A0_1 l0_1.length c0_1)] 25 (0,0))) ∧ Aside0 (wc.heap[gb368]? = some (.cells #[.int .i64 a2_0,.int .i64 a2_1] 45 (0,0))) ∧ Aside0 (Below w.heap.size w wc))
    case first =>
     have H:=HC20.out
     clear HC20
     by_cases c21:(t369.length:Int) = 0
     ·rw [if_pos c21] at H
      have c21b0:((t369.length:Int) == 0) = true:=beq_iff_eq.mpr c21
      have c21b1:((t369.length:Int) != 0) = false:=bne_eq_false_iff_eq.mpr c21
      clear c21
      (first | rw [c21b0] | (simp only [i64_w,i32_w];rw [c21b0]) | skip)
      have H':=Aside0.mk H
      clear H
      try go_wp2
      have n0_:=Aside0.mk (Kd.R_drew HO_7.out)
      have n1_:=Aside0.mk (blk_drew BK367.out)
      have n2_:=Aside0.mk (blk_drew BK368.out)
      have n3_:=Aside0.mk (below_drew1 HB.out)
      clear HO_7
      clear BK367
      clear BK368
      clear HB
      have HO_7:=n0_
      have BK367:=n1_
      have BK368:=n2_
      have HB:=n3_
      clear n0_ n1_ n2_ n3_
      obtain ⟨Ao23,co23,eo23⟩:=Kd.R_slice HO_7.out
      (first | subst eo23 | (injection eo23 with f1_ f2_ f3_;have f4_:=f1_.symm;have f5_:=f3_.symm;clear f1_ f2_ f3_;subst f4_;subst f5_))
      refine start_ (n:=22) (S:=fun w' => True) (ds:=[]) #[false,false,false,false,false,false,false,false,false,false,false,false,false,false,false,false,false,false,false,false,false,false] (by kernel_rfl) rfl rfl trivial (fun hHeld => ?_);refine with_tabW beaconlaw08_PathsSteps.tab4 beaconlaw08_PathsSteps.bits4 (fun HT_ HW_ => ?_)
      generalize wc.drew = w22 at HO_7 BK367 BK368 HB hHeld ⊢
      refine pure_ (i:=0) (N:=some 40) (v:=?_) (a':=?_) #[true,false,false,false,false,false,false,false,false,false,false,false,false,false,false,false,false,false,false,false,false,false] rfl rfl (any_of HT_.out (by kernel_rfl)) (fun _ _ _ h => h) (Or.inl ⟨by rfl,?_⟩) ?_ ?_
      rotate_left
      ·intro w'
       go_simp
       with_reducible rfl
      rotate_left
      ·simp only [Act.put,List.setIfInBounds_toArray,List.set_cons_zero,List.set_cons_succ,i64_w,i32_w]
       rfl
      refine pure_ (i:=1) (N:=some 41) (v:=?_) (a':=?_) #[true,true,false,false,false,false,false,false,false,false,false,false,false,false,false,false,false,false,false,false,false,false] rfl rfl (any_of HT_.out (by kernel_rfl)) (fun _ _ _ h => h) (Or.inl ⟨by rfl,?_⟩) ?_ ?_
      rotate_left
      ·intro w'
       go_simp
       with_reducible rfl
      rotate_left
      ·simp only [Act.put,List.setIfInBounds_toArray,List.set_cons_zero,List.set_cons_succ,i64_w,i32_w]
       rfl
      refine pure_ (i:=2) (N:=some 42) (v:=?_) (a':=?_) #[true,true,true,false,false,false,false,false,false,false,false,false,false,false,false,false,false,false,false,false,false,false] rfl rfl (any_of HT_.out (by kernel_rfl)) (fun _ _ _ h => h) (Or.inl ⟨by rfl,?_⟩) ?_ ?_
      rotate_left
      ·intro w'
       go_simp
       with_reducible rfl
      rotate_left
      ·simp only [Act.put,List.setIfInBounds_toArray,List.set_cons_zero,List.set_cons_succ,i64_w,i32_w]
       rfl
      refine pure_ (i:=3) (N:=some 43) (v:=?_) (a':=?_) #[true,true,true,true,false,false,false,false,false,false,false,false,false,false,false,false,false,false,false,false,false,false] rfl rfl (any_of HT_.out (by kernel_rfl)) (fun _ _ _ h => h) (Or.inl ⟨by rfl,?_⟩) ?_ ?_
      rotate_left
      ·intro w'
       go_simp
       with_reducible rfl
      rotate_left
      ·simp only [Act.put,List.setIfInBounds_toArray,List.set_cons_zero,List.set_cons_succ,i64_w,i32_w]
       rfl
      refine pure_ (i:=4) (N:=some 44) (v:=undef) (a':=?_) #[true,true,true,true,true,false,false,false,false,false,false,false,false,false,false,false,false,false,false,false,false,false] rfl rfl (any_of HT_.out (by kernel_rfl)) (fun _ _ _ h => h) (Or.inr ⟨by rfl,rfl⟩) ?_ ?_
      rotate_left
      ·simp only [Act.put,List.setIfInBounds_toArray,List.set_cons_zero,List.set_cons_succ,i64_w,i32_w]
       rfl
      refine pure_ (i:=5) (N:=some 45) (v:=undef) (a':=?_) #[true,true,true,true,true,true,false,false,false,false,false,false,false,false,false,false,false,false,false,false,false,false] rfl rfl (any_of HT_.out (by kernel_rfl)) (fun _ _ _ h => h) (Or.inr ⟨by rfl,rfl⟩) ?_ ?_
      rotate_left
      ·simp only [Act.put,List.setIfInBounds_toArray,List.set_cons_zero,List.set_cons_succ,i64_w,i32_w]
       rfl
      refine pure_ (i:=6) (N:=some 46) (v:=undef) (a':=?_) #[true,true,true,true,true,true,true,false,false,false,false,false,false,false,false,false,false,false,false,false,false,false] rfl rfl (any_of HT_.out (by kernel_rfl)) (fun _ _ _ h => h) (Or.inr ⟨by rfl,rfl⟩) ?_ ?_
      rotate_left
      ·simp only [Act.put,List.setIfInBounds_toArray,List.set_cons_zero,List.set_cons_succ,i64_w,i32_w]
       rfl
      refine pure_ (i:=7) (N:=some 47) (v:=undef) (a':=?_) #[true,true,true,true,true,true,true,true,false,false,false,false,false,false,false,false,false,false,false,false,false,false] rfl rfl (any_of HT_.out (by kernel_rfl)) (fun _ _ _ h => h) (Or.inr ⟨by rfl,rfl⟩) ?_ ?_
      rotate_left
      ·simp only [Act.put,List.setIfInBounds_toArray,List.set_cons_zero,List.set_cons_succ,i64_w,i32_w]
       rfl
      refine pure_ (i:=8) (N:=some 48) (v:=undef) (a':=?_) #[true,true,true,true,true,true,true,true,true,false,false,false,false,false,false,false,false,false,false,false,false,false] rfl rfl (any_of HT_.out (by kernel_rfl)) (fun _ _ _ h => h) (Or.inr ⟨by rfl,rfl⟩) ?_ ?_
      rotate_left
      ·simp only [Act.put,List.setIfInBounds_toArray,List.set_cons_zero,List.set_cons_succ,i64_w,i32_w]
       rfl
      refine pure_ (i:=9) (N:=some 49) (v:=undef) (a':=?_) #[true,true,true,true,true,true,true,true,true,true,false,false,false,false,false,false,false,false,false,false,false,false] rfl rfl (any_of HT_.out (by kernel_rfl)) (fun _ _ _ h => h) (Or.inr ⟨by rfl,rfl⟩) ?_ ?_
      rotate_left
      ·simp only [Act.put,List.setIfInBounds_toArray,List.set_cons_zero,List.set_cons_succ,i64_w,i32_w]
       rfl
      refine pure_ (i:=10) (N:=some 50) (v:=?_) (a':=?_) #[true,true,true,true,true,true,true,true,true,true,true,false,false,false,false,false,false,false,false,false,false,false] rfl rfl (any_of HT_.out (by kernel_rfl)) (fun _ _ _ h => h) (Or.inl ⟨by rfl,?_⟩) ?_ ?_
      rotate_left
      ·intro w'
       go_simp
       with_reducible rfl
      rotate_left
      ·simp only [Act.put,List.setIfInBounds_toArray,List.set_cons_zero,List.set_cons_succ,i64_w,i32_w]
       rfl
      refine pure_ (i:=11) (N:=some 51) (v:=?_) (a':=?_) #[true,true,true,true,true,true,true,true,true,true,true,true,false,false,false,false,false,false,false,false,false,false] rfl rfl (any_of HT_.out (by kernel_rfl)) (fun _ _ _ h => h) (Or.inl ⟨by rfl,?_⟩) ?_ ?_
      rotate_left
      ·intro w'
       go_simp
       with_reducible rfl
      rotate_left
      ·simp only [Act.put,List.setIfInBounds_toArray,List.set_cons_zero,List.set_cons_succ,i64_w,i32_w]
       rfl
      refine pure_ (i:=12) (N:=some 52) (v:=undef) (a':=?_) #[true,true,true,true,true,true,true,true,true,true,true,true,true,false,false,false,false,false,false,false,false,false] rfl rfl (any_of HT_.out (by kernel_rfl)) (fun _ _ _ h => h) (Or.inr ⟨by rfl,rfl⟩) ?_ ?_
      rotate_left
      ·simp only [Act.put,List.setIfInBounds_toArray,List.set_cons_zero,List.set_cons_succ,i64_w,i32_w]
       rfl
      refine pure_ (i:=13) (N:=some 53) (v:=undef) (a':=?_) #[true,true,true,true,true,true,true,true,true,true,true,true,true,true,false,false,false,false,false,false,false,false] rfl rfl (any_of HT_.out (by kernel_rfl)) (fun _ _ _ h => h) (Or.inr ⟨by rfl,rfl⟩) ?_ ?_
      rotate_left
      ·simp only [Act.put,List.setIfInBounds_toArray,List.set_cons_zero,List.set_cons_succ,i64_w,i32_w]
       rfl
      refine pure_ (i:=14) (N:=some 54) (v:=undef) (a':=?_) #[true,true,true,true,true,true,true,true,true,true,true,true,true,true,true,false,false,false,false,false,false,false] rfl rfl (any_of HT_.out (by kernel_rfl)) (fun _ _ _ h => h) (Or.inr ⟨by rfl,rfl⟩) ?_ ?_
      rotate_left
      ·simp only [Act.put,List.setIfInBounds_toArray,List.set_cons_zero,List.set_cons_succ,i64_w,i32_w]
       rfl
      refine pure_ (i:=15) (N:=some 55) (v:=undef) (a':=?_) #[true,true,true,true,true,true,true,true,true,true,true,true,true,true,true,true,false,false,false,false,false,false] rfl rfl (any_of HT_.out (by kernel_rfl)) (fun _ _ _ h => h) (Or.inr ⟨by rfl,rfl⟩) ?_ ?_
      rotate_left
      ·simp only [Act.put,List.setIfInBounds_toArray,List.set_cons_zero,List.set_cons_succ,i64_w,i32_w]
       rfl
      refine pure_ (i:=16) (N:=some 56) (v:=undef) (a':=?_) #[true,true,true,true,true,true,true,true,true,true,true,true,true,true,true,true,true,false,false,false,false,false] rfl rfl (any_of HT_.out (by kernel_rfl)) (fun _ _ _ h => h) (Or.inr ⟨by rfl,rfl⟩) ?_ ?_
      rotate_left
      ·simp only [Act.put,List.setIfInBounds_toArray,List.set_cons_zero,List.set_cons_succ,i64_w,i32_w]
       rfl
      refine pure_ (i:=17) (N:=some 57) (v:=undef) (a':=?_) #[true,true,true,true,true,true,true,true,true,true,true,true,true,true,true,true,true,true,false,false,false,false] rfl rfl (any_of HT_.out (by kernel_rfl)) (fun _ _ _ h => h) (Or.inr ⟨by rfl,rfl⟩) ?_ ?_
      rotate_left
      ·simp only [Act.put,List.setIfInBounds_toArray,List.set_cons_zero,List.set_cons_succ,i64_w,i32_w]
       rfl
      refine pure_ (i:=18) (N:=some 58) (v:=undef) (a':=?_) #[true,true,true,true,true,true,true,true,true,true,true,true,true,true,true,true,true,true,true,false,false,false] rfl rfl (any_of HT_.out (by kernel_rfl)) (fun _ _ _ h => h) (Or.inr ⟨by rfl,rfl⟩) ?_ ?_
      rotate_left
      ·simp only [Act.put,List.setIfInBounds_toArray,List.set_cons_zero,List.set_cons_succ,i64_w,i32_w]
       rfl
      refine pure_ (i:=19) (N:=some 59) (v:=undef) (a':=?_) #[true,true,true,true,true,true,true,true,true,true,true,true,true,true,true,true,true,true,true,true,false,false] rfl rfl (any_of HT_.out (by kernel_rfl)) (fun _ _ _ h => h) (Or.inr ⟨by rfl,rfl⟩) ?_ ?_
      rotate_left
      ·simp only [Act.put,List.setIfInBounds_toArray,List.set_cons_zero,List.set_cons_succ,i64_w,i32_w]
       rfl
      refine pure_ (i:=20) (N:=some 60) (v:=undef) (a':=?_) #[true,true,true,true,true,true,true,true,true,true,true,true,true,true,true,true,true,true,true,true,true,false] rfl rfl (any_of HT_.out (by kernel_rfl)) (fun _ _ _ h => h) (Or.inr ⟨by rfl,rfl⟩) ?_ ?_
      rotate_left
      ·simp only [Act.put,List.setIfInBounds_toArray,List.set_cons_zero,List.set_cons_succ,i64_w,i32_w]
       rfl
      refine pure_ (i:=21) (N:=some 61) (v:=?_) (a':=?_) #[true,true,true,true,true,true,true,true,true,true,true,true,true,true,true,true,true,true,true,true,true,true] rfl rfl (any_of HT_.out (by kernel_rfl)) (fun _ _ _ h => h) (Or.inl ⟨by rfl,?_⟩) ?_ ?_
      rotate_left
      ·intro w'
       go_simp
       with_reducible rfl
      rotate_left
      ·simp only [Act.put,List.setIfInBounds_toArray,List.set_cons_zero,List.set_cons_succ,i64_w,i32_w]
       rfl
      refine done_ (done_of HT_.out (by kernel_rfl)) ?_
      try go_wp2
      go_meet
      case rel => exact ⟨_,(true),(by first | rfl | (simp;done) | (simp [*];done)),H',⟨by have:=HJ4.out;first | omega | exact Nat.le_refl _⟩,⟨by (with_reducible repeat (first | apply Kd.R_alloc | apply Kd.R_drewN | apply Kd.R_drew));exact HO_7.out⟩,⟨by (with_reducible repeat (first | refine blk_drewN ?_ _ | refine blk_drew ?_ | refine blk_alloc ?_ _));exact BK367.out⟩,⟨by (with_reducible repeat (first | refine blk_drewN ?_ _ | refine blk_drew ?_ | refine blk_alloc ?_ _));exact BK368.out⟩,⟨by repeat (first | (with_reducible first | exact HB.out | apply below_alloc | apply pw_below_drewN | apply below_drew1 | refine below_set ?_ GE367.out | refine below_set ?_ GE368.out) | exact HB.out)⟩⟩
     ·rw [if_neg c21] at H
      have c21b0:((t369.length:Int) == 0) = false:=beq_eq_false_iff_ne.mpr c21
      have c21b1:((t369.length:Int) != 0) = true:=bne_iff_ne.mpr c21
      have c21b2:¬ (t369 = []):=fun h_ => c21 (by rw [h_];rfl)
      (first | rw [c21b0] | (simp only [i64_w,i32_w];rw [c21b0]) | skip)
      by_cases c24:0 < (t369.length:Int)
      ·rw [if_pos c24] at H
       have c24b0:decide (0 < (t369.length:Int)) = true:=decide_eq_true c24
       have c24b1:decide (0 < t369.length) = true:=decide_eq_true (by omega)
       clear c24
       by_cases c25:(rd t369 0) = a2_0
       ·rw [if_pos c25] at H
        have c25b0:((rd t369 0) == a2_0) = true:=beq_iff_eq.mpr c25
        have c25b1:((rd t369 0) != a2_0) = false:=bne_eq_false_iff_eq.mpr c25
        clear c25
        obtain ⟨ji26,hji26⟩:∃ j_:Int,(wrap64 ((t369.length:Int) - 1)) = j_:=⟨_,rfl⟩
        replace H:(if 0 ≤ (ji26) then (if (ji26) < (t369.length:Int) then (beaconlaw08_PathsSteps.j1 kj4 a1 t369 t372 ((rd t369 (ji26)) != a2_1) l0_0 l0_1 a2_0 a2_1) else (none)) else (none)) = some r:=by first | (rw [hji26] at H;exact H) | (simp only [hji26] at H ⊢;exact H)
        have hji26w:(IntKind.i64.wrap ((t369.length:Int) - 1)) = ji26:=(i64_w _).trans hji26
        by_cases c27:0 ≤ (ji26)
        ·rw [if_pos c27] at H
         have c27b0:decide (0 ≤ (ji26)) = true:=decide_eq_true c27
         clear c27
         by_cases c28:(ji26) < (t369.length:Int)
         ·rw [if_pos c28] at H
          have c28b0:decide ((ji26) < (t369.length:Int)) = true:=decide_eq_true c28
          clear c28
          have H':=Aside0.mk H
          clear H
          try go_wp2
          have n0_:=Aside0.mk (Kd.R_drew HO_7.out)
          have n1_:=Aside0.mk (blk_drew BK367.out)
          have n2_:=Aside0.mk (blk_drew BK368.out)
          have n3_:=Aside0.mk (below_drew1 HB.out)
          clear HO_7
          clear BK367
          clear BK368
          clear HB
          have HO_7:=n0_
          have BK367:=n1_
          have BK368:=n2_
          have HB:=n3_
          clear n0_ n1_ n2_ n3_
          obtain ⟨Ao30,co30,eo30⟩:=Kd.R_slice HO_7.out
          (first | subst eo30 | (injection eo30 with f1_ f2_ f3_;have f4_:=f1_.symm;have f5_:=f3_.symm;clear f1_ f2_ f3_;subst f4_;subst f5_))
          have p376:0 ≤ (0:Int):=(by omega)
          have q376:0 < (t369.length:Int):=of_decide_eq_true (by first | (with_reducible assumption) | assumption)
          obtain ⟨ad376,e376,hx376_0⟩:=Kd.at_int (Kd.R_reads' HO_7.out).2.2 0 p376 q376
          cases e376
          have qi376:(0 < t369.length) = True:=eq_true (by omega)
          (try rw [show ((0:Int)).toNat = 0 from rfl] at hx376_0)
          (try rw [Addr.add_zero'] at hx376_0)
          replace p376:=eq_true p376
          replace q376:=eq_true q376
          have p377:0 ≤ ((ji26):Int):=of_decide_eq_true (by first | (with_reducible assumption) | assumption)
          have q377:(ji26) < (t369.length:Int):=of_decide_eq_true (by first | (with_reducible assumption) | assumption)
          obtain ⟨ad377,e377,hx377_0⟩:=Kd.at_int (Kd.R_reads' HO_7.out).2.2 (ji26) p377 q377
          obtain rfl:ad376 = ad377:=(by injection e377)
          replace p377:=eq_true p377
          replace q377:=eq_true q377
          refine start_ (n:=22) (S:=fun w' => w'.cell? ⟨gb368,0,none⟩ = some (.int .i64 a2_0) ∧ w'.cell? ⟨gb368,1,none⟩ = some (.int .i64 a2_1) ∧ w'.cell? ad376 = some (.int .i64 (rd t369 0)) ∧ w'.cell? (ad376.add ((ji26)).toNat) = some (.int .i64 (rd t369 (ji26)))) (ds:=[]) #[false,false,false,false,false,false,false,false,false,false,false,false,false,false,false,false,false,false,false,false,false,false] (by kernel_rfl) rfl rfl ⟨(blk_cell BK368.out 0).trans rfl,(blk_cell BK368.out 1).trans rfl,hx376_0,hx377_0⟩ (fun hHeld => ?_);refine with_tabW beaconlaw08_PathsSteps.tab4 beaconlaw08_PathsSteps.bits4 (fun HT_ HW_ => ?_)
          generalize wc.drew = w29 at HO_7 BK367 BK368 HB hx376_0 hx377_0 hHeld ⊢
          refine pure_ (i:=0) (N:=some 40) (v:=?_) (a':=?_) #[true,false,false,false,false,false,false,false,false,false,false,false,false,false,false,false,false,false,false,false,false,false] rfl rfl (any_of HT_.out (by kernel_rfl)) (fun _ _ _ h => h) (Or.inl ⟨by rfl,?_⟩) ?_ ?_
          rotate_left
          ·intro w'
           go_simp
           with_reducible rfl
          rotate_left
          ·simp only [Act.put,List.setIfInBounds_toArray,List.set_cons_zero,List.set_cons_succ,i64_w,i32_w]
           rfl
          refine pure_ (i:=1) (N:=some 41) (v:=?_) (a':=?_) #[true,true,false,false,false,false,false,false,false,false,false,false,false,false,false,false,false,false,false,false,false,false] rfl rfl (any_of HT_.out (by kernel_rfl)) (fun _ _ _ h => h) (Or.inl ⟨by rfl,?_⟩) ?_ ?_
          rotate_left
          ·intro w'
           go_simp
           with_reducible rfl
          rotate_left
          ·simp only [Act.put,List.setIfInBounds_toArray,List.set_cons_zero,List.set_cons_succ,i64_w,i32_w]
           rfl
          refine pure_ (i:=2) (N:=some 42) (v:=?_) (a':=?_) #[true,true,true,false,false,false,false,false,false,false,false,false,false,false,false,false,false,false,false,false,false,false] rfl rfl (any_of HT_.out (by kernel_rfl)) (fun _ _ _ h => h) (Or.inl ⟨by rfl,?_⟩) ?_ ?_
          rotate_left
          ·intro w'
           go_simp
           with_reducible rfl
          rotate_left
          ·simp only [Act.put,List.setIfInBounds_toArray,List.set_cons_zero,List.set_cons_succ,i64_w,i32_w]
           rfl
          refine pure_ (i:=3) (N:=some 43) (v:=?_) (a':=?_) #[true,true,true,true,false,false,false,false,false,false,false,false,false,false,false,false,false,false,false,false,false,false] rfl rfl (any_of HT_.out (by kernel_rfl)) (fun _ _ _ h => h) (Or.inl ⟨by rfl,?_⟩) ?_ ?_
          rotate_left
          ·intro w'
           go_simp
           with_reducible rfl
          rotate_left
          ·simp only [Act.put,List.setIfInBounds_toArray,List.set_cons_zero,List.set_cons_succ,i64_w,i32_w]
           rfl
          refine pure_ (i:=4) (N:=some 44) (v:=?_) (a':=?_) #[true,true,true,true,true,false,false,false,false,false,false,false,false,false,false,false,false,false,false,false,false,false] rfl rfl (any_of HT_.out (by kernel_rfl)) (fun _ _ _ h => h) (Or.inl ⟨by rfl,?_⟩) ?_ ?_
          rotate_left
          ·intro w'
           go_simp
           with_reducible rfl
          rotate_left
          ·simp only [Act.put,List.setIfInBounds_toArray,List.set_cons_zero,List.set_cons_succ,i64_w,i32_w]
           rfl
          refine pure_ (i:=5) (N:=some 45) (v:=?_) (a':=?_) #[true,true,true,true,true,true,false,false,false,false,false,false,false,false,false,false,false,false,false,false,false,false] rfl rfl (any_of HT_.out (by kernel_rfl)) (fun _ _ _ h => h) (Or.inl ⟨by rfl,?_⟩) ?_ ?_
          rotate_left
          ·intro w'
           go_simp
           with_reducible rfl
          rotate_left
          ·simp only [Act.put,List.setIfInBounds_toArray,List.set_cons_zero,List.set_cons_succ,i64_w,i32_w]
           rfl
          refine pure_ (i:=7) (N:=some 47) (v:=?_) (a':=?_) #[true,true,true,true,true,true,false,true,false,false,false,false,false,false,false,false,false,false,false,false,false,false] rfl rfl (any_of HT_.out (by kernel_rfl)) (fun _ _ _ h => h) (Or.inl ⟨by rfl,?_⟩) ?_ ?_
          rotate_left
          ·intro w'
           go_simp
           with_reducible rfl
          rotate_left
          ·simp only [Act.put,List.setIfInBounds_toArray,List.set_cons_zero,List.set_cons_succ,i64_w,i32_w]
           rfl
          refine take_ (i:=6) (N:=some 46) (v:=?_) (a':=?_) #[true,true,true,true,true,true,true,true,false,false,false,false,false,false,false,false,false,false,false,false,false,false] rfl rfl (take_ofW HT_.out HW_.out (by kernel_rfl)) (fun _ _ _ h => h) (Or.inl ⟨by rfl,?_⟩) hHeld ?_ ?_
          rotate_left
          ·rintro w' ⟨s0,s1,s2,s3⟩
           go_simp
           with_reducible rfl
          rotate_left
          ·simp only [Act.put,List.setIfInBounds_toArray,List.set_cons_zero,List.set_cons_succ,i64_w,i32_w]
           rfl
          refine take_ (i:=8) (N:=some 48) (v:=?_) (a':=?_) #[true,true,true,true,true,true,true,true,true,false,false,false,false,false,false,false,false,false,false,false,false,false] rfl rfl (take_ofW HT_.out HW_.out (by kernel_rfl)) (fun _ _ _ h => h) (Or.inl ⟨by rfl,?_⟩) hHeld ?_ ?_
          rotate_left
          ·rintro w' ⟨s0,s1,s2,s3⟩
           go_simp
           with_reducible rfl
          rotate_left
          ·simp only [Act.put,List.setIfInBounds_toArray,List.set_cons_zero,List.set_cons_succ,i64_w,i32_w]
           rfl
          refine pure_ (i:=9) (N:=some 49) (v:=?_) (a':=?_) #[true,true,true,true,true,true,true,true,true,true,false,false,false,false,false,false,false,false,false,false,false,false] rfl rfl (any_of HT_.out (by kernel_rfl)) (fun _ _ _ h => h) (Or.inl ⟨by rfl,?_⟩) ?_ ?_
          rotate_left
          ·intro w'
           go_simp
           with_reducible rfl
          rotate_left
          ·simp only [Act.put,List.setIfInBounds_toArray,List.set_cons_zero,List.set_cons_succ,i64_w,i32_w]
           rfl
          refine pure_ (i:=10) (N:=some 50) (v:=?_) (a':=?_) #[true,true,true,true,true,true,true,true,true,true,true,false,false,false,false,false,false,false,false,false,false,false] rfl rfl (any_of HT_.out (by kernel_rfl)) (fun _ _ _ h => h) (Or.inl ⟨by rfl,?_⟩) ?_ ?_
          rotate_left
          ·intro w'
           go_simp
           with_reducible rfl
          rotate_left
          ·simp only [Act.put,List.setIfInBounds_toArray,List.set_cons_zero,List.set_cons_succ,i64_w,i32_w]
           rfl
          refine pure_ (i:=11) (N:=some 51) (v:=?_) (a':=?_) #[true,true,true,true,true,true,true,true,true,true,true,true,false,false,false,false,false,false,false,false,false,false] rfl rfl (any_of HT_.out (by kernel_rfl)) (fun _ _ _ h => h) (Or.inl ⟨by rfl,?_⟩) ?_ ?_
          rotate_left
          ·intro w'
           go_simp
           with_reducible rfl
          rotate_left
          ·simp only [Act.put,List.setIfInBounds_toArray,List.set_cons_zero,List.set_cons_succ,i64_w,i32_w]
           rfl
          refine pure_ (i:=12) (N:=some 52) (v:=?_) (a':=?_) #[true,true,true,true,true,true,true,true,true,true,true,true,true,false,false,false,false,false,false,false,false,false] rfl rfl (any_of HT_.out (by kernel_rfl)) (fun _ _ _ h => h) (Or.inl ⟨by rfl,?_⟩) ?_ ?_
          rotate_left
          ·intro w'
           go_simp
           with_reducible rfl
          rotate_left
          ·simp only [Act.put,List.setIfInBounds_toArray,List.set_cons_zero,List.set_cons_succ,i64_w,i32_w]
           rfl
          refine pure_ (i:=13) (N:=some 53) (v:=?_) (a':=?_) #[true,true,true,true,true,true,true,true,true,true,true,true,true,true,false,false,false,false,false,false,false,false] rfl rfl (any_of HT_.out (by kernel_rfl)) (fun _ _ _ h => h) (Or.inl ⟨by rfl,?_⟩) ?_ ?_
          rotate_left
          ·intro w'
           go_simp
           with_reducible rfl
          rotate_left
          ·simp only [Act.put,List.setIfInBounds_toArray,List.set_cons_zero,List.set_cons_succ,i64_w,i32_w]
           rfl
          refine pure_ (i:=14) (N:=some 54) (v:=?_) (a':=?_) #[true,true,true,true,true,true,true,true,true,true,true,true,true,true,true,false,false,false,false,false,false,false] rfl rfl (any_of HT_.out (by kernel_rfl)) (fun _ _ _ h => h) (Or.inl ⟨by rfl,?_⟩) ?_ ?_
          rotate_left
          ·intro w'
           go_simp
           with_reducible rfl
          rotate_left
          ·simp only [Act.put,List.setIfInBounds_toArray,List.set_cons_zero,List.set_cons_succ,i64_w,i32_w]
           rfl
          refine pure_ (i:=15) (N:=some 55) (v:=?_) (a':=?_) #[true,true,true,true,true,true,true,true,true,true,true,true,true,true,true,true,false,false,false,false,false,false] rfl rfl (any_of HT_.out (by kernel_rfl)) (fun _ _ _ h => h) (Or.inl ⟨by rfl,?_⟩) ?_ ?_
          rotate_left
          ·intro w'
           go_simp
           with_reducible rfl
          rotate_left
          ·simp only [Act.put,List.setIfInBounds_toArray,List.set_cons_zero,List.set_cons_succ,i64_w,i32_w]
           rfl
          refine pure_ (i:=16) (N:=some 56) (v:=?_) (a':=?_) #[true,true,true,true,true,true,true,true,true,true,true,true,true,true,true,true,true,false,false,false,false,false] rfl rfl (any_of HT_.out (by kernel_rfl)) (fun _ _ _ h => h) (Or.inl ⟨by rfl,?_⟩) ?_ ?_
          rotate_left
          ·intro w'
           go_simp
           with_reducible rfl
          rotate_left
          ·simp only [Act.put,List.setIfInBounds_toArray,List.set_cons_zero,List.set_cons_succ,i64_w,i32_w]
           rfl
          refine pure_ (i:=18) (N:=some 58) (v:=?_) (a':=?_) #[true,true,true,true,true,true,true,true,true,true,true,true,true,true,true,true,true,false,true,false,false,false] rfl rfl (any_of HT_.out (by kernel_rfl)) (fun _ _ _ h => h) (Or.inl ⟨by rfl,?_⟩) ?_ ?_
          rotate_left
          ·intro w'
           go_simp
           with_reducible rfl
          rotate_left
          ·simp only [Act.put,List.setIfInBounds_toArray,List.set_cons_zero,List.set_cons_succ,i64_w,i32_w]
           rfl
          refine take_ (i:=17) (N:=some 57) (v:=?_) (a':=?_) #[true,true,true,true,true,true,true,true,true,true,true,true,true,true,true,true,true,true,true,false,false,false] rfl rfl (take_ofW HT_.out HW_.out (by kernel_rfl)) (fun _ _ _ h => h) (Or.inl ⟨by rfl,?_⟩) hHeld ?_ ?_
          rotate_left
          ·rintro w' ⟨s0,s1,s2,s3⟩
           go_simp
           with_reducible rfl
          rotate_left
          ·simp only [Act.put,List.setIfInBounds_toArray,List.set_cons_zero,List.set_cons_succ,i64_w,i32_w]
           rfl
          refine take_ (i:=19) (N:=some 59) (v:=?_) (a':=?_) #[true,true,true,true,true,true,true,true,true,true,true,true,true,true,true,true,true,true,true,true,false,false] rfl rfl (take_ofW HT_.out HW_.out (by kernel_rfl)) (fun _ _ _ h => h) (Or.inl ⟨by rfl,?_⟩) hHeld ?_ ?_
          rotate_left
          ·rintro w' ⟨s0,s1,s2,s3⟩
           go_simp
           with_reducible rfl
          rotate_left
          ·simp only [Act.put,List.setIfInBounds_toArray,List.set_cons_zero,List.set_cons_succ,i64_w,i32_w]
           rfl
          refine pure_ (i:=20) (N:=some 60) (v:=?_) (a':=?_) #[true,true,true,true,true,true,true,true,true,true,true,true,true,true,true,true,true,true,true,true,true,false] rfl rfl (any_of HT_.out (by kernel_rfl)) (fun _ _ _ h => h) (Or.inl ⟨by rfl,?_⟩) ?_ ?_
          rotate_left
          ·intro w'
           go_simp
           with_reducible rfl
          rotate_left
          ·simp only [Act.put,List.setIfInBounds_toArray,List.set_cons_zero,List.set_cons_succ,i64_w,i32_w]
           rfl
          refine pure_ (i:=21) (N:=some 61) (v:=?_) (a':=?_) #[true,true,true,true,true,true,true,true,true,true,true,true,true,true,true,true,true,true,true,true,true,true] rfl rfl (any_of HT_.out (by kernel_rfl)) (fun _ _ _ h => h) (Or.inl ⟨by rfl,?_⟩) ?_ ?_
          rotate_left
          ·intro w'
           go_simp
           with_reducible rfl
          rotate_left
          ·simp only [Act.put,List.setIfInBounds_toArray,List.set_cons_zero,List.set_cons_succ,i64_w,i32_w]
           rfl
          refine done_ (done_of HT_.out (by kernel_rfl)) ?_
          try go_wp2
          go_meet
          case rel => exact ⟨_,(((rd t369 (ji26)) != a2_1)),(by first | rfl | (simp;done) | (simp only [← hji26] <;> (first | rfl | simp)) | (simp [*];done)),H',⟨by have:=HJ4.out;first | omega | exact Nat.le_refl _⟩,⟨by (with_reducible repeat (first | apply Kd.R_alloc | apply Kd.R_drewN | apply Kd.R_drew));exact HO_7.out⟩,⟨by (with_reducible repeat (first | refine blk_drewN ?_ _ | refine blk_drew ?_ | refine blk_alloc ?_ _));exact BK367.out⟩,⟨by (with_reducible repeat (first | refine blk_drewN ?_ _ | refine blk_drew ?_ | refine blk_alloc ?_ _));exact BK368.out⟩,⟨by repeat (first | (with_reducible first | exact HB.out | apply below_alloc | apply pw_below_drewN | apply below_drew1 | refine below_set ?_ GE367.out | refine below_set ?_ GE368.out) | exact HB.out)⟩⟩
         ·rw [if_neg c28] at H
          exact absurd H (by simp)
        ·rw [if_neg c27] at H
         exact absurd H (by simp)
       ·rw [if_neg c25] at H
        have c25b0:((rd t369 0) == a2_0) = false:=beq_eq_false_iff_ne.mpr c25
        have c25b1:((rd t369 0) != a2_0) = true:=bne_iff_ne.mpr c25
        have H':=Aside0.mk H
        clear H
        try go_wp2
        have n0_:=Aside0.mk (Kd.R_drew HO_7.out)
        have n1_:=Aside0.mk (blk_drew BK367.out)
        have n2_:=Aside0.mk (blk_drew BK368.out)
        have n3_:=Aside0.mk (below_drew1 HB.out)
        clear HO_7
        clear BK367
        clear BK368
        clear HB
        have HO_7:=n0_
        have BK367:=n1_
        have BK368:=n2_
        have HB:=n3_
        clear n0_ n1_ n2_ n3_
        obtain ⟨Ao32,co32,eo32⟩:=Kd.R_slice HO_7.out
        (first | subst eo32 | (injection eo32 with f1_ f2_ f3_;have f4_:=f1_.symm;have f5_:=f3_.symm;clear f1_ f2_ f3_;subst f4_;subst f5_))
        have p376:0 ≤ (0:Int):=(by omega)
        have q376:0 < (t369.length:Int):=of_decide_eq_true (by first | (with_reducible assumption) | assumption)
        obtain ⟨ad376,e376,hx376_0⟩:=Kd.at_int (Kd.R_reads' HO_7.out).2.2 0 p376 q376
        cases e376
        have qi376:(0 < t369.length) = True:=eq_true (by omega)
        (try rw [show ((0:Int)).toNat = 0 from rfl] at hx376_0)
        (try rw [Addr.add_zero'] at hx376_0)
        replace p376:=eq_true p376
        replace q376:=eq_true q376
        refine start_ (n:=22) (S:=fun w' => w'.cell? ⟨gb368,0,none⟩ = some (.int .i64 a2_0) ∧ w'.cell? ⟨gb368,1,none⟩ = some (.int .i64 a2_1) ∧ w'.cell? ad376 = some (.int .i64 (rd t369 0))) (ds:=[]) #[false,false,false,false,false,false,false,false,false,false,false,false,false,false,false,false,false,false,false,false,false,false] (by kernel_rfl) rfl rfl ⟨(blk_cell BK368.out 0).trans rfl,(blk_cell BK368.out 1).trans rfl,hx376_0⟩ (fun hHeld => ?_);refine with_tabW beaconlaw08_PathsSteps.tab4 beaconlaw08_PathsSteps.bits4 (fun HT_ HW_ => ?_)
        generalize wc.drew = w31 at HO_7 BK367 BK368 HB hx376_0 hHeld ⊢
        refine pure_ (i:=0) (N:=some 40) (v:=?_) (a':=?_) #[true,false,false,false,false,false,false,false,false,false,false,false,false,false,false,false,false,false,false,false,false,false] rfl rfl (any_of HT_.out (by kernel_rfl)) (fun _ _ _ h => h) (Or.inl ⟨by rfl,?_⟩) ?_ ?_
        rotate_left
        ·intro w'
         go_simp
         with_reducible rfl
        rotate_left
        ·simp only [Act.put,List.setIfInBounds_toArray,List.set_cons_zero,List.set_cons_succ,i64_w,i32_w]
         rfl
        refine pure_ (i:=1) (N:=some 41) (v:=?_) (a':=?_) #[true,true,false,false,false,false,false,false,false,false,false,false,false,false,false,false,false,false,false,false,false,false] rfl rfl (any_of HT_.out (by kernel_rfl)) (fun _ _ _ h => h) (Or.inl ⟨by rfl,?_⟩) ?_ ?_
        rotate_left
        ·intro w'
         go_simp
         with_reducible rfl
        rotate_left
        ·simp only [Act.put,List.setIfInBounds_toArray,List.set_cons_zero,List.set_cons_succ,i64_w,i32_w]
         rfl
        refine pure_ (i:=2) (N:=some 42) (v:=?_) (a':=?_) #[true,true,true,false,false,false,false,false,false,false,false,false,false,false,false,false,false,false,false,false,false,false] rfl rfl (any_of HT_.out (by kernel_rfl)) (fun _ _ _ h => h) (Or.inl ⟨by rfl,?_⟩) ?_ ?_
        rotate_left
        ·intro w'
         go_simp
         with_reducible rfl
        rotate_left
        ·simp only [Act.put,List.setIfInBounds_toArray,List.set_cons_zero,List.set_cons_succ,i64_w,i32_w]
         rfl
        refine pure_ (i:=3) (N:=some 43) (v:=?_) (a':=?_) #[true,true,true,true,false,false,false,false,false,false,false,false,false,false,false,false,false,false,false,false,false,false] rfl rfl (any_of HT_.out (by kernel_rfl)) (fun _ _ _ h => h) (Or.inl ⟨by rfl,?_⟩) ?_ ?_
        rotate_left
        ·intro w'
         go_simp
         with_reducible rfl
        rotate_left
        ·simp only [Act.put,List.setIfInBounds_toArray,List.set_cons_zero,List.set_cons_succ,i64_w,i32_w]
         rfl
        refine pure_ (i:=4) (N:=some 44) (v:=?_) (a':=?_) #[true,true,true,true,true,false,false,false,false,false,false,false,false,false,false,false,false,false,false,false,false,false] rfl rfl (any_of HT_.out (by kernel_rfl)) (fun _ _ _ h => h) (Or.inl ⟨by rfl,?_⟩) ?_ ?_
        rotate_left
        ·intro w'
         go_simp
         with_reducible rfl
        rotate_left
        ·simp only [Act.put,List.setIfInBounds_toArray,List.set_cons_zero,List.set_cons_succ,i64_w,i32_w]
         rfl
        refine pure_ (i:=5) (N:=some 45) (v:=?_) (a':=?_) #[true,true,true,true,true,true,false,false,false,false,false,false,false,false,false,false,false,false,false,false,false,false] rfl rfl (any_of HT_.out (by kernel_rfl)) (fun _ _ _ h => h) (Or.inl ⟨by rfl,?_⟩) ?_ ?_
        rotate_left
        ·intro w'
         go_simp
         with_reducible rfl
        rotate_left
        ·simp only [Act.put,List.setIfInBounds_toArray,List.set_cons_zero,List.set_cons_succ,i64_w,i32_w]
         rfl
        refine pure_ (i:=7) (N:=some 47) (v:=?_) (a':=?_) #[true,true,true,true,true,true,false,true,false,false,false,false,false,false,false,false,false,false,false,false,false,false] rfl rfl (any_of HT_.out (by kernel_rfl)) (fun _ _ _ h => h) (Or.inl ⟨by rfl,?_⟩) ?_ ?_
        rotate_left
        ·intro w'
         go_simp
         with_reducible rfl
        rotate_left
        ·simp only [Act.put,List.setIfInBounds_toArray,List.set_cons_zero,List.set_cons_succ,i64_w,i32_w]
         rfl
        refine take_ (i:=6) (N:=some 46) (v:=?_) (a':=?_) #[true,true,true,true,true,true,true,true,false,false,false,false,false,false,false,false,false,false,false,false,false,false] rfl rfl (take_ofW HT_.out HW_.out (by kernel_rfl)) (fun _ _ _ h => h) (Or.inl ⟨by rfl,?_⟩) hHeld ?_ ?_
        rotate_left
        ·rintro w' ⟨s0,s1,s2⟩
         go_simp
         with_reducible rfl
        rotate_left
        ·simp only [Act.put,List.setIfInBounds_toArray,List.set_cons_zero,List.set_cons_succ,i64_w,i32_w]
         rfl
        refine take_ (i:=8) (N:=some 48) (v:=?_) (a':=?_) #[true,true,true,true,true,true,true,true,true,false,false,false,false,false,false,false,false,false,false,false,false,false] rfl rfl (take_ofW HT_.out HW_.out (by kernel_rfl)) (fun _ _ _ h => h) (Or.inl ⟨by rfl,?_⟩) hHeld ?_ ?_
        rotate_left
        ·rintro w' ⟨s0,s1,s2⟩
         go_simp
         with_reducible rfl
        rotate_left
        ·simp only [Act.put,List.setIfInBounds_toArray,List.set_cons_zero,List.set_cons_succ,i64_w,i32_w]
         rfl
        refine pure_ (i:=9) (N:=some 49) (v:=?_) (a':=?_) #[true,true,true,true,true,true,true,true,true,true,false,false,false,false,false,false,false,false,false,false,false,false] rfl rfl (any_of HT_.out (by kernel_rfl)) (fun _ _ _ h => h) (Or.inl ⟨by rfl,?_⟩) ?_ ?_
        rotate_left
        ·intro w'
         go_simp
         with_reducible rfl
        rotate_left
        ·simp only [Act.put,List.setIfInBounds_toArray,List.set_cons_zero,List.set_cons_succ,i64_w,i32_w]
         rfl
        refine pure_ (i:=10) (N:=some 50) (v:=?_) (a':=?_) #[true,true,true,true,true,true,true,true,true,true,true,false,false,false,false,false,false,false,false,false,false,false] rfl rfl (any_of HT_.out (by kernel_rfl)) (fun _ _ _ h => h) (Or.inl ⟨by rfl,?_⟩) ?_ ?_
        rotate_left
        ·intro w'
         go_simp
         with_reducible rfl
        rotate_left
        ·simp only [Act.put,List.setIfInBounds_toArray,List.set_cons_zero,List.set_cons_succ,i64_w,i32_w]
         rfl
        refine pure_ (i:=11) (N:=some 51) (v:=?_) (a':=?_) #[true,true,true,true,true,true,true,true,true,true,true,true,false,false,false,false,false,false,false,false,false,false] rfl rfl (any_of HT_.out (by kernel_rfl)) (fun _ _ _ h => h) (Or.inl ⟨by rfl,?_⟩) ?_ ?_
        rotate_left
        ·intro w'
         go_simp
         with_reducible rfl
        rotate_left
        ·simp only [Act.put,List.setIfInBounds_toArray,List.set_cons_zero,List.set_cons_succ,i64_w,i32_w]
         rfl
        refine pure_ (i:=12) (N:=some 52) (v:=undef) (a':=?_) #[true,true,true,true,true,true,true,true,true,true,true,true,true,false,false,false,false,false,false,false,false,false] rfl rfl (any_of HT_.out (by kernel_rfl)) (fun _ _ _ h => h) (Or.inr ⟨by rfl,rfl⟩) ?_ ?_
        rotate_left
        ·simp only [Act.put,List.setIfInBounds_toArray,List.set_cons_zero,List.set_cons_succ,i64_w,i32_w]
         rfl
        refine pure_ (i:=13) (N:=some 53) (v:=undef) (a':=?_) #[true,true,true,true,true,true,true,true,true,true,true,true,true,true,false,false,false,false,false,false,false,false] rfl rfl (any_of HT_.out (by kernel_rfl)) (fun _ _ _ h => h) (Or.inr ⟨by rfl,rfl⟩) ?_ ?_
        rotate_left
        ·simp only [Act.put,List.setIfInBounds_toArray,List.set_cons_zero,List.set_cons_succ,i64_w,i32_w]
         rfl
        refine pure_ (i:=14) (N:=some 54) (v:=undef) (a':=?_) #[true,true,true,true,true,true,true,true,true,true,true,true,true,true,true,false,false,false,false,false,false,false] rfl rfl (any_of HT_.out (by kernel_rfl)) (fun _ _ _ h => h) (Or.inr ⟨by rfl,rfl⟩) ?_ ?_
        rotate_left
        ·simp only [Act.put,List.setIfInBounds_toArray,List.set_cons_zero,List.set_cons_succ,i64_w,i32_w]
         rfl
        refine pure_ (i:=15) (N:=some 55) (v:=undef) (a':=?_) #[true,true,true,true,true,true,true,true,true,true,true,true,true,true,true,true,false,false,false,false,false,false] rfl rfl (any_of HT_.out (by kernel_rfl)) (fun _ _ _ h => h) (Or.inr ⟨by rfl,rfl⟩) ?_ ?_
        rotate_left
        ·simp only [Act.put,List.setIfInBounds_toArray,List.set_cons_zero,List.set_cons_succ,i64_w,i32_w]
         rfl
        refine pure_ (i:=16) (N:=some 56) (v:=undef) (a':=?_) #[true,true,true,true,true,true,true,true,true,true,true,true,true,true,true,true,true,false,false,false,false,false] rfl rfl (any_of HT_.out (by kernel_rfl)) (fun _ _ _ h => h) (Or.inr ⟨by rfl,rfl⟩) ?_ ?_
        rotate_left
        ·simp only [Act.put,List.setIfInBounds_toArray,List.set_cons_zero,List.set_cons_succ,i64_w,i32_w]
         rfl
        refine pure_ (i:=17) (N:=some 57) (v:=undef) (a':=?_) #[true,true,true,true,true,true,true,true,true,true,true,true,true,true,true,true,true,true,false,false,false,false] rfl rfl (any_of HT_.out (by kernel_rfl)) (fun _ _ _ h => h) (Or.inr ⟨by rfl,rfl⟩) ?_ ?_
        rotate_left
        ·simp only [Act.put,List.setIfInBounds_toArray,List.set_cons_zero,List.set_cons_succ,i64_w,i32_w]
         rfl
        refine pure_ (i:=18) (N:=some 58) (v:=undef) (a':=?_) #[true,true,true,true,true,true,true,true,true,true,true,true,true,true,true,true,true,true,true,false,false,false] rfl rfl (any_of HT_.out (by kernel_rfl)) (fun _ _ _ h => h) (Or.inr ⟨by rfl,rfl⟩) ?_ ?_
        rotate_left
        ·simp only [Act.put,List.setIfInBounds_toArray,List.set_cons_zero,List.set_cons_succ,i64_w,i32_w]
         rfl
        refine pure_ (i:=19) (N:=some 59) (v:=undef) (a':=?_) #[true,true,true,true,true,true,true,true,true,true,true,true,true,true,true,true,true,true,true,true,false,false] rfl rfl (any_of HT_.out (by kernel_rfl)) (fun _ _ _ h => h) (Or.inr ⟨by rfl,rfl⟩) ?_ ?_
        rotate_left
        ·simp only [Act.put,List.setIfInBounds_toArray,List.set_cons_zero,List.set_cons_succ,i64_w,i32_w]
         rfl
        refine pure_ (i:=20) (N:=some 60) (v:=undef) (a':=?_) #[true,true,true,true,true,true,true,true,true,true,true,true,true,true,true,true,true,true,true,true,true,false] rfl rfl (any_of HT_.out (by kernel_rfl)) (fun _ _ _ h => h) (Or.inr ⟨by rfl,rfl⟩) ?_ ?_
        rotate_left
        ·simp only [Act.put,List.setIfInBounds_toArray,List.set_cons_zero,List.set_cons_succ,i64_w,i32_w]
         rfl
        refine pure_ (i:=21) (N:=some 61) (v:=?_) (a':=?_) #[true,true,true,true,true,true,true,true,true,true,true,true,true,true,true,true,true,true,true,true,true,true] rfl rfl (any_of HT_.out (by kernel_rfl)) (fun _ _ _ h => h) (Or.inl ⟨by rfl,?_⟩) ?_ ?_
        rotate_left
        ·intro w'
         go_simp
         with_reducible rfl
        rotate_left
        ·simp only [Act.put,List.setIfInBounds_toArray,List.set_cons_zero,List.set_cons_succ,i64_w,i32_w]
         rfl
        refine done_ (done_of HT_.out (by kernel_rfl)) ?_
        try go_wp2
        go_meet
        case rel => exact ⟨_,(true),(by first | rfl | (simp;done) | (simp [*];done)),H',⟨by have:=HJ4.out;first | omega | exact Nat.le_refl _⟩,⟨by (with_reducible repeat (first | apply Kd.R_alloc | apply Kd.R_drewN | apply Kd.R_drew));exact HO_7.out⟩,⟨by (with_reducible repeat (first | refine blk_drewN ?_ _ | refine blk_drew ?_ | refine blk_alloc ?_ _));exact BK367.out⟩,⟨by (with_reducible repeat (first | refine blk_drewN ?_ _ | refine blk_drew ?_ | refine blk_alloc ?_ _));exact BK368.out⟩,⟨by repeat (first | (with_reducible first | exact HB.out | apply below_alloc | apply pw_below_drewN | apply below_drew1 | refine below_set ?_ GE367.out | refine below_set ?_ GE368.out) | exact HB.out)⟩⟩
      ·rw [if_neg c24] at H
       exact absurd H (by simp)
    case rest =>
     clear HC20
     try clear c1
     try clear c2
     try clear p2
     try clear p3
     try clear q3
     try clear hx3
     try clear qi3
     try clear p6
     try clear c14
     try clear c15
     try clear c15b0
     try clear c15b1
     try clear c15b2
     try clear c21
     try clear c21b0
     try clear c21b1
     try clear c21b2
     try clear c24
     try clear c24b0
     try clear c24b1
     try clear c25
     try clear c25b0
     try clear c25b1
     try clear c27
     try clear c27b0
     try clear c28
     try clear c28b0
     try clear hx376_0
     try clear hx377_0
     try clear p376
     try clear p377
     try clear q376
     try clear q377
     obtain ⟨kq,x61_19,rfl,HA,HJ19,HO_7,BK367,BK368,HB⟩:=hcut
     cases kq with
     | zero => exact absurd HA.out (by simp [beaconlaw08_PathsSteps.j1])
     | succ kj19 =>
      have H:=HA.out
      clear HA
      simp only [beaconlaw08_PathsSteps.j1] at H
      by_cases c33:x61_19 = true
      ·subst c33
       have H1:(some false) = some r:=by rw [if_pos rfl] at H;exact H
       clear H
       have H:=H1
       clear H1
       obtain rfl:=Option.some.inj H
       go_wp2
       go_ret
       exact ⟨by first | rfl | (simp [errW_none,errW_some] <;> rfl) | (simp [*,errW_none,errW_some] <;> rfl),by repeat (first | (with_reducible first | exact HB.out | apply below_alloc | apply pw_below_drewN | apply below_drew1 | refine below_set ?_ GE367.out | refine below_set ?_ GE368.out) | exact HB.out)⟩
      ·replace c33:=Bool.eq_false_iff.mpr c33
       subst c33
       have H1:(beaconlaw08_PathsSteps.l0 kj19 a1 t369 t372 0 0 l0_0 l0_1 a2_0 a2_1) = some r:=by rw [if_neg (show ¬ (false = true) by decide)] at H;exact H
       clear H
       have H:=H1
       clear H1
       have H':=Aside0.mk H
       clear H
       go_wp2
       go_loopg [10,11] kj19 (fun kq v10 v11 w' => ∃ (x10_3:Nat) (x11_3:Int),v10 = .float .f64 x10_3 ∧ v11 = .int .i64 x11_3 ∧ Aside0 (beaconlaw08_PathsSteps.l0 kq a1 t369 t372 x10_3 x11_3 l0_0 l0_1 a2_0 a2_1 = some r) ∧ Aside0 (kq ≤ kj19) ∧ Aside0 (Kd.R (Kd.int .i64) 3 w' w.heap.size (fun _ => True) v370 t369) ∧ Aside0 (w'.heap[gb367]? = some (.cells #[(.slice A0_0 l0_0.length c0_0),(.slice A0_1 l0_1.length c0_1)] 25 (0,0))) ∧ Aside0 (w'.heap[gb368]? = some (.cells #[.int .i64 a2_0,.int .i64 a2_1] 45 (0,0))) ∧ Aside0 (Below w.heap.size w w'))
       case atStart => exact ⟨(0),(0),(by first | rfl | (simp;done) | (simp [*];done)),(by first | rfl | (simp;done) | (simp [*];done)),H',⟨Nat.le_refl _⟩,⟨by (with_reducible repeat (first | apply Kd.R_alloc | apply Kd.R_drewN | apply Kd.R_drew));exact HO_7.out⟩,⟨by (with_reducible repeat (first | refine blk_drewN ?_ _ | refine blk_drew ?_ | refine blk_alloc ?_ _));exact BK367.out⟩,⟨by (with_reducible repeat (first | refine blk_drewN ?_ _ | refine blk_drew ?_ | refine blk_alloc ?_ _));exact BK368.out⟩,⟨by repeat (first | (with_reducible first | exact HB.out | apply below_alloc | apply pw_below_drewN | apply below_drew1 | refine below_set ?_ GE367.out | refine below_set ?_ GE368.out) | exact HB.out)⟩⟩
       case round =>
        clear H'
        try clear c1
        try clear c2
        try clear p2
        try clear c3
        try clear p3
        try clear q3
        try clear hx3
        try clear qi3
        try clear p6
        try clear c14
        try clear c15
        try clear c15b0
        try clear c15b1
        try clear c15b2
        try clear c21
        try clear c21b0
        try clear c21b1
        try clear c21b2
        try clear c24
        try clear c24b0
        try clear c24b1
        try clear c25
        try clear c25b0
        try clear c25b1
        try clear c27
        try clear c27b0
        try clear c28
        try clear c28b0
        try clear c33
        try clear hx376_0
        try clear hx377_0
        try clear p2
        try clear p3
        try clear p376
        try clear p377
        try clear p6
        try clear q3
        try clear q376
        try clear q377
        obtain ⟨x10_3,x11_3,rfl,rfl,HA,HK3,HO_7,BK367,BK368,HB⟩:=hrel
        cases gk with
        | zero => exact absurd HA.out (by simp [beaconlaw08_PathsSteps.l0])
        | succ k3 =>
         have H:=HA.out
         clear HA
         simp only [beaconlaw08_PathsSteps.l0] at H
         by_cases c34:x11_3 < (t369.length:Int)
         ·rw [if_pos c34] at H
          have c34b0:decide (x11_3 < (t369.length:Int)) = true:=decide_eq_true c34
          clear c34
          have H':=Aside0.mk H
          clear H
          obtain ⟨Ao35,co35,eo35⟩:=Kd.R_slice HO_7.out
          subst eo35
          go_wp2
          go_loopg [12] k3 (fun kq v12 w' => ∃ (x12_4:Int),v12 = .int .i64 x12_4 ∧ Aside0 (beaconlaw08_PathsSteps.l1 kq a1 t369 t372 x10_3 x11_3 x12_4 l0_0 l0_1 a2_0 a2_1 = some r) ∧ Aside0 (kq ≤ k3) ∧ Aside0 (Kd.R (Kd.int .i64) 3 w' w.heap.size (fun _ => True) (.slice Ao35 t369.length co35) t369) ∧ Aside0 (w'.heap[gb367]? = some (.cells #[(.slice A0_0 l0_0.length c0_0),(.slice A0_1 l0_1.length c0_1)] 25 (0,0))) ∧ Aside0 (w'.heap[gb368]? = some (.cells #[.int .i64 a2_0,.int .i64 a2_1] 45 (0,0))) ∧ Aside0 (Below w.heap.size w w'))
          case atStart => exact ⟨(0),(by first | rfl | (simp;done) | (simp [*];done)),H',⟨Nat.le_refl _⟩,⟨by (with_reducible repeat (first | apply Kd.R_alloc | apply Kd.R_drewN | apply Kd.R_drew));exact HO_7.out⟩,⟨by (with_reducible repeat (first | refine blk_drewN ?_ _ | refine blk_drew ?_ | refine blk_alloc ?_ _));exact BK367.out⟩,⟨by (with_reducible repeat (first | refine blk_drewN ?_ _ | refine blk_drew ?_ | refine blk_alloc ?_ _));exact BK368.out⟩,⟨by repeat (first | (with_reducible first | exact HB.out | apply below_alloc | apply pw_below_drewN | apply below_drew1 | refine below_set ?_ GE367.out | refine below_set ?_ GE368.out) | exact HB.out)⟩⟩
          case round =>
           clear H'
           try clear c1
           try clear c2
           try clear p2
           try clear c3
           try clear p3
           try clear q3
           try clear hx3
           try clear qi3
           try clear p6
           try clear c14
           try clear c15
           try clear c15b0
           try clear c15b1
           try clear c15b2
           try clear c21
           try clear c21b0
           try clear c21b1
           try clear c21b2
           try clear c24
           try clear c24b0
           try clear c24b1
           try clear c25
           try clear c25b0
           try clear c25b1
           try clear c27
           try clear c27b0
           try clear c28
           try clear c28b0
           try clear c33
           try clear c34
           try clear c34b0
           try clear hx376_0
           try clear hx377_0
           try clear p2
           try clear p3
           try clear p376
           try clear p377
           try clear p6
           try clear q3
           try clear q376
           try clear q377
           obtain ⟨x12_4,rfl,HA,HK4,HO_7,BK367,BK368,HB⟩:=hrel
           cases gk with
           | zero => exact absurd HA.out (by simp [beaconlaw08_PathsSteps.l1])
           | succ k4 =>
            have H:=HA.out
            clear HA
            simp only [beaconlaw08_PathsSteps.l1] at H
            by_cases c36:x12_4 < x11_3
            ·rw [if_pos c36] at H
             have c36b0:decide (x12_4 < x11_3) = true:=decide_eq_true c36
             clear c36
             by_cases c37:0 ≤ x12_4
             ·rw [if_pos c37] at H
              have c37b0:decide (0 ≤ x12_4) = true:=decide_eq_true c37
              clear c37
              by_cases c38:x12_4 < (t369.length:Int)
              ·rw [if_pos c38] at H
               have c38b0:decide (x12_4 < (t369.length:Int)) = true:=decide_eq_true c38
               clear c38
               by_cases c39:0 ≤ x11_3
               ·rw [if_pos c39] at H
                have c39b0:decide (0 ≤ x11_3) = true:=decide_eq_true c39
                clear c39
                by_cases c40:x11_3 < (t369.length:Int)
                ·rw [if_pos c40] at H
                 have c40b0:decide (x11_3 < (t369.length:Int)) = true:=decide_eq_true c40
                 clear c40
                 by_cases c41:(rd t369 x12_4) = (rd t369 x11_3)
                 ·rw [if_pos c41] at H
                  have c41b0:((rd t369 x12_4) == (rd t369 x11_3)) = true:=beq_iff_eq.mpr c41
                  have c41b1:((rd t369 x12_4) != (rd t369 x11_3)) = false:=bne_eq_false_iff_eq.mpr c41
                  clear c41
                  obtain rfl:=Option.some.inj H
                  try go_wp2
                  have n0_:=Aside0.mk (Kd.R_drew HO_7.out)
                  have n1_:=Aside0.mk (blk_drew BK367.out)
                  have n2_:=Aside0.mk (blk_drew BK368.out)
                  have n3_:=Aside0.mk (below_drew1 HB.out)
                  clear HO_7
                  clear BK367
                  clear BK368
                  clear HB
                  have HO_7:=n0_
                  have BK367:=n1_
                  have BK368:=n2_
                  have HB:=n3_
                  clear n0_ n1_ n2_ n3_
                  have p379:0 ≤ (x12_4:Int):=of_decide_eq_true (by first | (with_reducible assumption) | assumption)
                  have q379:x12_4 < (t369.length:Int):=of_decide_eq_true (by first | (with_reducible assumption) | assumption)
                  obtain ⟨ad379,e379,hx379_0⟩:=Kd.at_int (Kd.R_reads' HO_7.out).2.2 x12_4 p379 q379
                  cases e379
                  replace p379:=eq_true p379
                  replace q379:=eq_true q379
                  have p380:0 ≤ (x11_3:Int):=of_decide_eq_true (by first | (with_reducible assumption) | assumption)
                  have q380:x11_3 < (t369.length:Int):=of_decide_eq_true (by first | (with_reducible assumption) | assumption)
                  obtain ⟨ad380,e380,hx380_0⟩:=Kd.at_int (Kd.R_reads' HO_7.out).2.2 x11_3 p380 q380
                  obtain rfl:ad379 = ad380:=(by injection e380)
                  replace p380:=eq_true p380
                  replace q380:=eq_true q380
                  refine start_ (n:=9) (S:=fun w' => w'.cell? (ad379.add (x12_4).toNat) = some (.int .i64 (rd t369 x12_4)) ∧ w'.cell? (ad379.add (x11_3).toNat) = some (.int .i64 (rd t369 x11_3))) (ds:=[]) #[false,false,false,false,false,false,false,false,false] (by kernel_rfl) rfl rfl ⟨hx379_0,hx380_0⟩ (fun hHeld => ?_);refine with_tabW beaconlaw08_PathsSteps.tab13 beaconlaw08_PathsSteps.bits13 (fun HT_ HW_ => ?_)
                  generalize wr.drew = w42 at HO_7 BK367 BK368 HB hx379_0 hx380_0 hHeld ⊢
                  refine pure_ (i:=0) (N:=some 73) (v:=?_) (a':=?_) #[true,false,false,false,false,false,false,false,false] rfl rfl (any_of HT_.out (by kernel_rfl)) (fun _ _ _ h => h) (Or.inl ⟨by rfl,?_⟩) ?_ ?_
                  rotate_left
                  ·intro w'
                   go_simp
                   with_reducible rfl
                  rotate_left
                  ·simp only [Act.put,List.setIfInBounds_toArray,List.set_cons_zero,List.set_cons_succ,i64_w,i32_w]
                   rfl
                  refine pure_ (i:=1) (N:=some 74) (v:=?_) (a':=?_) #[true,true,false,false,false,false,false,false,false] rfl rfl (any_of HT_.out (by kernel_rfl)) (fun _ _ _ h => h) (Or.inl ⟨by rfl,?_⟩) ?_ ?_
                  rotate_left
                  ·intro w'
                   go_simp
                   with_reducible rfl
                  rotate_left
                  ·simp only [Act.put,List.setIfInBounds_toArray,List.set_cons_zero,List.set_cons_succ,i64_w,i32_w]
                   rfl
                  refine pure_ (i:=2) (N:=some 75) (v:=?_) (a':=?_) #[true,true,true,false,false,false,false,false,false] rfl rfl (any_of HT_.out (by kernel_rfl)) (fun _ _ _ h => h) (Or.inl ⟨by rfl,?_⟩) ?_ ?_
                  rotate_left
                  ·intro w'
                   go_simp
                   with_reducible rfl
                  rotate_left
                  ·simp only [Act.put,List.setIfInBounds_toArray,List.set_cons_zero,List.set_cons_succ,i64_w,i32_w]
                   rfl
                  refine pure_ (i:=4) (N:=some 77) (v:=?_) (a':=?_) #[true,true,true,false,true,false,false,false,false] rfl rfl (any_of HT_.out (by kernel_rfl)) (fun _ _ _ h => h) (Or.inl ⟨by rfl,?_⟩) ?_ ?_
                  rotate_left
                  ·intro w'
                   go_simp
                   with_reducible rfl
                  rotate_left
                  ·simp only [Act.put,List.setIfInBounds_toArray,List.set_cons_zero,List.set_cons_succ,i64_w,i32_w]
                   rfl
                  refine pure_ (i:=5) (N:=some 78) (v:=?_) (a':=?_) #[true,true,true,false,true,true,false,false,false] rfl rfl (any_of HT_.out (by kernel_rfl)) (fun _ _ _ h => h) (Or.inl ⟨by rfl,?_⟩) ?_ ?_
                  rotate_left
                  ·intro w'
                   go_simp
                   with_reducible rfl
                  rotate_left
                  ·simp only [Act.put,List.setIfInBounds_toArray,List.set_cons_zero,List.set_cons_succ,i64_w,i32_w]
                   rfl
                  refine pure_ (i:=6) (N:=some 79) (v:=?_) (a':=?_) #[true,true,true,false,true,true,true,false,false] rfl rfl (any_of HT_.out (by kernel_rfl)) (fun _ _ _ h => h) (Or.inl ⟨by rfl,?_⟩) ?_ ?_
                  rotate_left
                  ·intro w'
                   go_simp
                   with_reducible rfl
                  rotate_left
                  ·simp only [Act.put,List.setIfInBounds_toArray,List.set_cons_zero,List.set_cons_succ,i64_w,i32_w]
                   rfl
                  refine take_ (i:=3) (N:=some 76) (v:=?_) (a':=?_) #[true,true,true,true,true,true,true,false,false] rfl rfl (take_ofW HT_.out HW_.out (by kernel_rfl)) (fun _ _ _ h => h) (Or.inl ⟨by rfl,?_⟩) hHeld ?_ ?_
                  rotate_left
                  ·rintro w' ⟨s0,s1⟩
                   go_simp
                   with_reducible rfl
                  rotate_left
                  ·simp only [Act.put,List.setIfInBounds_toArray,List.set_cons_zero,List.set_cons_succ,i64_w,i32_w]
                   rfl
                  refine take_ (i:=7) (N:=some 80) (v:=?_) (a':=?_) #[true,true,true,true,true,true,true,true,false] rfl rfl (take_ofW HT_.out HW_.out (by kernel_rfl)) (fun _ _ _ h => h) (Or.inl ⟨by rfl,?_⟩) hHeld ?_ ?_
                  rotate_left
                  ·rintro w' ⟨s0,s1⟩
                   go_simp
                   with_reducible rfl
                  rotate_left
                  ·simp only [Act.put,List.setIfInBounds_toArray,List.set_cons_zero,List.set_cons_succ,i64_w,i32_w]
                   rfl
                  refine pure_ (i:=8) (N:=some 81) (v:=?_) (a':=?_) #[true,true,true,true,true,true,true,true,true] rfl rfl (any_of HT_.out (by kernel_rfl)) (fun _ _ _ h => h) (Or.inl ⟨by rfl,?_⟩) ?_ ?_
                  rotate_left
                  ·intro w'
                   go_simp
                   with_reducible rfl
                  rotate_left
                  ·simp only [Act.put,List.setIfInBounds_toArray,List.set_cons_zero,List.set_cons_succ,i64_w,i32_w]
                   rfl
                  refine done_ (done_of HT_.out (by kernel_rfl)) ?_
                  try go_wp2
                  go_ret
                  exact ⟨by first | rfl | (simp [errW_none,errW_some] <;> rfl) | (simp [*,errW_none,errW_some] <;> rfl),by repeat (first | (with_reducible first | exact HB.out | apply below_alloc | apply pw_below_drewN | apply below_drew1 | refine below_set ?_ GE367.out | refine below_set ?_ GE368.out) | exact HB.out)⟩
                 ·rw [if_neg c41] at H
                  have c41b0:((rd t369 x12_4) == (rd t369 x11_3)) = false:=beq_eq_false_iff_ne.mpr c41
                  have c41b1:((rd t369 x12_4) != (rd t369 x11_3)) = true:=bne_iff_ne.mpr c41
                  have H':=Aside0.mk H
                  clear H
                  try go_wp2
                  have n0_:=Aside0.mk (Kd.R_drew HO_7.out)
                  have n1_:=Aside0.mk (blk_drew BK367.out)
                  have n2_:=Aside0.mk (blk_drew BK368.out)
                  have n3_:=Aside0.mk (below_drew1 HB.out)
                  clear HO_7
                  clear BK367
                  clear BK368
                  clear HB
                  have HO_7:=n0_
                  have BK367:=n1_
                  have BK368:=n2_
                  have HB:=n3_
                  clear n0_ n1_ n2_ n3_
                  have p379:0 ≤ (x12_4:Int):=of_decide_eq_true (by first | (with_reducible assumption) | assumption)
                  have q379:x12_4 < (t369.length:Int):=of_decide_eq_true (by first | (with_reducible assumption) | assumption)
                  obtain ⟨ad379,e379,hx379_0⟩:=Kd.at_int (Kd.R_reads' HO_7.out).2.2 x12_4 p379 q379
                  cases e379
                  replace p379:=eq_true p379
                  replace q379:=eq_true q379
                  have p380:0 ≤ (x11_3:Int):=of_decide_eq_true (by first | (with_reducible assumption) | assumption)
                  have q380:x11_3 < (t369.length:Int):=of_decide_eq_true (by first | (with_reducible assumption) | assumption)
                  obtain ⟨ad380,e380,hx380_0⟩:=Kd.at_int (Kd.R_reads' HO_7.out).2.2 x11_3 p380 q380
                  obtain rfl:ad379 = ad380:=(by injection e380)
                  replace p380:=eq_true p380
                  replace q380:=eq_true q380
                  refine start_ (n:=9) (S:=fun w' => w'.cell? (ad379.add (x12_4).toNat) = some (.int .i64 (rd t369 x12_4)) ∧ w'.cell? (ad379.add (x11_3).toNat) = some (.int .i64 (rd t369 x11_3))) (ds:=[]) #[false,false,false,false,false,false,false,false,false] (by kernel_rfl) rfl rfl ⟨hx379_0,hx380_0⟩ (fun hHeld => ?_);refine with_tabW beaconlaw08_PathsSteps.tab13 beaconlaw08_PathsSteps.bits13 (fun HT_ HW_ => ?_)
                  generalize wr.drew = w43 at HO_7 BK367 BK368 HB hx379_0 hx380_0 hHeld ⊢
                  refine pure_ (i:=0) (N:=some 73) (v:=?_) (a':=?_) #[true,false,false,false,false,false,false,false,false] rfl rfl (any_of HT_.out (by kernel_rfl)) (fun _ _ _ h => h) (Or.inl ⟨by rfl,?_⟩) ?_ ?_
                  rotate_left
                  ·intro w'
                   go_simp
                   with_reducible rfl
                  rotate_left
                  ·simp only [Act.put,List.setIfInBounds_toArray,List.set_cons_zero,List.set_cons_succ,i64_w,i32_w]
                   rfl
                  refine pure_ (i:=1) (N:=some 74) (v:=?_) (a':=?_) #[true,true,false,false,false,false,false,false,false] rfl rfl (any_of HT_.out (by kernel_rfl)) (fun _ _ _ h => h) (Or.inl ⟨by rfl,?_⟩) ?_ ?_
                  rotate_left
                  ·intro w'
                   go_simp
                   with_reducible rfl
                  rotate_left
                  ·simp only [Act.put,List.setIfInBounds_toArray,List.set_cons_zero,List.set_cons_succ,i64_w,i32_w]
                   rfl
                  refine pure_ (i:=2) (N:=some 75) (v:=?_) (a':=?_) #[true,true,true,false,false,false,false,false,false] rfl rfl (any_of HT_.out (by kernel_rfl)) (fun _ _ _ h => h) (Or.inl ⟨by rfl,?_⟩) ?_ ?_
                  rotate_left
                  ·intro w'
                   go_simp
                   with_reducible rfl
                  rotate_left
                  ·simp only [Act.put,List.setIfInBounds_toArray,List.set_cons_zero,List.set_cons_succ,i64_w,i32_w]
                   rfl
                  refine pure_ (i:=4) (N:=some 77) (v:=?_) (a':=?_) #[true,true,true,false,true,false,false,false,false] rfl rfl (any_of HT_.out (by kernel_rfl)) (fun _ _ _ h => h) (Or.inl ⟨by rfl,?_⟩) ?_ ?_
                  rotate_left
                  ·intro w'
                   go_simp
                   with_reducible rfl
                  rotate_left
                  ·simp only [Act.put,List.setIfInBounds_toArray,List.set_cons_zero,List.set_cons_succ,i64_w,i32_w]
                   rfl
                  refine pure_ (i:=5) (N:=some 78) (v:=?_) (a':=?_) #[true,true,true,false,true,true,false,false,false] rfl rfl (any_of HT_.out (by kernel_rfl)) (fun _ _ _ h => h) (Or.inl ⟨by rfl,?_⟩) ?_ ?_
                  rotate_left
                  ·intro w'
                   go_simp
                   with_reducible rfl
                  rotate_left
                  ·simp only [Act.put,List.setIfInBounds_toArray,List.set_cons_zero,List.set_cons_succ,i64_w,i32_w]
                   rfl
                  refine pure_ (i:=6) (N:=some 79) (v:=?_) (a':=?_) #[true,true,true,false,true,true,true,false,false] rfl rfl (any_of HT_.out (by kernel_rfl)) (fun _ _ _ h => h) (Or.inl ⟨by rfl,?_⟩) ?_ ?_
                  rotate_left
                  ·intro w'
                   go_simp
                   with_reducible rfl
                  rotate_left
                  ·simp only [Act.put,List.setIfInBounds_toArray,List.set_cons_zero,List.set_cons_succ,i64_w,i32_w]
                   rfl
                  refine take_ (i:=3) (N:=some 76) (v:=?_) (a':=?_) #[true,true,true,true,true,true,true,false,false] rfl rfl (take_ofW HT_.out HW_.out (by kernel_rfl)) (fun _ _ _ h => h) (Or.inl ⟨by rfl,?_⟩) hHeld ?_ ?_
                  rotate_left
                  ·rintro w' ⟨s0,s1⟩
                   go_simp
                   with_reducible rfl
                  rotate_left
                  ·simp only [Act.put,List.setIfInBounds_toArray,List.set_cons_zero,List.set_cons_succ,i64_w,i32_w]
                   rfl
                  refine take_ (i:=7) (N:=some 80) (v:=?_) (a':=?_) #[true,true,true,true,true,true,true,true,false] rfl rfl (take_ofW HT_.out HW_.out (by kernel_rfl)) (fun _ _ _ h => h) (Or.inl ⟨by rfl,?_⟩) hHeld ?_ ?_
                  rotate_left
                  ·rintro w' ⟨s0,s1⟩
                   go_simp
                   with_reducible rfl
                  rotate_left
                  ·simp only [Act.put,List.setIfInBounds_toArray,List.set_cons_zero,List.set_cons_succ,i64_w,i32_w]
                   rfl
                  refine pure_ (i:=8) (N:=some 81) (v:=?_) (a':=?_) #[true,true,true,true,true,true,true,true,true] rfl rfl (any_of HT_.out (by kernel_rfl)) (fun _ _ _ h => h) (Or.inl ⟨by rfl,?_⟩) ?_ ?_
                  rotate_left
                  ·intro w'
                   go_simp
                   with_reducible rfl
                  rotate_left
                  ·simp only [Act.put,List.setIfInBounds_toArray,List.set_cons_zero,List.set_cons_succ,i64_w,i32_w]
                   rfl
                  refine done_ (done_of HT_.out (by kernel_rfl)) ?_
                  try go_wp2
                  go_roundg k4
                  case measure => have:=HJ4.out;have:=HJ19.out;have:=HK3.out;have:=HK4.out;omega
                  case rel => exact ⟨(wrap64 (x12_4 + 1)),(by first | rfl | (simp;done) | (simp [*];done)),H',⟨by have:=HJ4.out;have:=HJ19.out;have:=HK3.out;have:=HK4.out;omega⟩,⟨by (with_reducible repeat (first | apply Kd.R_alloc | apply Kd.R_drewN | apply Kd.R_drew));exact HO_7.out⟩,⟨by (with_reducible repeat (first | refine blk_drewN ?_ _ | refine blk_drew ?_ | refine blk_alloc ?_ _));exact BK367.out⟩,⟨by (with_reducible repeat (first | refine blk_drewN ?_ _ | refine blk_drew ?_ | refine blk_alloc ?_ _));exact BK368.out⟩,⟨by repeat (first | (with_reducible first | exact HB.out | apply below_alloc | apply pw_below_drewN | apply below_drew1 | refine below_set ?_ GE367.out | refine below_set ?_ GE368.out) | exact HB.out)⟩⟩
                ·rw [if_neg c40] at H
                 exact absurd H (by simp)
               ·rw [if_neg c39] at H
                exact absurd H (by simp)
              ·rw [if_neg c38] at H
               exact absurd H (by simp)
             ·rw [if_neg c37] at H
              exact absurd H (by simp)
            ·rw [if_neg c36] at H
             have c36b0:decide (x12_4 < x11_3) = false:=decide_eq_false c36
             clear c36
             have HC44:=Aside0.mk H
             clear H
             go_upto_if 83 with (fail)
             go_cut [10] (fun v10 wc => ∃ (kq:Nat) (x10_43:Nat),v10 = .float .f64 x10_43 ∧ Aside0 (beaconlaw08_PathsSteps.j4 kq a1 t369 t372 x10_43 x11_3 l0_0 l0_1 a2_0 a2_1 = some r) ∧ Aside0 (kq ≤ k4) ∧ Aside0 (Kd.R (Kd.int .i64) 3 wc w.heap.size (fun _ => True) (.slice Ao35 t369.length co35) t369) ∧ Aside0 (wc.heap[gb367]? = some (.cells #[(.slice A0_0 l0_0.length c0_0),(.slice A0_1 l0_1.length c0_1)] 25 (0,0))) ∧ Aside0 (wc.heap[gb368]? = some (.cells #[.int .i64 a2_0,.int .i64 a2_1] 45 (0,0))) ∧ Aside0 (Below w.heap.size w wc))
             case first =>
              have H:=HC44.out
              clear HC44
              by_cases c45:x11_3 > 0
              ·rw [if_pos c45] at H
               have c45b0:decide (0 < x11_3) = true:=decide_eq_true c45
               clear c45
               (first | rw [c45b0] | (simp only [i64_w,i32_w];rw [c45b0]) | skip)
               obtain ⟨ji46,hji46⟩:∃ j_:Int,(wrap64 (x11_3 - 1)) = j_:=⟨_,rfl⟩
               replace H:(if 0 ≤ (ji46) then (if (ji46) < (t369.length:Int) then (if 0 ≤ x11_3 then (if x11_3 < (t369.length:Int) then ((beaconlaw08_weight.f k4 l0_0 l0_1 (rd t369 (ji46)) (rd t369 x11_3)).bind fun t383 => (if (FloatKind.f64.format.order t383 0 == some .eq) = true then (some false) else ((floatBits .add .f64 x10_3 t383).bind fun t384 => (beaconlaw08_PathsSteps.j4 k4 a1 t369 t372 t384 x11_3 l0_0 l0_1 a2_0 a2_1)))) else (none)) else (none)) else (none)) else (none)) = some r:=by first | (rw [hji46] at H;exact H) | (simp only [hji46] at H ⊢;exact H)
               have hji46w:(IntKind.i64.wrap (x11_3 - 1)) = ji46:=(i64_w _).trans hji46
               by_cases c47:0 ≤ (ji46)
               ·rw [if_pos c47] at H
                have c47b0:decide (0 ≤ (ji46)) = true:=decide_eq_true c47
                clear c47
                by_cases c48:(ji46) < (t369.length:Int)
                ·rw [if_pos c48] at H
                 have c48b0:decide ((ji46) < (t369.length:Int)) = true:=decide_eq_true c48
                 clear c48
                 by_cases c49:0 ≤ x11_3
                 ·rw [if_pos c49] at H
                  have c49b0:decide (0 ≤ x11_3) = true:=decide_eq_true c49
                  clear c49
                  by_cases c50:x11_3 < (t369.length:Int)
                  ·rw [if_pos c50] at H
                   have c50b0:decide (x11_3 < (t369.length:Int)) = true:=decide_eq_true c50
                   clear c50
                   replace H:=Option.bind_eq_some_iff.mp H
                   obtain ⟨t383,A510,H⟩:=H
                   replace H:(if (FloatKind.f64.format.order t383 0 == some .eq) = true then (some false) else ((floatBits .add .f64 x10_3 t383).bind fun t384 => (beaconlaw08_PathsSteps.j4 k4 a1 t369 t372 t384 x11_3 l0_0 l0_1 a2_0 a2_1))) = some r:=H
                   have A51:=Aside0.mk A510
                   clear A510
                   by_cases c52:(FloatKind.f64.format.order t383 0 == some .eq) = true
                   ·rw [if_pos c52] at H
                    have c52b0:(FloatKind.f64.format.order t383 0 == some .eq) = true:=c52
                    (try (have c52b1:decide (FloatKind.f64.format.order t383 0 = some .eq) = true:=by simpa using c52))
                    (try (have c52b2:(FloatKind.f64.format.order t383 0 == some .eq) = true:=by simpa using c52))
                    clear c52
                    obtain rfl:=Option.some.inj H
                    try go_wp2
                    have n0_:=Aside0.mk (Kd.R_drew HO_7.out)
                    have n1_:=Aside0.mk (blk_drew BK367.out)
                    have n2_:=Aside0.mk (blk_drew BK368.out)
                    have n3_:=Aside0.mk (below_drew1 HB.out)
                    clear HO_7
                    clear BK367
                    clear BK368
                    clear HB
                    have HO_7:=n0_
                    have BK367:=n1_
                    have BK368:=n2_
                    have HB:=n3_
                    clear n0_ n1_ n2_ n3_
                    have p381:0 ≤ ((ji46):Int):=of_decide_eq_true (by first | (with_reducible assumption) | assumption)
                    have q381:(ji46) < (t369.length:Int):=of_decide_eq_true (by first | (with_reducible assumption) | assumption)
                    obtain ⟨ad381,e381,hx381_0⟩:=Kd.at_int (Kd.R_reads' HO_7.out).2.2 (ji46) p381 q381
                    cases e381
                    replace p381:=eq_true p381
                    replace q381:=eq_true q381
                    have p382:0 ≤ (x11_3:Int):=of_decide_eq_true (by first | (with_reducible assumption) | assumption)
                    have q382:x11_3 < (t369.length:Int):=of_decide_eq_true (by first | (with_reducible assumption) | assumption)
                    obtain ⟨ad382,e382,hx382_0⟩:=Kd.at_int (Kd.R_reads' HO_7.out).2.2 x11_3 p382 q382
                    obtain rfl:ad381 = ad382:=(by injection e382)
                    replace p382:=eq_true p382
                    replace q382:=eq_true q382
                    refine start_ (n:=12) (S:=fun w' => w'.cell? ⟨gb367,0,none⟩ = some (.slice A0_0 l0_0.length c0_0) ∧ w'.cell? ⟨gb367,1,none⟩ = some (.slice A0_1 l0_1.length c0_1) ∧ w'.cell? (ad381.add ((ji46)).toNat) = some (.int .i64 (rd t369 (ji46))) ∧ w'.cell? (ad381.add (x11_3).toNat) = some (.int .i64 (rd t369 x11_3))) (ds:=[]) #[false,false,false,false,false,false,false,false,false,false,false,false] (by kernel_rfl) rfl rfl ⟨(blk_cell BK367.out 0).trans rfl,(blk_cell BK367.out 1).trans rfl,hx381_0,hx382_0⟩ (fun hHeld => ?_);refine with_tabW beaconlaw08_PathsSteps.tab16 beaconlaw08_PathsSteps.bits16 (fun HT_ HW_ => ?_)
                    generalize wr.drew = w53 at HO_7 BK367 BK368 HB hx381_0 hx382_0 hHeld ⊢
                    refine pure_ (i:=1) (N:=some 85) (v:=?_) (a':=?_) #[false,true,false,false,false,false,false,false,false,false,false,false] rfl rfl (any_of HT_.out (by kernel_rfl)) (fun _ _ _ h => h) (Or.inl ⟨by rfl,?_⟩) ?_ ?_
                    rotate_left
                    ·intro w'
                     go_simp
                     with_reducible rfl
                    rotate_left
                    ·simp only [Act.put,List.setIfInBounds_toArray,List.set_cons_zero,List.set_cons_succ,i64_w,i32_w]
                     rfl
                    refine pure_ (i:=2) (N:=some 86) (v:=?_) (a':=?_) #[false,true,true,false,false,false,false,false,false,false,false,false] rfl rfl (any_of HT_.out (by kernel_rfl)) (fun _ _ _ h => h) (Or.inl ⟨by rfl,?_⟩) ?_ ?_
                    rotate_left
                    ·intro w'
                     go_simp
                     with_reducible rfl
                    rotate_left
                    ·simp only [Act.put,List.setIfInBounds_toArray,List.set_cons_zero,List.set_cons_succ,i64_w,i32_w]
                     rfl
                    refine pure_ (i:=3) (N:=some 87) (v:=?_) (a':=?_) #[false,true,true,true,false,false,false,false,false,false,false,false] rfl rfl (any_of HT_.out (by kernel_rfl)) (fun _ _ _ h => h) (Or.inl ⟨by rfl,?_⟩) ?_ ?_
                    rotate_left
                    ·intro w'
                     go_simp
                     with_reducible rfl
                    rotate_left
                    ·simp only [Act.put,List.setIfInBounds_toArray,List.set_cons_zero,List.set_cons_succ,i64_w,i32_w]
                     rfl
                    refine pure_ (i:=4) (N:=some 88) (v:=?_) (a':=?_) #[false,true,true,true,true,false,false,false,false,false,false,false] rfl rfl (any_of HT_.out (by kernel_rfl)) (fun _ _ _ h => h) (Or.inl ⟨by rfl,?_⟩) ?_ ?_
                    rotate_left
                    ·intro w'
                     go_simp
                     with_reducible rfl
                    rotate_left
                    ·simp only [Act.put,List.setIfInBounds_toArray,List.set_cons_zero,List.set_cons_succ,i64_w,i32_w]
                     rfl
                    refine pure_ (i:=6) (N:=some 90) (v:=?_) (a':=?_) #[false,true,true,true,true,false,true,false,false,false,false,false] rfl rfl (any_of HT_.out (by kernel_rfl)) (fun _ _ _ h => h) (Or.inl ⟨by rfl,?_⟩) ?_ ?_
                    rotate_left
                    ·intro w'
                     go_simp
                     with_reducible rfl
                    rotate_left
                    ·simp only [Act.put,List.setIfInBounds_toArray,List.set_cons_zero,List.set_cons_succ,i64_w,i32_w]
                     rfl
                    refine pure_ (i:=7) (N:=some 91) (v:=?_) (a':=?_) #[false,true,true,true,true,false,true,true,false,false,false,false] rfl rfl (any_of HT_.out (by kernel_rfl)) (fun _ _ _ h => h) (Or.inl ⟨by rfl,?_⟩) ?_ ?_
                    rotate_left
                    ·intro w'
                     go_simp
                     with_reducible rfl
                    rotate_left
                    ·simp only [Act.put,List.setIfInBounds_toArray,List.set_cons_zero,List.set_cons_succ,i64_w,i32_w]
                     rfl
                    refine pure_ (i:=8) (N:=some 92) (v:=?_) (a':=?_) #[false,true,true,true,true,false,true,true,true,false,false,false] rfl rfl (any_of HT_.out (by kernel_rfl)) (fun _ _ _ h => h) (Or.inl ⟨by rfl,?_⟩) ?_ ?_
                    rotate_left
                    ·intro w'
                     go_simp
                     with_reducible rfl
                    rotate_left
                    ·simp only [Act.put,List.setIfInBounds_toArray,List.set_cons_zero,List.set_cons_succ,i64_w,i32_w]
                     rfl
                    refine take_ (i:=0) (N:=some 84) (v:=?_) (a':=?_) #[true,true,true,true,true,false,true,true,true,false,false,false] rfl rfl (take_ofW HT_.out HW_.out (by kernel_rfl)) (fun _ _ _ h => h) (Or.inl ⟨by rfl,?_⟩) hHeld ?_ ?_
                    rotate_left
                    ·rintro w' ⟨s0,s1,s2,s3⟩
                     go_simp
                     with_reducible rfl
                    rotate_left
                    ·simp only [Act.put,List.setIfInBounds_toArray,List.set_cons_zero,List.set_cons_succ,i64_w,i32_w]
                     rfl
                    refine take_ (i:=5) (N:=some 89) (v:=?_) (a':=?_) #[true,true,true,true,true,true,true,true,true,false,false,false] rfl rfl (take_ofW HT_.out HW_.out (by kernel_rfl)) (fun _ _ _ h => h) (Or.inl ⟨by rfl,?_⟩) hHeld ?_ ?_
                    rotate_left
                    ·rintro w' ⟨s0,s1,s2,s3⟩
                     go_simp
                     with_reducible rfl
                    rotate_left
                    ·simp only [Act.put,List.setIfInBounds_toArray,List.set_cons_zero,List.set_cons_succ,i64_w,i32_w]
                     rfl
                    refine take_ (i:=9) (N:=some 93) (v:=?_) (a':=?_) #[true,true,true,true,true,true,true,true,true,true,false,false] rfl rfl (take_ofW HT_.out HW_.out (by kernel_rfl)) (fun _ _ _ h => h) (Or.inl ⟨by rfl,?_⟩) hHeld ?_ ?_
                    rotate_left
                    ·rintro w' ⟨s0,s1,s2,s3⟩
                     go_simp
                     with_reducible rfl
                    rotate_left
                    ·simp only [Act.put,List.setIfInBounds_toArray,List.set_cons_zero,List.set_cons_succ,i64_w,i32_w]
                     rfl
                    refine one_ (i:=10) (N:=some 94) #[true,true,true,true,true,true,true,true,true,true,true,false] rfl rfl (one_of HT_.out (by kernel_rfl)) (by decide) (fun K hK => ?_)
                    refine goes_ Try.func24 (by kernel_rfl) rfl #[.agg #[.slice A0_0 l0_0.length c0_0,.slice A0_1 l0_1.length c0_1],.int .i64 (rd t369 (ji46)),.int .i64 (rd t369 x11_3)] (by rfl) rfl rfl (by (try simp only [List.map_toArray,List.map_cons,List.map_nil]);first | done | (simp only [hji46];rfl) | rfl | (simp only [List.length_drop,List.length_take];rfl)) ?_
                    with_reducible refine (beaconlaw08_weight.calls k4 _ _ l0_0 _ _ l0_1 (rd t369 (ji46)) (rd t369 x11_3) t383 _ ?side1 ?side2 ?side3 ?side4 A51.out).mono ?_
                    (case side1 => repeat (first | exact (Kd.C_below HR0_0.out HB.out) | (with_reducible refine Kd.C_alloc ?_ _) | (with_reducible refine Kd.C_drewN ?_ _) | (with_reducible refine Kd.C_drew ?_)))
                    (case side2 => exact HC0_0.out)
                    (case side3 => repeat (first | exact (Kd.C_below HR0_1.out HB.out) | (with_reducible refine Kd.C_alloc ?_ _) | (with_reducible refine Kd.C_drewN ?_ _) | (with_reducible refine Kd.C_drew ?_)))
                    (case side4 => exact HC0_1.out)
                    rintro e w54 ⟨rfl,hb⟩
                    have HS2_:=(hb.cell (World.block_lt_of_cell? _ _ (hHeld.2.2.1))).trans (hHeld.2.2.1)
                    have HS3_:=(hb.cell (World.block_lt_of_cell? _ _ (hHeld.2.2.2))).trans (hHeld.2.2.2)
                    refine ⟨_,rfl,?_⟩
                    have n0_:=Aside0.mk (Kd.R_below (by (with_reducible repeat (first | apply Kd.R_alloc | apply Kd.R_drewN | apply Kd.R_drew));exact HO_7.out) hb)
                    have n1_:=Aside0.mk (blk_below (g:=gb367) (o:=.cells #[.slice A0_0 l0_0.length c0_0,.slice A0_1 l0_1.length c0_1] 25 (0,0)) (by (with_reducible repeat (first | refine blk_drewN ?_ _ | refine blk_drew ?_ | refine blk_alloc ?_ _));exact BK367.out) hb)
                    have n2_:=Aside0.mk (blk_below (g:=gb368) (o:=.cells #[.int .i64 a2_0,.int .i64 a2_1] 45 (0,0)) (by (with_reducible repeat (first | refine blk_drewN ?_ _ | refine blk_drew ?_ | refine blk_alloc ?_ _));exact BK368.out) hb)
                    have n3_:=Aside0.mk (below_step (by repeat (first | (with_reducible first | exact HB.out | apply below_alloc | apply pw_below_drewN | apply below_drew1 | refine below_set ?_ GE367.out | refine below_set ?_ GE368.out) | exact HB.out)) hb)
                    clear HO_7
                    clear BK367
                    clear BK368
                    clear HB
                    have HO_7:=n0_
                    have BK367:=n1_
                    have BK368:=n2_
                    have HB:=n3_
                    clear n0_ n1_ n2_ n3_
                    (try clear hb)
                    (try clear hb2)
                    (try clear hk)
                    (try clear hi)
                    refine hK.out _ _ ⟨(blk_cell BK367.out 0).trans rfl,(blk_cell BK367.out 1).trans rfl,HS2_,HS3_⟩ (fun hHeld => ?_)
                    clear hK K
                    refine norm_ (a':=?_) ?_ ?_
                    rotate_left
                    ·show Act.put _ (some 94) _ = _
                     simp only [Act.put,List.setIfInBounds_toArray,List.set_cons_zero,List.set_cons_succ,i64_w,i32_w]
                     rfl
                    refine pure_ (i:=11) (N:=some 13) (v:=?_) (a':=?_) #[true,true,true,true,true,true,true,true,true,true,true,true] rfl rfl (any_of HT_.out (by kernel_rfl)) (fun _ _ _ h => h) (Or.inl ⟨by rfl,?_⟩) ?_ ?_
                    rotate_left
                    ·intro w'
                     go_simp
                     with_reducible rfl
                    rotate_left
                    ·simp only [Act.put,List.setIfInBounds_toArray,List.set_cons_zero,List.set_cons_succ,i64_w,i32_w]
                     rfl
                    refine done_ (done_of HT_.out (by kernel_rfl)) ?_
                    try go_wp2
                    go_ret
                    exact ⟨by first | rfl | (simp [errW_none,errW_some] <;> rfl) | (simp only [← hji46];first | rfl | (simp [errW_none,errW_some] <;> rfl)) | (simp [*,errW_none,errW_some] <;> rfl),by repeat (first | (with_reducible first | exact HB.out | apply below_alloc | apply pw_below_drewN | apply below_drew1 | refine below_set ?_ GE367.out | refine below_set ?_ GE368.out) | exact HB.out)⟩
                   ·rw [if_neg c52] at H
                    have c52b0:(FloatKind.f64.format.order t383 0 == some .eq) = false:=by simpa using c52
                    (try (have c52b1:decide (FloatKind.f64.format.order t383 0 = some .eq) = false:=by simpa using c52))
                    (try (have c52b2:(FloatKind.f64.format.order t383 0 == some .eq) = false:=by simpa using c52))
                    (try (have c52b3:¬ (FloatKind.f64.format.order t383 0 = some .eq):=by simpa using c52))
                    clear c52
                    replace H:=Option.bind_eq_some_iff.mp H
                    obtain ⟨t384,A550,H⟩:=H
                    replace H:(beaconlaw08_PathsSteps.j4 k4 a1 t369 t372 t384 x11_3 l0_0 l0_1 a2_0 a2_1) = some r:=H
                    have A55f:∀ W_:World,(binOp .add 26 (.float .f64 x10_3) (.float .f64 t383)).run Try.prog W_ = .ok (.float .f64 t384) W_:=fun W_ => run_float_arith W_ .add 26 .f64 _ _ _ A550
                    have A55:=Aside0.mk A550
                    clear A550
                    have H':=Aside0.mk H
                    clear H
                    try go_wp2
                    have n0_:=Aside0.mk (Kd.R_drew HO_7.out)
                    have n1_:=Aside0.mk (blk_drew BK367.out)
                    have n2_:=Aside0.mk (blk_drew BK368.out)
                    have n3_:=Aside0.mk (below_drew1 HB.out)
                    clear HO_7
                    clear BK367
                    clear BK368
                    clear HB
                    have HO_7:=n0_
                    have BK367:=n1_
                    have BK368:=n2_
                    have HB:=n3_
                    clear n0_ n1_ n2_ n3_
                    have p381:0 ≤ ((ji46):Int):=of_decide_eq_true (by first | (with_reducible assumption) | assumption)
                    have q381:(ji46) < (t369.length:Int):=of_decide_eq_true (by first | (with_reducible assumption) | assumption)
                    obtain ⟨ad381,e381,hx381_0⟩:=Kd.at_int (Kd.R_reads' HO_7.out).2.2 (ji46) p381 q381
                    cases e381
                    replace p381:=eq_true p381
                    replace q381:=eq_true q381
                    have p382:0 ≤ (x11_3:Int):=of_decide_eq_true (by first | (with_reducible assumption) | assumption)
                    have q382:x11_3 < (t369.length:Int):=of_decide_eq_true (by first | (with_reducible assumption) | assumption)
                    obtain ⟨ad382,e382,hx382_0⟩:=Kd.at_int (Kd.R_reads' HO_7.out).2.2 x11_3 p382 q382
                    obtain rfl:ad381 = ad382:=(by injection e382)
                    replace p382:=eq_true p382
                    replace q382:=eq_true q382
                    refine start_ (n:=12) (S:=fun w' => w'.cell? ⟨gb367,0,none⟩ = some (.slice A0_0 l0_0.length c0_0) ∧ w'.cell? ⟨gb367,1,none⟩ = some (.slice A0_1 l0_1.length c0_1) ∧ w'.cell? (ad381.add ((ji46)).toNat) = some (.int .i64 (rd t369 (ji46))) ∧ w'.cell? (ad381.add (x11_3).toNat) = some (.int .i64 (rd t369 x11_3))) (ds:=[]) #[false,false,false,false,false,false,false,false,false,false,false,false] (by kernel_rfl) rfl rfl ⟨(blk_cell BK367.out 0).trans rfl,(blk_cell BK367.out 1).trans rfl,hx381_0,hx382_0⟩ (fun hHeld => ?_);refine with_tabW beaconlaw08_PathsSteps.tab16 beaconlaw08_PathsSteps.bits16 (fun HT_ HW_ => ?_)
                    generalize wr.drew = w56 at HO_7 BK367 BK368 HB hx381_0 hx382_0 hHeld ⊢
                    refine pure_ (i:=1) (N:=some 85) (v:=?_) (a':=?_) #[false,true,false,false,false,false,false,false,false,false,false,false] rfl rfl (any_of HT_.out (by kernel_rfl)) (fun _ _ _ h => h) (Or.inl ⟨by rfl,?_⟩) ?_ ?_
                    rotate_left
                    ·intro w'
                     go_simp
                     with_reducible rfl
                    rotate_left
                    ·simp only [Act.put,List.setIfInBounds_toArray,List.set_cons_zero,List.set_cons_succ,i64_w,i32_w]
                     rfl
                    refine pure_ (i:=2) (N:=some 86) (v:=?_) (a':=?_) #[false,true,true,false,false,false,false,false,false,false,false,false] rfl rfl (any_of HT_.out (by kernel_rfl)) (fun _ _ _ h => h) (Or.inl ⟨by rfl,?_⟩) ?_ ?_
                    rotate_left
                    ·intro w'
                     go_simp
                     with_reducible rfl
                    rotate_left
                    ·simp only [Act.put,List.setIfInBounds_toArray,List.set_cons_zero,List.set_cons_succ,i64_w,i32_w]
                     rfl
                    refine pure_ (i:=3) (N:=some 87) (v:=?_) (a':=?_) #[false,true,true,true,false,false,false,false,false,false,false,false] rfl rfl (any_of HT_.out (by kernel_rfl)) (fun _ _ _ h => h) (Or.inl ⟨by rfl,?_⟩) ?_ ?_
                    rotate_left
                    ·intro w'
                     go_simp
                     with_reducible rfl
                    rotate_left
                    ·simp only [Act.put,List.setIfInBounds_toArray,List.set_cons_zero,List.set_cons_succ,i64_w,i32_w]
                     rfl
                    refine pure_ (i:=4) (N:=some 88) (v:=?_) (a':=?_) #[false,true,true,true,true,false,false,false,false,false,false,false] rfl rfl (any_of HT_.out (by kernel_rfl)) (fun _ _ _ h => h) (Or.inl ⟨by rfl,?_⟩) ?_ ?_
                    rotate_left
                    ·intro w'
                     go_simp
                     with_reducible rfl
                    rotate_left
                    ·simp only [Act.put,List.setIfInBounds_toArray,List.set_cons_zero,List.set_cons_succ,i64_w,i32_w]
                     rfl
                    refine pure_ (i:=6) (N:=some 90) (v:=?_) (a':=?_) #[false,true,true,true,true,false,true,false,false,false,false,false] rfl rfl (any_of HT_.out (by kernel_rfl)) (fun _ _ _ h => h) (Or.inl ⟨by rfl,?_⟩) ?_ ?_
                    rotate_left
                    ·intro w'
                     go_simp
                     with_reducible rfl
                    rotate_left
                    ·simp only [Act.put,List.setIfInBounds_toArray,List.set_cons_zero,List.set_cons_succ,i64_w,i32_w]
                     rfl
                    refine pure_ (i:=7) (N:=some 91) (v:=?_) (a':=?_) #[false,true,true,true,true,false,true,true,false,false,false,false] rfl rfl (any_of HT_.out (by kernel_rfl)) (fun _ _ _ h => h) (Or.inl ⟨by rfl,?_⟩) ?_ ?_
                    rotate_left
                    ·intro w'
                     go_simp
                     with_reducible rfl
                    rotate_left
                    ·simp only [Act.put,List.setIfInBounds_toArray,List.set_cons_zero,List.set_cons_succ,i64_w,i32_w]
                     rfl
                    refine pure_ (i:=8) (N:=some 92) (v:=?_) (a':=?_) #[false,true,true,true,true,false,true,true,true,false,false,false] rfl rfl (any_of HT_.out (by kernel_rfl)) (fun _ _ _ h => h) (Or.inl ⟨by rfl,?_⟩) ?_ ?_
                    rotate_left
                    ·intro w'
                     go_simp
                     with_reducible rfl
                    rotate_left
                    ·simp only [Act.put,List.setIfInBounds_toArray,List.set_cons_zero,List.set_cons_succ,i64_w,i32_w]
                     rfl
                    refine take_ (i:=0) (N:=some 84) (v:=?_) (a':=?_) #[true,true,true,true,true,false,true,true,true,false,false,false] rfl rfl (take_ofW HT_.out HW_.out (by kernel_rfl)) (fun _ _ _ h => h) (Or.inl ⟨by rfl,?_⟩) hHeld ?_ ?_
                    rotate_left
                    ·rintro w' ⟨s0,s1,s2,s3⟩
                     go_simp
                     with_reducible rfl
                    rotate_left
                    ·simp only [Act.put,List.setIfInBounds_toArray,List.set_cons_zero,List.set_cons_succ,i64_w,i32_w]
                     rfl
                    refine take_ (i:=5) (N:=some 89) (v:=?_) (a':=?_) #[true,true,true,true,true,true,true,true,true,false,false,false] rfl rfl (take_ofW HT_.out HW_.out (by kernel_rfl)) (fun _ _ _ h => h) (Or.inl ⟨by rfl,?_⟩) hHeld ?_ ?_
                    rotate_left
                    ·rintro w' ⟨s0,s1,s2,s3⟩
                     go_simp
                     with_reducible rfl
                    rotate_left
                    ·simp only [Act.put,List.setIfInBounds_toArray,List.set_cons_zero,List.set_cons_succ,i64_w,i32_w]
                     rfl
                    refine take_ (i:=9) (N:=some 93) (v:=?_) (a':=?_) #[true,true,true,true,true,true,true,true,true,true,false,false] rfl rfl (take_ofW HT_.out HW_.out (by kernel_rfl)) (fun _ _ _ h => h) (Or.inl ⟨by rfl,?_⟩) hHeld ?_ ?_
                    rotate_left
                    ·rintro w' ⟨s0,s1,s2,s3⟩
                     go_simp
                     with_reducible rfl
                    rotate_left
                    ·simp only [Act.put,List.setIfInBounds_toArray,List.set_cons_zero,List.set_cons_succ,i64_w,i32_w]
                     rfl
                    refine one_ (i:=10) (N:=some 94) #[true,true,true,true,true,true,true,true,true,true,true,false] rfl rfl (one_of HT_.out (by kernel_rfl)) (by decide) (fun K hK => ?_)
                    refine goes_ Try.func24 (by kernel_rfl) rfl #[.agg #[.slice A0_0 l0_0.length c0_0,.slice A0_1 l0_1.length c0_1],.int .i64 (rd t369 (ji46)),.int .i64 (rd t369 x11_3)] (by rfl) rfl rfl (by (try simp only [List.map_toArray,List.map_cons,List.map_nil]);first | done | (simp only [hji46];rfl) | rfl | (simp only [List.length_drop,List.length_take];rfl)) ?_
                    with_reducible refine (beaconlaw08_weight.calls k4 _ _ l0_0 _ _ l0_1 (rd t369 (ji46)) (rd t369 x11_3) t383 _ ?side1 ?side2 ?side3 ?side4 A51.out).mono ?_
                    (case side1 => repeat (first | exact (Kd.C_below HR0_0.out HB.out) | (with_reducible refine Kd.C_alloc ?_ _) | (with_reducible refine Kd.C_drewN ?_ _) | (with_reducible refine Kd.C_drew ?_)))
                    (case side2 => exact HC0_0.out)
                    (case side3 => repeat (first | exact (Kd.C_below HR0_1.out HB.out) | (with_reducible refine Kd.C_alloc ?_ _) | (with_reducible refine Kd.C_drewN ?_ _) | (with_reducible refine Kd.C_drew ?_)))
                    (case side4 => exact HC0_1.out)
                    rintro e w57 ⟨rfl,hb⟩
                    have HS2_:=(hb.cell (World.block_lt_of_cell? _ _ (hHeld.2.2.1))).trans (hHeld.2.2.1)
                    have HS3_:=(hb.cell (World.block_lt_of_cell? _ _ (hHeld.2.2.2))).trans (hHeld.2.2.2)
                    refine ⟨_,rfl,?_⟩
                    have n0_:=Aside0.mk (Kd.R_below (by (with_reducible repeat (first | apply Kd.R_alloc | apply Kd.R_drewN | apply Kd.R_drew));exact HO_7.out) hb)
                    have n1_:=Aside0.mk (blk_below (g:=gb367) (o:=.cells #[.slice A0_0 l0_0.length c0_0,.slice A0_1 l0_1.length c0_1] 25 (0,0)) (by (with_reducible repeat (first | refine blk_drewN ?_ _ | refine blk_drew ?_ | refine blk_alloc ?_ _));exact BK367.out) hb)
                    have n2_:=Aside0.mk (blk_below (g:=gb368) (o:=.cells #[.int .i64 a2_0,.int .i64 a2_1] 45 (0,0)) (by (with_reducible repeat (first | refine blk_drewN ?_ _ | refine blk_drew ?_ | refine blk_alloc ?_ _));exact BK368.out) hb)
                    have n3_:=Aside0.mk (below_step (by repeat (first | (with_reducible first | exact HB.out | apply below_alloc | apply pw_below_drewN | apply below_drew1 | refine below_set ?_ GE367.out | refine below_set ?_ GE368.out) | exact HB.out)) hb)
                    clear HO_7
                    clear BK367
                    clear BK368
                    clear HB
                    have HO_7:=n0_
                    have BK367:=n1_
                    have BK368:=n2_
                    have HB:=n3_
                    clear n0_ n1_ n2_ n3_
                    (try clear hb)
                    (try clear hb2)
                    (try clear hk)
                    (try clear hi)
                    refine hK.out _ _ ⟨(blk_cell BK367.out 0).trans rfl,(blk_cell BK367.out 1).trans rfl,HS2_,HS3_⟩ (fun hHeld => ?_)
                    clear hK K
                    refine norm_ (a':=?_) ?_ ?_
                    rotate_left
                    ·show Act.put _ (some 94) _ = _
                     simp only [Act.put,List.setIfInBounds_toArray,List.set_cons_zero,List.set_cons_succ,i64_w,i32_w]
                     rfl
                    refine pure_ (i:=11) (N:=some 13) (v:=?_) (a':=?_) #[true,true,true,true,true,true,true,true,true,true,true,true] rfl rfl (any_of HT_.out (by kernel_rfl)) (fun _ _ _ h => h) (Or.inl ⟨by rfl,?_⟩) ?_ ?_
                    rotate_left
                    ·intro w'
                     go_simp
                     with_reducible rfl
                    rotate_left
                    ·simp only [Act.put,List.setIfInBounds_toArray,List.set_cons_zero,List.set_cons_succ,i64_w,i32_w]
                     rfl
                    refine done_ (done_of HT_.out (by kernel_rfl)) ?_
                    try go_wp2
                    go_meet
                    case rel => exact ⟨_,(t384),(by first | rfl | (simp;done) | (simp [*];done)),H',⟨by have:=HJ4.out;have:=HJ19.out;have:=HK3.out;have:=HK4.out;first | omega | exact Nat.le_refl _⟩,⟨by (with_reducible repeat (first | apply Kd.R_alloc | apply Kd.R_drewN | apply Kd.R_drew));exact HO_7.out⟩,⟨by (with_reducible repeat (first | refine blk_drewN ?_ _ | refine blk_drew ?_ | refine blk_alloc ?_ _));exact BK367.out⟩,⟨by (with_reducible repeat (first | refine blk_drewN ?_ _ | refine blk_drew ?_ | refine blk_alloc ?_ _));exact BK368.out⟩,⟨by repeat (first | (with_reducible first | exact HB.out | apply below_alloc | apply pw_below_drewN | apply below_drew1 | refine below_set ?_ GE367.out | refine below_set ?_ GE368.out) | exact HB.out)⟩⟩
                  ·rw [if_neg c50] at H
                   exact absurd H (by simp)
                 ·rw [if_neg c49] at H
                  exact absurd H (by simp)
                ·rw [if_neg c48] at H
                 exact absurd H (by simp)
               ·rw [if_neg c47] at H
                exact absurd H (by simp)
              ·rw [if_neg c45] at H
               have c45b0:decide (0 < x11_3) = false:=decide_eq_false c45
               clear c45
               (first | rw [c45b0] | (simp only [i64_w,i32_w];rw [c45b0]) | skip)
               have H':=Aside0.mk H
               clear H
               go_wp2
               go_meet
               case rel => exact ⟨_,(x10_3),(by first | rfl | (simp;done) | (simp [*];done)),H',⟨by have:=HJ4.out;have:=HJ19.out;have:=HK3.out;have:=HK4.out;first | omega | exact Nat.le_refl _⟩,⟨by (with_reducible repeat (first | apply Kd.R_alloc | apply Kd.R_drewN | apply Kd.R_drew));exact HO_7.out⟩,⟨by (with_reducible repeat (first | refine blk_drewN ?_ _ | refine blk_drew ?_ | refine blk_alloc ?_ _));exact BK367.out⟩,⟨by (with_reducible repeat (first | refine blk_drewN ?_ _ | refine blk_drew ?_ | refine blk_alloc ?_ _));exact BK368.out⟩,⟨by repeat (first | (with_reducible first | exact HB.out | apply below_alloc | apply pw_below_drewN | apply below_drew1 | refine below_set ?_ GE367.out | refine below_set ?_ GE368.out) | exact HB.out)⟩⟩
             case rest =>
              clear HC44
              try clear c2
              try clear p2
              try clear c3
              try clear p3
              try clear q3
              try clear hx3
              try clear c4
              try clear c5
              try clear p6
              try clear c24
              try clear c36
              try clear c36b0
              try clear c37
              try clear p37
              try clear q37
              try clear hx37
              try clear c38
              try clear p38
              try clear q38
              try clear hx38
              try clear c39
              try clear c40
              try clear c41
              try clear c41b0
              try clear c41b1
              try clear c45
              try clear c45b0
              try clear c47
              try clear c47b0
              try clear c48
              try clear c48b0
              try clear c49
              try clear c49b0
              try clear c50
              try clear c50b0
              try clear c52
              try clear c52b0
              try clear c52b1
              try clear c52b2
              try clear hx379_0
              try clear hx380_0
              try clear hx381_0
              try clear hx382_0
              try clear p379
              try clear p380
              try clear p381
              try clear p382
              try clear q379
              try clear q380
              try clear q381
              try clear q382
              obtain ⟨kq,x10_43,rfl,HA,HJ43,HO_7,BK367,BK368,HB⟩:=hcut
              cases kq with
              | zero => exact absurd HA.out (by simp [beaconlaw08_PathsSteps.j4])
              | succ kj43 =>
               have H:=HA.out
               clear HA
               simp only [beaconlaw08_PathsSteps.j4] at H
               by_cases c58:0 ≤ x11_3
               ·rw [if_pos c58] at H
                have c58b0:decide (0 ≤ x11_3) = true:=decide_eq_true c58
                clear c58
                by_cases c59:x11_3 < (t369.length:Int)
                ·rw [if_pos c59] at H
                 have c59b0:decide (x11_3 < (t369.length:Int)) = true:=decide_eq_true c59
                 clear c59
                 replace H:=Option.bind_eq_some_iff.mp H
                 obtain ⟨⟨t386,t389,t390⟩,A600,H⟩:=H
                 replace H:(if t390 = 0 then (if x11_3 ≤ (t369.length:Int) then ((beaconlaw08_ints.f kj43 t386 (t369.drop (x11_3:Int).toNat)).bind fun t395 => (if t395 = true then ((floatBits .add .f64 x10_43 t389).bind fun t396 => (beaconlaw08_PathsSteps.j5 kj43 a1 t369 t372 x10_43 x11_3 (FloatKind.f64.format.order t396 t372 != some .eq) l0_0 l0_1 a2_0 a2_1)) else (beaconlaw08_PathsSteps.j5 kj43 a1 t369 t372 x10_43 x11_3 true l0_0 l0_1 a2_0 a2_1))) else (none)) else (beaconlaw08_PathsSteps.j5 kj43 a1 t369 t372 x10_43 x11_3 true l0_0 l0_1 a2_0 a2_1)) = some r:=H
                 have A60:=Aside0.mk A600
                 clear A600
                 have HC61:=Aside0.mk H
                 clear H
                 try go_wp2
                 have n0_:=Aside0.mk (Kd.R_drew HO_7.out)
                 have n1_:=Aside0.mk (blk_drew BK367.out)
                 have n2_:=Aside0.mk (blk_drew BK368.out)
                 have n3_:=Aside0.mk (below_drew1 HB.out)
                 clear HO_7
                 clear BK367
                 clear BK368
                 clear HB
                 have HO_7:=n0_
                 have BK367:=n1_
                 have BK368:=n2_
                 have HB:=n3_
                 clear n0_ n1_ n2_ n3_
                 have p385:0 ≤ (x11_3:Int):=of_decide_eq_true (by first | (with_reducible assumption) | assumption)
                 have q385:x11_3 < (t369.length:Int):=of_decide_eq_true (by first | (with_reducible assumption) | assumption)
                 obtain ⟨ad385,e385,hx385_0⟩:=Kd.at_int (Kd.R_reads' HO_7.out).2.2 x11_3 p385 q385
                 cases e385
                 replace p385:=eq_true p385
                 replace q385:=eq_true q385
                 refine start_ (n:=16) (S:=fun w' => w'.cell? ⟨gb367,0,none⟩ = some (.slice A0_0 l0_0.length c0_0) ∧ w'.cell? ⟨gb367,1,none⟩ = some (.slice A0_1 l0_1.length c0_1) ∧ w'.cell? ⟨gb368,0,none⟩ = some (.int .i64 a2_0) ∧ w'.cell? ⟨gb368,1,none⟩ = some (.int .i64 a2_1) ∧ w'.cell? (ad385.add (x11_3).toNat) = some (.int .i64 (rd t369 x11_3))) (ds:=[]) #[false,false,false,false,false,false,false,false,false,false,false,false,false,false,false,false] (by kernel_rfl) rfl rfl ⟨(blk_cell BK367.out 0).trans rfl,(blk_cell BK367.out 1).trans rfl,(blk_cell BK368.out 0).trans rfl,(blk_cell BK368.out 1).trans rfl,hx385_0⟩ (fun hHeld => ?_);refine with_tabW beaconlaw08_PathsSteps.tab20 beaconlaw08_PathsSteps.bits20 (fun HT_ HW_ => ?_)
                 generalize wc.drew = w62 at HO_7 BK367 BK368 HB hx385_0 hHeld ⊢
                 refine pure_ (i:=1) (N:=some 102) (v:=?_) (a':=?_) #[false,true,false,false,false,false,false,false,false,false,false,false,false,false,false,false] rfl rfl (any_of HT_.out (by kernel_rfl)) (fun _ _ _ h => h) (Or.inl ⟨by rfl,?_⟩) ?_ ?_
                 rotate_left
                 ·intro w'
                  go_simp
                  with_reducible rfl
                 rotate_left
                 ·simp only [Act.put,List.setIfInBounds_toArray,List.set_cons_zero,List.set_cons_succ,i64_w,i32_w]
                  rfl
                 refine pure_ (i:=2) (N:=some 103) (v:=?_) (a':=?_) #[false,true,true,false,false,false,false,false,false,false,false,false,false,false,false,false] rfl rfl (any_of HT_.out (by kernel_rfl)) (fun _ _ _ h => h) (Or.inl ⟨by rfl,?_⟩) ?_ ?_
                 rotate_left
                 ·intro w'
                  go_simp
                  with_reducible rfl
                 rotate_left
                 ·simp only [Act.put,List.setIfInBounds_toArray,List.set_cons_zero,List.set_cons_succ,i64_w,i32_w]
                  rfl
                 refine pure_ (i:=3) (N:=some 104) (v:=?_) (a':=?_) #[false,true,true,true,false,false,false,false,false,false,false,false,false,false,false,false] rfl rfl (any_of HT_.out (by kernel_rfl)) (fun _ _ _ h => h) (Or.inl ⟨by rfl,?_⟩) ?_ ?_
                 rotate_left
                 ·intro w'
                  go_simp
                  with_reducible rfl
                 rotate_left
                 ·simp only [Act.put,List.setIfInBounds_toArray,List.set_cons_zero,List.set_cons_succ,i64_w,i32_w]
                  rfl
                 refine pure_ (i:=4) (N:=some 105) (v:=?_) (a':=?_) #[false,true,true,true,true,false,false,false,false,false,false,false,false,false,false,false] rfl rfl (any_of HT_.out (by kernel_rfl)) (fun _ _ _ h => h) (Or.inl ⟨by rfl,?_⟩) ?_ ?_
                 rotate_left
                 ·intro w'
                  go_simp
                  with_reducible rfl
                 rotate_left
                 ·simp only [Act.put,List.setIfInBounds_toArray,List.set_cons_zero,List.set_cons_succ,i64_w,i32_w]
                  rfl
                 refine pure_ (i:=6) (N:=some 107) (v:=?_) (a':=?_) #[false,true,true,true,true,false,true,false,false,false,false,false,false,false,false,false] rfl rfl (any_of HT_.out (by kernel_rfl)) (fun _ _ _ h => h) (Or.inl ⟨by rfl,?_⟩) ?_ ?_
                 rotate_left
                 ·intro w'
                  go_simp
                  with_reducible rfl
                 rotate_left
                 ·simp only [Act.put,List.setIfInBounds_toArray,List.set_cons_zero,List.set_cons_succ,i64_w,i32_w]
                  rfl
                 refine take_ (i:=0) (N:=some 101) (v:=?_) (a':=?_) #[true,true,true,true,true,false,true,false,false,false,false,false,false,false,false,false] rfl rfl (take_ofW HT_.out HW_.out (by kernel_rfl)) (fun _ _ _ h => h) (Or.inl ⟨by rfl,?_⟩) hHeld ?_ ?_
                 rotate_left
                 ·rintro w' ⟨s0,s1,s2,s3,s4⟩
                  go_simp
                  with_reducible rfl
                 rotate_left
                 ·simp only [Act.put,List.setIfInBounds_toArray,List.set_cons_zero,List.set_cons_succ,i64_w,i32_w]
                  rfl
                 refine take_ (i:=5) (N:=some 106) (v:=?_) (a':=?_) #[true,true,true,true,true,true,true,false,false,false,false,false,false,false,false,false] rfl rfl (take_ofW HT_.out HW_.out (by kernel_rfl)) (fun _ _ _ h => h) (Or.inl ⟨by rfl,?_⟩) hHeld ?_ ?_
                 rotate_left
                 ·rintro w' ⟨s0,s1,s2,s3,s4⟩
                  go_simp
                  with_reducible rfl
                 rotate_left
                 ·simp only [Act.put,List.setIfInBounds_toArray,List.set_cons_zero,List.set_cons_succ,i64_w,i32_w]
                  rfl
                 refine take_ (i:=7) (N:=some 108) (v:=?_) (a':=?_) #[true,true,true,true,true,true,true,true,false,false,false,false,false,false,false,false] rfl rfl (take_ofW HT_.out HW_.out (by kernel_rfl)) (fun _ _ _ h => h) (Or.inl ⟨by rfl,?_⟩) hHeld ?_ ?_
                 rotate_left
                 ·rintro w' ⟨s0,s1,s2,s3,s4⟩
                  go_simp
                  with_reducible rfl
                 rotate_left
                 ·simp only [Act.put,List.setIfInBounds_toArray,List.set_cons_zero,List.set_cons_succ,i64_w,i32_w]
                  rfl
                 refine one_ (i:=8) (N:=some 109) #[true,true,true,true,true,true,true,true,true,false,false,false,false,false,false,false] rfl rfl (one_of HT_.out (by kernel_rfl)) (by decide) (fun K hK => ?_)
                 refine goes_ Try.func21 (by kernel_rfl) rfl #[.agg #[.slice A0_0 l0_0.length c0_0,.slice A0_1 l0_1.length c0_1],.float .f64 a1,.int .i64 (rd t369 x11_3),.int .i64 a2_1] (by rfl) rfl rfl (by (try simp only [List.map_toArray,List.map_cons,List.map_nil]);first | done | rfl | (simp only [List.length_drop,List.length_take];rfl)) ?_
                 with_reducible refine (paths_Path.calls _ _ l0_0 _ _ l0_1 a1 (rd t369 x11_3) a2_1 t386 t389 t390 _ ?side1 ?side2 ?side3 ?side4 A60.out).mono ?_
                 (case side1 => repeat (first | exact (Kd.C_below HR0_0.out HB.out) | (with_reducible refine Kd.C_alloc ?_ _) | (with_reducible refine Kd.C_drewN ?_ _) | (with_reducible refine Kd.C_drew ?_)))
                 (case side2 => exact HC0_0.out)
                 (case side3 => repeat (first | exact (Kd.C_below HR0_1.out HB.out) | (with_reducible refine Kd.C_alloc ?_ _) | (with_reducible refine Kd.C_drewN ?_ _) | (with_reducible refine Kd.C_drew ?_)))
                 (case side4 => exact HC0_1.out)
                 rintro e w63 ⟨v387,rfl,ho0,hb⟩
                 have HS4_:=(hb.cell (World.block_lt_of_cell? _ _ (hHeld.2.2.2.2))).trans (hHeld.2.2.2.2)
                 refine ⟨_,rfl,?_⟩
                 have n0_:=Aside0.mk (Kd.R_elder' (by (with_reducible repeat (first | apply Kd.R_alloc | apply Kd.R_drewN | apply Kd.R_drew));exact HO_7.out) (Kd.R_base ho0) hb)
                 have n1_:=Aside0.mk (Kd.R_lower (Kd.R_new' ho0 (Kd.R_lt (by (with_reducible repeat (first | apply Kd.R_alloc | apply Kd.R_drewN | apply Kd.R_drew));exact HO_7.out))) (below_size (by repeat (first | (with_reducible first | exact HB.out | apply below_alloc | apply pw_below_drewN | apply below_drew1 | refine below_set ?_ GE367.out | refine below_set ?_ GE368.out) | exact HB.out))))
                 have n2_:=Aside0.mk (blk_below (g:=gb367) (o:=.cells #[.slice A0_0 l0_0.length c0_0,.slice A0_1 l0_1.length c0_1] 25 (0,0)) (by (with_reducible repeat (first | refine blk_drewN ?_ _ | refine blk_drew ?_ | refine blk_alloc ?_ _));exact BK367.out) hb)
                 have n3_:=Aside0.mk (blk_below (g:=gb368) (o:=.cells #[.int .i64 a2_0,.int .i64 a2_1] 45 (0,0)) (by (with_reducible repeat (first | refine blk_drewN ?_ _ | refine blk_drew ?_ | refine blk_alloc ?_ _));exact BK368.out) hb)
                 have n4_:=Aside0.mk (below_step (by repeat (first | (with_reducible first | exact HB.out | apply below_alloc | apply pw_below_drewN | apply below_drew1 | refine below_set ?_ GE367.out | refine below_set ?_ GE368.out) | exact HB.out)) hb)
                 clear HO_7
                 clear BK367
                 clear BK368
                 clear HB
                 have HO_7:=n0_
                 have HO388:=n1_
                 have BK367:=n2_
                 have BK368:=n3_
                 have HB:=n4_
                 clear n0_ n1_ n2_ n3_ n4_
                 (try clear hb)
                 (try clear hb2)
                 (try clear hk)
                 (try clear hi)
                 (try clear ho0)
                 refine hK.out _ _ ⟨(blk_cell BK367.out 0).trans rfl,(blk_cell BK367.out 1).trans rfl,(blk_cell BK368.out 0).trans rfl,(blk_cell BK368.out 1).trans rfl,HS4_⟩ (fun hHeld => ?_)
                 clear hK K
                 refine norm_ (a':=?_) ?_ ?_
                 rotate_left
                 ·show Act.put _ (some 109) _ = _
                  simp only [Act.put,List.setIfInBounds_toArray,List.set_cons_zero,List.set_cons_succ,i64_w,i32_w]
                  rfl
                 refine pure_ (i:=9) (N:=some 100) (v:=?_) (a':=?_) #[true,true,true,true,true,true,true,true,true,true,false,false,false,false,false,false] rfl rfl (any_of HT_.out (by kernel_rfl)) (fun _ _ _ h => h) (Or.inl ⟨by rfl,?_⟩) ?_ ?_
                 rotate_left
                 ·intro w'
                  go_simp
                  with_reducible rfl
                 rotate_left
                 ·simp only [Act.put,List.setIfInBounds_toArray,List.set_cons_zero,List.set_cons_succ,i64_w,i32_w]
                  rfl
                 refine pure_ (i:=10) (N:=some 110) (v:=?_) (a':=?_) #[true,true,true,true,true,true,true,true,true,true,true,false,false,false,false,false] rfl rfl (any_of HT_.out (by kernel_rfl)) (fun _ _ _ h => h) (Or.inl ⟨by rfl,?_⟩) ?_ ?_
                 rotate_left
                 ·intro w'
                  go_simp
                  with_reducible rfl
                 rotate_left
                 ·simp only [Act.put,List.setIfInBounds_toArray,List.set_cons_zero,List.set_cons_succ,i64_w,i32_w]
                  rfl
                 refine pure_ (i:=11) (N:=some 111) (v:=?_) (a':=?_) #[true,true,true,true,true,true,true,true,true,true,true,true,false,false,false,false] rfl rfl (any_of HT_.out (by kernel_rfl)) (fun _ _ _ h => h) (Or.inl ⟨by rfl,?_⟩) ?_ ?_
                 rotate_left
                 ·intro w'
                  go_simp
                  with_reducible rfl
                 rotate_left
                 ·simp only [Act.put,List.setIfInBounds_toArray,List.set_cons_zero,List.set_cons_succ,i64_w,i32_w]
                  rfl
                 refine pure_ (i:=12) (N:=some 112) (v:=?_) (a':=?_) #[true,true,true,true,true,true,true,true,true,true,true,true,true,false,false,false] rfl rfl (any_of HT_.out (by kernel_rfl)) (fun _ _ _ h => h) (Or.inl ⟨by rfl,?_⟩) ?_ ?_
                 rotate_left
                 ·intro w'
                  go_simp
                  with_reducible rfl
                 rotate_left
                 ·simp only [Act.put,List.setIfInBounds_toArray,List.set_cons_zero,List.set_cons_succ,i64_w,i32_w]
                  rfl
                 refine pure_ (i:=13) (N:=some 14) (v:=?_) (a':=?_) #[true,true,true,true,true,true,true,true,true,true,true,true,true,true,false,false] rfl rfl (any_of HT_.out (by kernel_rfl)) (fun _ _ _ h => h) (Or.inl ⟨by rfl,?_⟩) ?_ ?_
                 rotate_left
                 ·intro w'
                  go_simp
                  with_reducible rfl
                 rotate_left
                 ·simp only [Act.put,List.setIfInBounds_toArray,List.set_cons_zero,List.set_cons_succ,i64_w,i32_w]
                  rfl
                 refine pure_ (i:=14) (N:=some 15) (v:=?_) (a':=?_) #[true,true,true,true,true,true,true,true,true,true,true,true,true,true,true,false] rfl rfl (any_of HT_.out (by kernel_rfl)) (fun _ _ _ h => h) (Or.inl ⟨by rfl,?_⟩) ?_ ?_
                 rotate_left
                 ·intro w'
                  go_simp
                  with_reducible rfl
                 rotate_left
                 ·simp only [Act.put,List.setIfInBounds_toArray,List.set_cons_zero,List.set_cons_succ,i64_w,i32_w]
                  rfl
                 refine pure_ (i:=15) (N:=some 16) (v:=?_) (a':=?_) #[true,true,true,true,true,true,true,true,true,true,true,true,true,true,true,true] rfl rfl (any_of HT_.out (by kernel_rfl)) (fun _ _ _ h => h) (Or.inl ⟨by rfl,?_⟩) ?_ ?_
                 rotate_left
                 ·intro w'
                  go_simp
                  with_reducible rfl
                 rotate_left
                 ·simp only [Act.put,List.setIfInBounds_toArray,List.set_cons_zero,List.set_cons_succ,i64_w,i32_w]
                  rfl
                 refine done_ (done_of HT_.out (by kernel_rfl)) ?_
                 go_upto_region 21 with (fail)
                 go_cut [129] (fun v129 wc => ∃ (kq:Nat) (x129_60:Bool),v129 = .bool x129_60 ∧ Aside0 (beaconlaw08_PathsSteps.j5 kq a1 t369 t372 x10_43 x11_3 x129_60 l0_0 l0_1 a2_0 a2_1 = some r) ∧ Aside0 (kq ≤ kj43) ∧ Aside0 (Kd.R (Kd.int .i64) 3 wc w.heap.size (fun _ => True) (.slice (some ad385) t369.length co35) t369) ∧ Aside0 (wc.heap[gb367]? = some (.cells #[(.slice A0_0 l0_0.length c0_0),(.slice A0_1 l0_1.length c0_1)] 25 (0,0))) ∧ Aside0 (wc.heap[gb368]? = some (.cells #[.int .i64 a2_0,.int .i64 a2_1] 45 (0,0))) ∧ Aside0 (Below w.heap.size w wc))
                 case first =>
                  have H:=HC61.out
                  clear HC61
                  by_cases c64:t390 = 0
                  ·rw [if_pos c64] at H
                   have c64b0:(t390 == 0) = true:=beq_iff_eq.mpr c64
                   have c64b1:(t390 != 0) = false:=bne_eq_false_iff_eq.mpr c64
                   clear c64
                   (first | rw [c64b0] | (simp only [i64_w,i32_w];rw [c64b0]) | skip)
                   have c65b0:=eq_true (of_decide_eq_true (by first | (with_reducible assumption) | assumption):0 ≤ x11_3)
                   by_cases c66:x11_3 ≤ (t369.length:Int)
                   ·rw [if_pos c66] at H
                    have c66b0:=eq_true c66
                    have c66b1:decide (x11_3 ≤ (t369.length:Int)) = true:=decide_eq_true c66
                    clear c66
                    obtain ⟨y391,hy391⟩:∃ y_:List Int,y_ = (t369.drop (x11_3:Int).toNat):=⟨_,rfl⟩
                    replace H:((beaconlaw08_ints.f kj43 t386 y391).bind fun t395 => (if t395 = true then ((floatBits .add .f64 x10_43 t389).bind fun t396 => (beaconlaw08_PathsSteps.j5 kj43 a1 t369 t372 x10_43 x11_3 (FloatKind.f64.format.order t396 t372 != some .eq) l0_0 l0_1 a2_0 a2_1)) else (beaconlaw08_PathsSteps.j5 kj43 a1 t369 t372 x10_43 x11_3 true l0_0 l0_1 a2_0 a2_1))) = some r:=by first | (rw [hy391];with_reducible exact H) | (have H2_:=(Option.bind_some _ _).symm.trans H;rw [hy391];with_reducible exact H2_) | (have H2_:=(Option.bind_some _ _).symm.trans H;with_reducible exact H2_) | with_reducible exact H | (rw [hy391];exact H) | exact H
                    have Ny391:=Aside0.mk hy391
                    clear hy391
                    replace H:=Option.bind_eq_some_iff.mp H
                    obtain ⟨t395,A670,H⟩:=H
                    replace H:(if t395 = true then ((floatBits .add .f64 x10_43 t389).bind fun t396 => (beaconlaw08_PathsSteps.j5 kj43 a1 t369 t372 x10_43 x11_3 (FloatKind.f64.format.order t396 t372 != some .eq) l0_0 l0_1 a2_0 a2_1)) else (beaconlaw08_PathsSteps.j5 kj43 a1 t369 t372 x10_43 x11_3 true l0_0 l0_1 a2_0 a2_1)) = some r:=H
                    have A67:=Aside0.mk A670
                    clear A670
                    by_cases c68:t395 = true
                    ·subst c68
                     have H1:((floatBits .add .f64 x10_43 t389).bind fun t396 => (beaconlaw08_PathsSteps.j5 kj43 a1 t369 t372 x10_43 x11_3 (FloatKind.f64.format.order t396 t372 != some .eq) l0_0 l0_1 a2_0 a2_1)) = some r:=by rw [if_pos rfl] at H;exact H
                     clear H
                     have H:=H1
                     clear H1
                     replace H:=Option.bind_eq_some_iff.mp H
                     obtain ⟨t396,A690,H⟩:=H
                     replace H:(beaconlaw08_PathsSteps.j5 kj43 a1 t369 t372 x10_43 x11_3 (FloatKind.f64.format.order t396 t372 != some .eq) l0_0 l0_1 a2_0 a2_1) = some r:=H
                     have A69f:∀ W_:World,(binOp .add 26 (.float .f64 x10_43) (.float .f64 t389)).run Try.prog W_ = .ok (.float .f64 t396) W_:=fun W_ => run_float_arith W_ .add 26 .f64 _ _ _ A690
                     have A69:=Aside0.mk A690
                     clear A690
                     have H':=Aside0.mk H
                     clear H
                     have q70:(x11_3:Int) ≤ ((t369.length:Int):Int):=of_decide_eq_true (by first | (with_reducible assumption) | assumption)
                     obtain ⟨i070,hi070,_,hsz70,_⟩:=info_parts info3
                     have hroom70:t369.length ≤ co35:=(Kd.R_reads' HO_7.out).2.1
                     have hC70:Kd.C (Kd.int .i64) _ (some ad385) t369.length t369:=(Kd.R_reads' HO_7.out).2.2
                     have q070:(0:Int) ≤ (x11_3:Int):=of_decide_eq_true (by first | (with_reducible assumption) | assumption)
                     have hcut70:=cut_from (P:=Try.prog) 27 3 .i64 Try.underlying27 hi070 1 hsz70 (some ad385) t369.length co35 x11_3 q070 q70
                     have hr70:=Kd.C_drop (m:=(x11_3:Int).toNat) (c:=co35) hC70 (by omega) hroom70
                     obtain ⟨A70,hA70⟩:∃ A1,A1 = (if co35 = (x11_3:Int).toNat then (some ad385) else ((some ad385):Option Addr).map (·.add ((x11_3:Int).toNat * 1))):=⟨_,rfl⟩
                     obtain ⟨c70,hc70⟩:∃ c1,c1 = co35 - (x11_3:Int).toNat:=⟨_,rfl⟩
                     have hy70:y391.length = t369.length - (x11_3:Int).toNat:=(by rw [Ny391.out,List.length_drop] <;> omega)
                     rw [show (t369).drop (x11_3:Int).toNat = y391 from Ny391.out.symm] at hr70
                     replace hr70:Kd.C (Kd.int .i64) _ A70 y391.length y391:=(by rw [hA70];exact hr70)
                     rw [← hy70,← hA70,← hc70] at hcut70
                     have HR394:=Aside0.mk hr70
                     have HC394:=Aside0.mk (show y391.length ≤ c70 from by rw [hy70,hc70];exact Nat.sub_le_sub_right hroom70 _)
                     clear hr70 hC70 hroom70 hi070 hsz70 hc70
                     have KY70:=Aside0.mk hy70
                     have KA70:=Aside0.mk hA70
                     clear hy70 hA70
                     have KL70:=Aside0.mk (show (x11_3:Int).toNat ≤ t369.length from by omega)
                     replace q70:=eq_true q70
                     obtain ⟨Ao71,co71,eo71⟩:=Kd.R_slice HO388.out
                     subst eo71
                     go_wp2_with (first | (go_at_call 13;(with_reducible refine (beaconlaw08_ints.calls kj43 _ _ t386 _ _ y391 true _ ?side1 ?side2 ?side3 ?side4 A67.out).mono ?_);(case side1 => repeat (first | exact (Kd.R_reads' HO388.out).2.2 | (with_reducible refine Kd.C_alloc ?_ _) | (with_reducible refine Kd.C_drewN ?_ _) | (with_reducible refine Kd.C_drew ?_)));(case side2 => exact (Kd.R_reads' HO388.out).2.1);(case side3 => repeat (first | exact (by repeat (first | (with_reducible exact HR394.out) | (with_reducible refine Kd.C_alloc ?_ _) | (with_reducible refine Kd.C_drewN ?_ _) | (with_reducible refine Kd.C_drew ?_) | exact HR394.out)) | (with_reducible refine Kd.C_alloc ?_ _) | (with_reducible refine Kd.C_drewN ?_ _) | (with_reducible refine Kd.C_drew ?_)));(case side4 => exact HC394.out);rintro e w' ⟨rfl,⟨nd,rfl⟩⟩))
                     go_meet
                     case rel => exact ⟨_,((FloatKind.f64.format.order t396 t372 != some .eq)),(by first | rfl | (simp;done) | (simp [*];done)),H',⟨by have:=HJ4.out;have:=HJ19.out;have:=HK3.out;have:=HK4.out;have:=HJ43.out;first | omega | exact Nat.le_refl _⟩,⟨by (with_reducible repeat (first | apply Kd.R_alloc | apply Kd.R_drewN | apply Kd.R_drew));exact Kd.R_mono HO_7.out (fun _ hk => trivial)⟩,⟨by (with_reducible repeat (first | refine blk_drewN ?_ _ | refine blk_drew ?_ | refine blk_alloc ?_ _));exact BK367.out⟩,⟨by (with_reducible repeat (first | refine blk_drewN ?_ _ | refine blk_drew ?_ | refine blk_alloc ?_ _));exact BK368.out⟩,⟨by repeat (first | (with_reducible first | exact HB.out | apply below_alloc | apply pw_below_drewN | apply below_drew1 | refine below_set ?_ GE367.out | refine below_set ?_ GE368.out) | exact HB.out)⟩⟩
                    ·replace c68:=Bool.eq_false_iff.mpr c68
                     subst c68
                     have H1:(beaconlaw08_PathsSteps.j5 kj43 a1 t369 t372 x10_43 x11_3 true l0_0 l0_1 a2_0 a2_1) = some r:=by rw [if_neg (show ¬ (false = true) by decide)] at H;exact H
                     clear H
                     have H:=H1
                     clear H1
                     have H':=Aside0.mk H
                     clear H
                     have q72:(x11_3:Int) ≤ ((t369.length:Int):Int):=of_decide_eq_true (by first | (with_reducible assumption) | assumption)
                     obtain ⟨i072,hi072,_,hsz72,_⟩:=info_parts info3
                     have hroom72:t369.length ≤ co35:=(Kd.R_reads' HO_7.out).2.1
                     have hC72:Kd.C (Kd.int .i64) _ (some ad385) t369.length t369:=(Kd.R_reads' HO_7.out).2.2
                     have q072:(0:Int) ≤ (x11_3:Int):=of_decide_eq_true (by first | (with_reducible assumption) | assumption)
                     have hcut72:=cut_from (P:=Try.prog) 27 3 .i64 Try.underlying27 hi072 1 hsz72 (some ad385) t369.length co35 x11_3 q072 q72
                     have hr72:=Kd.C_drop (m:=(x11_3:Int).toNat) (c:=co35) hC72 (by omega) hroom72
                     obtain ⟨A72,hA72⟩:∃ A1,A1 = (if co35 = (x11_3:Int).toNat then (some ad385) else ((some ad385):Option Addr).map (·.add ((x11_3:Int).toNat * 1))):=⟨_,rfl⟩
                     obtain ⟨c72,hc72⟩:∃ c1,c1 = co35 - (x11_3:Int).toNat:=⟨_,rfl⟩
                     have hy72:y391.length = t369.length - (x11_3:Int).toNat:=(by rw [Ny391.out,List.length_drop] <;> omega)
                     rw [show (t369).drop (x11_3:Int).toNat = y391 from Ny391.out.symm] at hr72
                     replace hr72:Kd.C (Kd.int .i64) _ A72 y391.length y391:=(by rw [hA72];exact hr72)
                     rw [← hy72,← hA72,← hc72] at hcut72
                     have HR394:=Aside0.mk hr72
                     have HC394:=Aside0.mk (show y391.length ≤ c72 from by rw [hy72,hc72];exact Nat.sub_le_sub_right hroom72 _)
                     clear hr72 hC72 hroom72 hi072 hsz72 hc72
                     have KY72:=Aside0.mk hy72
                     have KA72:=Aside0.mk hA72
                     clear hy72 hA72
                     have KL72:=Aside0.mk (show (x11_3:Int).toNat ≤ t369.length from by omega)
                     replace q72:=eq_true q72
                     obtain ⟨Ao73,co73,eo73⟩:=Kd.R_slice HO388.out
                     subst eo73
                     go_wp2_with (first | (go_at_call 13;(with_reducible refine (beaconlaw08_ints.calls kj43 _ _ t386 _ _ y391 false _ ?side1 ?side2 ?side3 ?side4 A67.out).mono ?_);(case side1 => repeat (first | exact (Kd.R_reads' HO388.out).2.2 | (with_reducible refine Kd.C_alloc ?_ _) | (with_reducible refine Kd.C_drewN ?_ _) | (with_reducible refine Kd.C_drew ?_)));(case side2 => exact (Kd.R_reads' HO388.out).2.1);(case side3 => repeat (first | exact (by repeat (first | (with_reducible exact HR394.out) | (with_reducible refine Kd.C_alloc ?_ _) | (with_reducible refine Kd.C_drewN ?_ _) | (with_reducible refine Kd.C_drew ?_) | exact HR394.out)) | (with_reducible refine Kd.C_alloc ?_ _) | (with_reducible refine Kd.C_drewN ?_ _) | (with_reducible refine Kd.C_drew ?_)));(case side4 => exact HC394.out);rintro e w' ⟨rfl,⟨nd,rfl⟩⟩))
                     go_meet
                     case rel => exact ⟨_,(true),(by first | rfl | (simp;done) | (simp [*];done)),H',⟨by have:=HJ4.out;have:=HJ19.out;have:=HK3.out;have:=HK4.out;have:=HJ43.out;first | omega | exact Nat.le_refl _⟩,⟨by (with_reducible repeat (first | apply Kd.R_alloc | apply Kd.R_drewN | apply Kd.R_drew));exact Kd.R_mono HO_7.out (fun _ hk => trivial)⟩,⟨by (with_reducible repeat (first | refine blk_drewN ?_ _ | refine blk_drew ?_ | refine blk_alloc ?_ _));exact BK367.out⟩,⟨by (with_reducible repeat (first | refine blk_drewN ?_ _ | refine blk_drew ?_ | refine blk_alloc ?_ _));exact BK368.out⟩,⟨by repeat (first | (with_reducible first | exact HB.out | apply below_alloc | apply pw_below_drewN | apply below_drew1 | refine below_set ?_ GE367.out | refine below_set ?_ GE368.out) | exact HB.out)⟩⟩
                   ·rw [if_neg c66] at H
                    exact absurd H (by simp)
                  ·rw [if_neg c64] at H
                   have c64b0:(t390 == 0) = false:=beq_eq_false_iff_ne.mpr c64
                   have c64b1:(t390 != 0) = true:=bne_iff_ne.mpr c64
                   (first | rw [c64b0] | (simp only [i64_w,i32_w];rw [c64b0]) | skip)
                   have H':=Aside0.mk H
                   clear H
                   go_wp2
                   go_meet
                   case rel => exact ⟨_,(true),(by first | rfl | (simp;done) | (simp [*];done)),H',⟨by have:=HJ4.out;have:=HJ19.out;have:=HK3.out;have:=HK4.out;have:=HJ43.out;first | omega | exact Nat.le_refl _⟩,⟨by (with_reducible repeat (first | apply Kd.R_alloc | apply Kd.R_drewN | apply Kd.R_drew));exact Kd.R_mono HO_7.out (fun _ hk => trivial)⟩,⟨by (with_reducible repeat (first | refine blk_drewN ?_ _ | refine blk_drew ?_ | refine blk_alloc ?_ _));exact BK367.out⟩,⟨by (with_reducible repeat (first | refine blk_drewN ?_ _ | refine blk_drew ?_ | refine blk_alloc ?_ _));exact BK368.out⟩,⟨by repeat (first | (with_reducible first | exact HB.out | apply below_alloc | apply pw_below_drewN | apply below_drew1 | refine below_set ?_ GE367.out | refine below_set ?_ GE368.out) | exact HB.out)⟩⟩
                 case rest =>
                  clear HC61
                  try clear c1
                  try clear c2
                  try clear p2
                  try clear c3
                  try clear p3
                  try clear q3
                  try clear hx3
                  try clear c4
                  try clear c5
                  try clear c6
                  try clear p6
                  try clear c7
                  try clear q7
                  try clear c21
                  try clear c24
                  try clear c36
                  try clear c36b0
                  try clear c37
                  try clear p37
                  try clear q37
                  try clear hx37
                  try clear c38
                  try clear p38
                  try clear q38
                  try clear hx38
                  try clear c39
                  try clear c40
                  try clear c41
                  try clear c41b0
                  try clear c41b1
                  try clear c45
                  try clear c45b0
                  try clear c47
                  try clear c47b0
                  try clear c48
                  try clear c48b0
                  try clear c49
                  try clear c49b0
                  try clear c50
                  try clear c50b0
                  try clear c52
                  try clear c52b0
                  try clear c52b1
                  try clear c52b2
                  try clear c58
                  try clear c58b0
                  try clear c59
                  try clear c59b0
                  try clear c64
                  try clear c64b0
                  try clear c64b1
                  try clear c65
                  try clear c65b0
                  try clear c66
                  try clear c66b0
                  try clear c66b1
                  try clear c68
                  try clear c70
                  try clear q70
                  try clear c72
                  try clear q72
                  try clear hx379_0
                  try clear hx380_0
                  try clear hx381_0
                  try clear hx382_0
                  try clear hx385_0
                  try clear p2
                  try clear p3
                  try clear p37
                  try clear p379
                  try clear p38
                  try clear p380
                  try clear p381
                  try clear p382
                  try clear p385
                  try clear p6
                  try clear q070
                  try clear q072
                  try clear q3
                  try clear q37
                  try clear q379
                  try clear q38
                  try clear q380
                  try clear q381
                  try clear q382
                  try clear q385
                  try clear q70
                  try clear q72
                  obtain ⟨kq,x129_60,rfl,HA,HJ60,HO_7,BK367,BK368,HB⟩:=hcut
                  cases kq with
                  | zero => exact absurd HA.out (by simp [beaconlaw08_PathsSteps.j5])
                  | succ kj60 =>
                   have H:=HA.out
                   clear HA
                   simp only [beaconlaw08_PathsSteps.j5] at H
                   by_cases c74:x129_60 = true
                   ·subst c74
                    have H1:(some false) = some r:=by rw [if_pos rfl] at H;exact H
                    clear H
                    have H:=H1
                    clear H1
                    obtain rfl:=Option.some.inj H
                    go_wp2
                    go_ret
                    exact ⟨by first | rfl | (simp [errW_none,errW_some] <;> rfl) | (simp [*,errW_none,errW_some] <;> rfl),by repeat (first | (with_reducible first | exact HB.out | apply below_alloc | apply pw_below_drewN | apply below_drew1 | refine below_set ?_ GE367.out | refine below_set ?_ GE368.out) | exact HB.out)⟩
                   ·replace c74:=Bool.eq_false_iff.mpr c74
                    subst c74
                    have H1:(beaconlaw08_PathsSteps.l0 kj60 a1 t369 t372 x10_43 (wrap64 (x11_3 + 1)) l0_0 l0_1 a2_0 a2_1) = some r:=by rw [if_neg (show ¬ (false = true) by decide)] at H;exact H
                    clear H
                    have H:=H1
                    clear H1
                    have H':=Aside0.mk H
                    clear H
                    go_wp2
                    go_roundg kj60
                    case measure => have:=HJ4.out;have:=HJ19.out;have:=HK3.out;have:=HK4.out;have:=HJ43.out;have:=HJ60.out;omega
                    case rel => exact ⟨(x10_43),(wrap64 (x11_3 + 1)),(by first | rfl | (simp;done) | (simp [*];done)),(by first | rfl | (simp;done) | (simp [*];done)),H',⟨by have:=HJ4.out;have:=HJ19.out;have:=HK3.out;have:=HK4.out;have:=HJ43.out;have:=HJ60.out;omega⟩,⟨by (with_reducible repeat (first | apply Kd.R_alloc | apply Kd.R_drewN | apply Kd.R_drew));exact HO_7.out⟩,⟨by (with_reducible repeat (first | refine blk_drewN ?_ _ | refine blk_drew ?_ | refine blk_alloc ?_ _));exact BK367.out⟩,⟨by (with_reducible repeat (first | refine blk_drewN ?_ _ | refine blk_drew ?_ | refine blk_alloc ?_ _));exact BK368.out⟩,⟨by repeat (first | (with_reducible first | exact HB.out | apply below_alloc | apply pw_below_drewN | apply below_drew1 | refine below_set ?_ GE367.out | refine below_set ?_ GE368.out) | exact HB.out)⟩⟩
                ·rw [if_neg c59] at H
                 exact absurd H (by simp)
               ·rw [if_neg c58] at H
                exact absurd H (by simp)
         ·rw [if_neg c34] at H
          have c34b0:decide (x11_3 < (t369.length:Int)) = false:=decide_eq_false c34
          clear c34
          by_cases c75:(FloatKind.f64.format.order x10_3 t372 == some .eq) = true
          ·rw [if_pos c75] at H
           have c75b0:(FloatKind.f64.format.order x10_3 t372 == some .eq) = true:=c75
           (try (have c75b1:decide (FloatKind.f64.format.order x10_3 t372 = some .eq) = true:=by simpa using c75))
           (try (have c75b2:(FloatKind.f64.format.order x10_3 t372 == some .eq) = true:=by simpa using c75))
           clear c75
           replace H:=Option.bind_eq_some_iff.mp H
           obtain ⟨t378,A760,H⟩:=H
           replace H:(some t378) = some r:=H
           have A76:=Aside0.mk A760
           clear A760
           obtain rfl:=Option.some.inj H
           obtain ⟨Ao77,co77,eo77⟩:=Kd.R_slice HO_7.out
           subst eo77
           go_wp2_with (first | (go_at_call 14;(with_reducible refine (beaconlaw08_awake.calls  t378 _ A76.out).mono ?_);rintro e w78 ⟨rfl,hb⟩;have n0_:=Aside0.mk (Kd.R_below (by (with_reducible repeat (first | apply Kd.R_alloc | apply Kd.R_drewN | apply Kd.R_drew));exact HO_7.out) hb);have n1_:=Aside0.mk (blk_below (g:=gb367) (o:=.cells #[.slice A0_0 l0_0.length c0_0,.slice A0_1 l0_1.length c0_1] 25 (0,0)) (by (with_reducible repeat (first | refine blk_drewN ?_ _ | refine blk_drew ?_ | refine blk_alloc ?_ _));exact BK367.out) hb);have n2_:=Aside0.mk (blk_below (g:=gb368) (o:=.cells #[.int .i64 a2_0,.int .i64 a2_1] 45 (0,0)) (by (with_reducible repeat (first | refine blk_drewN ?_ _ | refine blk_drew ?_ | refine blk_alloc ?_ _));exact BK368.out) hb);have n3_:=Aside0.mk (below_step (by repeat (first | (with_reducible first | exact HB.out | apply below_alloc | apply pw_below_drewN | apply below_drew1 | refine below_set ?_ GE367.out | refine below_set ?_ GE368.out) | exact HB.out)) hb);clear HO_7;clear BK367;clear BK368;clear HB;have HO_7:=n0_;have BK367:=n1_;have BK368:=n2_;have HB:=n3_;clear n0_ n1_ n2_ n3_;(try clear hb);(try clear hb2);(try clear hk);(try clear hi)))
           go_ret
           exact ⟨by first | rfl | (simp [errW_none,errW_some] <;> rfl) | (simp [*,errW_none,errW_some] <;> rfl),by repeat (first | (with_reducible first | exact HB.out | apply below_alloc | apply pw_below_drewN | apply below_drew1 | refine below_set ?_ GE367.out | refine below_set ?_ GE368.out) | exact HB.out)⟩
          ·rw [if_neg c75] at H
           have c75b0:(FloatKind.f64.format.order x10_3 t372 == some .eq) = false:=by simpa using c75
           (try (have c75b1:decide (FloatKind.f64.format.order x10_3 t372 = some .eq) = false:=by simpa using c75))
           (try (have c75b2:(FloatKind.f64.format.order x10_3 t372 == some .eq) = false:=by simpa using c75))
           (try (have c75b3:¬ (FloatKind.f64.format.order x10_3 t372 = some .eq):=by simpa using c75))
           clear c75
           obtain rfl:=Option.some.inj H
           obtain ⟨Ao79,co79,eo79⟩:=Kd.R_slice HO_7.out
           subst eo79
           go_wp2
           go_ret
           exact ⟨by first | rfl | (simp [errW_none,errW_some] <;> rfl) | (simp [*,errW_none,errW_some] <;> rfl),by repeat (first | (with_reducible first | exact HB.out | apply below_alloc | apply pw_below_drewN | apply below_drew1 | refine below_set ?_ GE367.out | refine below_set ?_ GE368.out) | exact HB.out)⟩
end Go.Proofs.Ytmdkcecbklgihaa.PA
