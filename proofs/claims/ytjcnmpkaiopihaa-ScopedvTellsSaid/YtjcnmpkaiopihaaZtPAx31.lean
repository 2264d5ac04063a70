/- Printed by a program of this session (wip/tools/patch_print.py and pr.py, over the kit's print): each Go function as a plain Lean function, and that the Go code comes to just its answers. Conditions: those that each theorem names. -/
import Derived.Test.YtjcnmpkaiopihaaZtMn
import Derived.Test.YtjcnmpkaiopihaaZtPAx0
import Derived.Test.YtjcnmpkaiopihaaZtPAx29
import Derived.Test.YtjcnmpkaiopihaaZtPAx30
namespace Go.Proofs.Ytjcnmpkaiopihaa.PA
open Go.RowKit Go.Proofs.YtjcnmpkaiopihaaW.PrintWords Go.Proofs.YtjcnmpkaiopihaaW.PrintLast Go.Proofs.YtjcnmpkaiopihaaW.PrintMore
attribute [local go_sem] max2_int min2_int max_two min_two max_three min_three max_four min_four
set_option linter.unusedVariables false
set_option linter.unusedSimpArgs false
mutual
def beaconref16_Tell.j0:Nat → Int → List (S58) → Bool → Int → Int → Nat → Option ((List (S56)) × Int)
 | 0,_,_,_,_,_,_ => none
 | k + 1,x0,x2,x25,x449000,x449001,x449002 => if x25 = true then (some (([]:List (S56)),1)) else (if x449001 = x0 then (beaconref16_Tell.j1 k x2 ([]:List (S56))) else (if ([]:List (S56)).length < 3518437208883 then (beaconref16_Tell.j1 k x2 (([]:List (S56)) ++ [(⟨x0,2,0,x449002,x449001⟩:S56)])) else (none)))
def beaconref16_Tell.j1:Nat → List (S58) → List (S56) → Option ((List (S56)) × Int)
 | 0,_,_ => none
 | k + 1,x2,x8 => beaconref16_Tell.l0 k x2 x8 0
def beaconref16_Tell.l0:Nat → List (S58) → List (S56) → Int → Option ((List (S56)) × Int)
 | 0,_,_,_ => none
 | k + 1,x2,x8,x9 => if x9 < (x2.length:Int) then (if 0 ≤ x9 then (if ((rd_T58 x2 x9).f1) = 2 then (if x8.length < 3518437208883 then (beaconref16_Tell.l0 k x2 (x8 ++ [(⟨(rd_T58 x2 x9).f0,2,(rd_T58 x2 x9).f2,(rd_T58 x2 x9).f4,(rd_T58 x2 x9).f5⟩:S56)]) (wrap64 (x9 + 1))) else (none)) else (beaconref16_Tell.l0 k x2 x8 (wrap64 (x9 + 1)))) else (none)) else (beaconref16_Tell.l1 k x8 0)
def beaconref16_Tell.l1:Nat → List (S56) → Int → Option ((List (S56)) × Int)
 | 0,_,_ => none
 | k + 1,x8,x11 => if x11 < (x8.length:Int) then (beaconref16_Tell.l2 k x8 x11 x11) else (some (x8,0))
def beaconref16_Tell.l2:Nat → List (S56) → Int → Int → Option ((List (S56)) × Int)
 | 0,_,_,_ => none
 | k + 1,x8,x11,x12 => if x12 > 0 then (if 0 ≤ x12 then (if x12 < (x8.length:Int) then (if 0 ≤ (wrap64 (x12 - 1)) then (if (wrap64 (x12 - 1)) < (x8.length:Int) then (if ((rd_T56 x8 x12).f0) < ((rd_T56 x8 (wrap64 (x12 - 1))).f0) then (beaconref16_Tell.l2 k ((x8.set (x12:Int).toNat (⟨(rd_T56 x8 (wrap64 (x12 - 1))).f0,(rd_T56 x8 (wrap64 (x12 - 1))).f1,(rd_T56 x8 (wrap64 (x12 - 1))).f2,(rd_T56 x8 (wrap64 (x12 - 1))).f3,(rd_T56 x8 (wrap64 (x12 - 1))).f4⟩:S56)).set ((wrap64 (x12 - 1)):Int).toNat (⟨(rd_T56 x8 x12).f0,(rd_T56 x8 x12).f1,(rd_T56 x8 x12).f2,(rd_T56 x8 x12).f3,(rd_T56 x8 x12).f4⟩:S56)) x11 (wrap64 (x12 - 1))) else (beaconref16_Tell.l1 k x8 (wrap64 (x11 + 1)))) else (none)) else (none)) else (none)) else (none)) else (beaconref16_Tell.l1 k x8 (wrap64 (x11 + 1)))
end
def beaconref16_Tell.f (k:Nat) (a0:Int) (a1_0:Int) (a1_1:Int) (a1_2:Nat) (l2:List (S58)):Option ((List (S56)) × Int):=(beaconref16_number.f a0).bind fun t449 => (if t449 = true then ((beaconref16_MayHome.f a0 a1_0 a1_1 a1_2).bind fun t450 => (if t450 = true then ((beaconref16_MayBalls.f k a0 l2).bind fun t451 => (beaconref16_Tell.j0 k a0 l2 (!t451) a1_0 a1_1 a1_2)) else (beaconref16_Tell.j0 k a0 l2 true a1_0 a1_1 a1_2))) else (some (([]:List (S56)),20)))
def beaconref16_Tell.T18:Bool × List (List Nat × List Nat):=(true,[([],[]),([0],[0]),([1],[1]),([2],[2]),([2],[2]),([3,4,2],[2,3,4]),([5,2],[2,5]),([6,2],[2,6]),([2],[2]),([2],[2]),([9,2],[2,9]),([8,10,2],[2,8,10]),([11,2],[2,11]),([12,2],[2,12]),([7,13,2],[2,7,13]),([2,14],[2,14])])
def beaconref16_Tell.B18:List Nat:=[0,1,3,7,7,31,63,127,7,7,519,1799,3847,7943,16383,32767]
theorem beaconref16_Tell.tab18:rtab .any (opsOf Try.f21 18) = beaconref16_Tell.T18:=by kernel_rfl
theorem beaconref16_Tell.bits18:waitsOk beaconref16_Tell.T18.2 beaconref16_Tell.B18 = true:=by kernel_rfl
def beaconref16_Tell.T20:Bool × List (List Nat × List Nat):=(true,[([],[]),([],[]),([],[]),([],[]),([3],[3]),([],[]),([],[]),([6],[6]),([5,7],[5,7]),([8],[8]),([],[]),([],[]),([10,11],[10,11]),([12],[12]),([0,1,0,1,5,6,7,8,9,13],[0,1]),([14,9,0,1,5,6,7,8,9,13],[9,14]),([2,4,0,1,2,3,4,5,6,7,8,9,10,11,12,13,14,15],[2,4]),([16,13,15,0,1,2,3,4,5,6,7,8,9,10,11,12,13,14,15],[13,16])])
def beaconref16_Tell.B20:List Nat:=[0,0,0,0,8,0,0,64,224,480,0,0,3072,7168,16355,32739,65535,131071]
theorem beaconref16_Tell.tab20:rtab .any (opsOf Try.f21 20) = beaconref16_Tell.T20:=by kernel_rfl
theorem beaconref16_Tell.bits20:waitsOk beaconref16_Tell.T20.2 beaconref16_Tell.B20 = true:=by kernel_rfl
set_option maxHeartbeats 8000000 in
set_option maxRecDepth 100000 in
theorem beaconref16_Tell.calls (k:Nat) (a0:Int) (a1_0:Int) (a1_1:Int) (a1_2:Nat) (A2:Option Addr) (c2:Nat) (l2:List (S58)) (r1:List (S56)) (r2:Int) (w:World) (hr2:Kd.C k58 w A2 l2.length l2) (hc2:l2.length ≤ c2) (h:beaconref16_Tell.f k a0 a1_0 a1_1 a1_2 l2 = some (r1,r2)) :
  Calls Try.prog 21 #[.int .i64 a0,.agg #[.int .i64 a1_0,.int .i64 a1_1,.float .f64 a1_2],.slice A2 l2.length c2] w fun e w' => ∃ v0_:Value,e = .returned (.tuple #[v0_,.int .i64 r2]) ∧ Kd.R k56 56 w' w.heap.size (fun _ => True) v0_ r1 ∧ Below w.heap.size w w':=by
 have hu34:=Try.underlying34
 have hu56:=Try.underlying56
 have hu58:=Try.underlying58
 have HR2:=Aside0.mk hr2
 have HC2:=Aside0.mk hc2
 clear hr2 hc2
 have HB:=Aside0.mk (Below.refl w.heap.size w)
 have H:((beaconref16_number.f a0).bind fun t449 => (if t449 = true then ((beaconref16_MayHome.f a0 a1_0 a1_1 a1_2).bind fun t450 => (if t450 = true then ((beaconref16_MayBalls.f k a0 l2).bind fun t451 => (beaconref16_Tell.j0 k a0 l2 (!t451) a1_0 a1_1 a1_2)) else (beaconref16_Tell.j0 k a0 l2 true a1_0 a1_1 a1_2))) else (some (([]:List (S56)),20)))) = some (r1,r2):=h
 clear h
 replace H:=Option.bind_eq_some_iff.mp H
 obtain ⟨t449,A40,H⟩:=H
 replace H:(if t449 = true then ((beaconref16_MayHome.f a0 a1_0 a1_1 a1_2).bind fun t450 => (if t450 = true then ((beaconref16_MayBalls.f k a0 l2).bind fun t451 => (beaconref16_Tell.j0 k a0 l2 (!t451) a1_0 a1_1 a1_2)) else (beaconref16_Tell.j0 k a0 l2 true a1_0 a1_1 a1_2))) else (some (([]:List (S56)),20))) = some (r1,r2):=H
 have A4:=Aside0.mk A40
 clear A40
 by_cases c5:t449 = true
 rotate_left
 ·replace c5:=Bool.eq_false_iff.mpr c5
  subst c5
  have H1:(some (([]:List (S56)),20)) = some (r1,r2):=by rw [if_neg (show ¬ (false = true) by decide)] at H;exact H
  clear H
  have H:=H1
  clear H1
  simp only [Option.some.injEq,Prod.mk.injEq] at H
  obtain ⟨rfl,rfl⟩:=H
  go_enter Try.func21,Try.ntmps21
  go_wp2_with (first | ((with_reducible refine gate_dst (N:=4) rfl ?_);refine box_event ?hg (N:=4) ?hd (cs:=#[.int .i64 a1_0,.int .i64 a1_1,.float .f64 a1_2]) (t:=34) ?hr ?_;(case hd => rfl);(case hg => rfl);(case hr => first | (go_simp;done) | (go_simp;rfl));intro gb448 hg w52 hbox hb;have n0_:=Aside0.mk (below_step (by repeat (first | (with_reducible first | exact HB.out | apply below_alloc | apply pw_below_drewN | apply below_drew1) | exact HB.out)) hb);have n1_:=Aside0.mk (hbox);have n2_:=Aside0.mk ((by rw [hg];exact (below_size (by repeat (first | (with_reducible first | exact HB.out | apply below_alloc | apply pw_below_drewN | apply below_drew1) | exact HB.out))):w.heap.size ≤ gb448));have n3_:=Aside0.mk ((by rw [hg];exact (below_size (by repeat (first | (with_reducible first | exact HB.out | apply below_alloc | apply pw_below_drewN | apply below_drew1) | exact HB.out))):w.heap.size ≤ gb448));clear HB;have HB:=n0_;have BK448:=n1_;have GW448:=n2_;have GE448:=n3_;clear n0_ n1_ n2_ n3_;clear hb hbox hg) | ((with_reducible refine gate_callee (f:=59) rfl ?_);refine goesL_ (some 14) rfl rfl Try.func59 (by kernel_rfl) rfl #[.int .i64 a0] rfl (by (try simp only [List.map_toArray,List.map_cons,List.map_nil]);first | done | rfl | (simp only [List.length_drop,List.length_take];rfl)) ?_;(with_reducible refine (beaconref16_number.calls a0 false _ A4.out).mono ?_);rintro e w' ⟨rfl,⟨nd,rfl⟩⟩;refine ⟨_,rfl,?_⟩))
  go_ret2
  exact ⟨_,by first | rfl | (simp [errW_none,errW_some] <;> rfl) | (simp [*,errW_none,errW_some] <;> rfl),by first | exact Kd.R_nil _ _ _ _ _ | exact Kd.N_nil _ _ _ _ _ | exact Kd.V_nil _ _ _ _ _ | exact Kd.Q_nil _ _ _ _ _ | exact Kd.S_nil _ _ _ _ _,by repeat (first | (with_reducible first | exact HB.out | apply below_alloc | apply pw_below_drewN | apply below_drew1 | refine below_set ?_ GE448.out) | exact HB.out)⟩
 subst c5
 have H1:((beaconref16_MayHome.f a0 a1_0 a1_1 a1_2).bind fun t450 => (if t450 = true then ((beaconref16_MayBalls.f k a0 l2).bind fun t451 => (beaconref16_Tell.j0 k a0 l2 (!t451) a1_0 a1_1 a1_2)) else (beaconref16_Tell.j0 k a0 l2 true a1_0 a1_1 a1_2))) = some (r1,r2):=by rw [if_pos rfl] at H;exact H
 clear H
 have H:=H1
 clear H1
 have HC6:=Aside0.mk H
 clear H
 go_enter Try.func21,Try.ntmps21
 go_upto_region 3 with (first | ((with_reducible refine gate_dst (N:=4) rfl ?_);refine box_event ?hg (N:=4) ?hd (cs:=#[.int .i64 a1_0,.int .i64 a1_1,.float .f64 a1_2]) (t:=34) ?hr ?_;(case hd => rfl);(case hg => rfl);(case hr => first | (go_simp;done) | (go_simp;rfl));intro gb448 hg w7 hbox hb;have n0_:=Aside0.mk (below_step (by repeat (first | (with_reducible first | exact HB.out | apply below_alloc | apply pw_below_drewN | apply below_drew1) | exact HB.out)) hb);have n1_:=Aside0.mk (hbox);have n2_:=Aside0.mk ((by rw [hg];exact (below_size (by repeat (first | (with_reducible first | exact HB.out | apply below_alloc | apply pw_below_drewN | apply below_drew1) | exact HB.out))):w.heap.size ≤ gb448));have n3_:=Aside0.mk ((by rw [hg];exact (below_size (by repeat (first | (with_reducible first | exact HB.out | apply below_alloc | apply pw_below_drewN | apply below_drew1) | exact HB.out))):w.heap.size ≤ gb448));clear HB;have HB:=n0_;have BK448:=n1_;have GW448:=n2_;have GE448:=n3_;clear n0_ n1_ n2_ n3_;clear hb hbox hg) | ((with_reducible refine gate_callee (f:=59) rfl ?_);refine goesL_ (some 14) rfl rfl Try.func59 (by kernel_rfl) rfl #[.int .i64 a0] rfl (by (try simp only [List.map_toArray,List.map_cons,List.map_nil]);first | done | rfl | (simp only [List.length_drop,List.length_take];rfl)) ?_;(with_reducible refine (beaconref16_number.calls a0 true _ A4.out).mono ?_);rintro e w' ⟨rfl,⟨nd,rfl⟩⟩;refine ⟨_,rfl,?_⟩;(try (rw [drewN_self w7];generalize hq_:World.drewN w7 _ = w7;have n0_:Aside0 (w7.heap[gb448]? = some (.cells #[.int .i64 a1_0,.int .i64 a1_1,.float .f64 a1_2] 34 (0,0))):=⟨by rw [← hq_];exact (by (with_reducible repeat (first | refine blk_drewN ?_ _ | refine blk_drew ?_ | refine blk_alloc ?_ _));exact BK448.out)⟩;have n1_:Aside0 (Below w.heap.size w w7):=⟨by rw [← hq_];exact (by repeat (first | (with_reducible first | exact HB.out | apply below_alloc | apply pw_below_drewN | apply below_drew1 | refine below_set ?_ GE448.out) | exact HB.out))⟩;clear BK448 HB hq_;have BK448:=n0_;have HB:=n1_;clear n0_ n1_))))
 (try simp only [Act.put,List.setIfInBounds_toArray,List.set_cons_zero,List.set_cons_succ])
 go_cut [25] (fun v25 wc => ∃ (kq:Nat) (x25_5:Bool),v25 = .bool x25_5 ∧ Aside0 (beaconref16_Tell.j0 kq a0 l2 x25_5 a1_0 a1_1 a1_2 = some (r1,r2)) ∧ Aside0 (kq ≤ k) ∧ Aside0 (wc.heap[gb448]? = some (.cells #[.int .i64 a1_0,.int .i64 a1_1,.float .f64 a1_2] 34 (0,0))) ∧ Aside0 (Below w.heap.size w wc))
 case first =>
  have H:=HC6.out
  clear HC6
  replace H:=Option.bind_eq_some_iff.mp H
  obtain ⟨t450,A80,H⟩:=H
  replace H:(if t450 = true then ((beaconref16_MayBalls.f k a0 l2).bind fun t451 => (beaconref16_Tell.j0 k a0 l2 (!t451) a1_0 a1_1 a1_2)) else (beaconref16_Tell.j0 k a0 l2 true a1_0 a1_1 a1_2)) = some (r1,r2):=H
  have A8:=Aside0.mk A80
  clear A80
  by_cases c9:t450 = true
  ·subst c9
   have H1:((beaconref16_MayBalls.f k a0 l2).bind fun t451 => (beaconref16_Tell.j0 k a0 l2 (!t451) a1_0 a1_1 a1_2)) = some (r1,r2):=by rw [if_pos rfl] at H;exact H
   clear H
   have H:=H1
   clear H1
   replace H:=Option.bind_eq_some_iff.mp H
   obtain ⟨t451,A100,H⟩:=H
   replace H:(beaconref16_Tell.j0 k a0 l2 (!t451) a1_0 a1_1 a1_2) = some (r1,r2):=H
   have A10:=Aside0.mk A100
   clear A100
   have H':=Aside0.mk H
   clear H
   have hcz11_0:w7.cell? ⟨gb448,0,none⟩ = some (.int .i64 a1_0):=(blk_cell BK448.out 0).trans rfl
   have hcz11_1:w7.cell? ⟨gb448,1,none⟩ = some (.int .i64 a1_1):=(blk_cell BK448.out 1).trans rfl
   have hcz11_2:w7.cell? ⟨gb448,2,none⟩ = some (.float .f64 a1_2):=(blk_cell BK448.out 2).trans rfl
   have hfz11_0:=blk_frozen BK448.out 0
   have hfz11_1:=blk_frozen BK448.out 1
   have hfz11_2:=blk_frozen BK448.out 2
   go_wp2_with (first | ((with_reducible refine gate_callee (f:=23) rfl ?_);refine goesL_ (some 18) rfl rfl Try.func23 (by kernel_rfl) rfl #[.int .i64 a0,.agg #[.int .i64 a1_0,.int .i64 a1_1,.float .f64 a1_2]] rfl (by (try simp only [List.map_toArray,List.map_cons,List.map_nil]);first | done | rfl | (simp only [List.length_drop,List.length_take];rfl)) ?_;(with_reducible refine (beaconref16_MayHome.calls a0 a1_0 a1_1 a1_2 true _ A8.out).mono ?_);rintro e w12 ⟨rfl,hb⟩;refine ⟨_,rfl,?_⟩;have n0_:=Aside0.mk (blk_below (g:=gb448) (o:=.cells #[.int .i64 a1_0,.int .i64 a1_1,.float .f64 a1_2] 34 (0,0)) (by (with_reducible repeat (first | refine blk_drewN ?_ _ | refine blk_drew ?_ | refine blk_alloc ?_ _));exact BK448.out) hb);have n1_:=Aside0.mk (below_step (by repeat (first | (with_reducible first | exact HB.out | apply below_alloc | apply pw_below_drewN | apply below_drew1 | refine below_set ?_ GE448.out) | exact HB.out)) hb);clear BK448;clear HB;have BK448:=n0_;have HB:=n1_;clear n0_ n1_;(try clear hb);(try clear hb2);(try clear hk);(try clear hi)) | (go_at_call 24;(with_reducible refine (beaconref16_MayBalls.calls k a0 _ _ l2 t451 _ ?side1 ?side2 A10.out).mono ?_);(case side1 => repeat (first | exact (Kd.C_below HR2.out HB.out) | (with_reducible refine Kd.C_alloc ?_ _) | (with_reducible refine Kd.C_drewN ?_ _) | (with_reducible refine Kd.C_drew ?_)));(case side2 => exact HC2.out);rintro e w13 ⟨rfl,hb⟩;have n0_:=Aside0.mk (blk_below (g:=gb448) (o:=.cells #[.int .i64 a1_0,.int .i64 a1_1,.float .f64 a1_2] 34 (0,0)) (by (with_reducible repeat (first | refine blk_drewN ?_ _ | refine blk_drew ?_ | refine blk_alloc ?_ _));exact BK448.out) hb);have n1_:=Aside0.mk (below_step (by repeat (first | (with_reducible first | exact HB.out | apply below_alloc | apply pw_below_drewN | apply below_drew1 | refine below_set ?_ GE448.out) | exact HB.out)) hb);clear BK448;clear HB;have BK448:=n0_;have HB:=n1_;clear n0_ n1_;(try clear hb);(try clear hb2);(try clear hk);(try clear hi)))
   go_meet
   case rel => exact ⟨_,(!t451),(by first | rfl | (simp;done) | (simp [*];done)),H',⟨by first | omega | exact Nat.le_refl _⟩,⟨by (with_reducible repeat (first | refine blk_drewN ?_ _ | refine blk_drew ?_ | refine blk_alloc ?_ _));exact BK448.out⟩,⟨by repeat (first | (with_reducible first | exact HB.out | apply below_alloc | apply pw_below_drewN | apply below_drew1 | refine below_set ?_ GE448.out) | exact HB.out)⟩⟩
  replace c9:=Bool.eq_false_iff.mpr c9
  subst c9
  have H1:(beaconref16_Tell.j0 k a0 l2 true a1_0 a1_1 a1_2) = some (r1,r2):=by rw [if_neg (show ¬ (false = true) by decide)] at H;exact H
  clear H
  have H:=H1
  clear H1
  have H':=Aside0.mk H
  clear H
  have hcz14_0:w7.cell? ⟨gb448,0,none⟩ = some (.int .i64 a1_0):=(blk_cell BK448.out 0).trans rfl
  have hcz14_1:w7.cell? ⟨gb448,1,none⟩ = some (.int .i64 a1_1):=(blk_cell BK448.out 1).trans rfl
  have hcz14_2:w7.cell? ⟨gb448,2,none⟩ = some (.float .f64 a1_2):=(blk_cell BK448.out 2).trans rfl
  have hfz14_0:=blk_frozen BK448.out 0
  have hfz14_1:=blk_frozen BK448.out 1
  have hfz14_2:=blk_frozen BK448.out 2
  go_wp2_with (first | ((with_reducible refine gate_callee (f:=23) rfl ?_);refine goesL_ (some 18) rfl rfl Try.func23 (by kernel_rfl) rfl #[.int .i64 a0,.agg #[.int .i64 a1_0,.int .i64 a1_1,.float .f64 a1_2]] rfl (by (try simp only [List.map_toArray,List.map_cons,List.map_nil]);first | done | rfl | (simp only [List.length_drop,List.length_take];rfl)) ?_;(with_reducible refine (beaconref16_MayHome.calls a0 a1_0 a1_1 a1_2 false _ A8.out).mono ?_);rintro e w15 ⟨rfl,hb⟩;refine ⟨_,rfl,?_⟩;have n0_:=Aside0.mk (blk_below (g:=gb448) (o:=.cells #[.int .i64 a1_0,.int .i64 a1_1,.float .f64 a1_2] 34 (0,0)) (by (with_reducible repeat (first | refine blk_drewN ?_ _ | refine blk_drew ?_ | refine blk_alloc ?_ _));exact BK448.out) hb);have n1_:=Aside0.mk (below_step (by repeat (first | (with_reducible first | exact HB.out | apply below_alloc | apply pw_below_drewN | apply below_drew1 | refine below_set ?_ GE448.out) | exact HB.out)) hb);clear BK448;clear HB;have BK448:=n0_;have HB:=n1_;clear n0_ n1_;(try clear hb);(try clear hb2);(try clear hk);(try clear hi)))
  go_meet
  case rel => exact ⟨_,(true),(by first | rfl | (simp;done) | (simp [*];done)),H',⟨by first | omega | exact Nat.le_refl _⟩,⟨by (with_reducible repeat (first | refine blk_drewN ?_ _ | refine blk_drew ?_ | refine blk_alloc ?_ _));exact BK448.out⟩,⟨by repeat (first | (with_reducible first | exact HB.out | apply below_alloc | apply pw_below_drewN | apply below_drew1 | refine below_set ?_ GE448.out) | exact HB.out)⟩⟩
 case rest =>
  clear HC6
  obtain ⟨kq,x25_5,rfl,HA,HJ5,BK448,HB⟩:=hcut
  cases kq with
  | zero => exact absurd HA.out (by simp [beaconref16_Tell.j0])
  | succ kj5 =>
   have H:=HA.out
   clear HA
   simp only [beaconref16_Tell.j0] at H
   by_cases c16:x25_5 = true
   ·subst c16
    have H1:(some (([]:List (S56)),1)) = some (r1,r2):=by rw [if_pos rfl] at H;exact H
    clear H
    have H:=H1
    clear H1
    simp only [Option.some.injEq,Prod.mk.injEq] at H
    obtain ⟨rfl,rfl⟩:=H
    go_wp2
    go_ret2
    exact ⟨_,by first | rfl | (simp [errW_none,errW_some] <;> rfl) | (simp [*,errW_none,errW_some] <;> rfl),by first | exact Kd.R_nil _ _ _ _ _ | exact Kd.N_nil _ _ _ _ _ | exact Kd.V_nil _ _ _ _ _ | exact Kd.Q_nil _ _ _ _ _ | exact Kd.S_nil _ _ _ _ _,by repeat (first | (with_reducible first | exact HB.out | apply below_alloc | apply pw_below_drewN | apply below_drew1 | refine below_set ?_ GE448.out) | exact HB.out)⟩
   replace c16:=Bool.eq_false_iff.mpr c16
   subst c16
   have H1:(if a1_1 = a0 then (beaconref16_Tell.j1 kj5 l2 ([]:List (S56))) else (if ([]:List (S56)).length < 3518437208883 then (beaconref16_Tell.j1 kj5 l2 (([]:List (S56)) ++ [(⟨a0,2,0,a1_2,a1_1⟩:S56)])) else (none))) = some (r1,r2):=by rw [if_neg (show ¬ (false = true) by decide)] at H;exact H
   clear H
   have H:=H1
   clear H1
   have HC17:=Aside0.mk H
   clear H
   have hcz18_0:wc.cell? ⟨gb448,0,none⟩ = some (.int .i64 a1_0):=(blk_cell BK448.out 0).trans rfl
   have hcz18_1:wc.cell? ⟨gb448,1,none⟩ = some (.int .i64 a1_1):=(blk_cell BK448.out 1).trans rfl
   have hcz18_2:wc.cell? ⟨gb448,2,none⟩ = some (.float .f64 a1_2):=(blk_cell BK448.out 2).trans rfl
   have hfz18_0:=blk_frozen BK448.out 0
   have hfz18_1:=blk_frozen BK448.out 1
   have hfz18_2:=blk_frozen BK448.out 2
   go_upto_if 29 with (fail)
   go_cut [8] (fun v8 wc => ∃ (kq:Nat) (x8_16:List (S56)),Aside0 (beaconref16_Tell.j1 kq l2 x8_16 = some (r1,r2)) ∧ Aside0 (kq ≤ kj5) ∧ Aside0 (Kd.R k56 56 wc w.heap.size (fun _ => True) v8 x8_16) ∧ Aside0 (wc.heap[gb448]? = some (.cells #[.int .i64 a1_0,.int .i64 a1_1,.float .f64 a1_2] 34 (0,0))) ∧ Aside0 (Below w.heap.size w wc))
   case first =>
    have H:=HC17.out
    clear HC17
    by_cases c19:a1_1 = a0
    ·rw [if_pos c19] at H
     have c19b0:(a1_1 == a0) = true:=beq_iff_eq.mpr c19
     have c19b1:(a1_1 != a0) = false:=bne_eq_false_iff_eq.mpr c19
     clear c19
     (first | rw [c19b0] | (simp only [i64_w,i32_w];rw [c19b0]) | skip)
     have H':=Aside0.mk H
     clear H
     go_wp2
     go_meet
     case rel => exact ⟨_,(([]:List (S56))),H',⟨by have:=HJ5.out;first | omega | exact Nat.le_refl _⟩,⟨by first | exact Kd.R_nil _ _ _ _ _ | exact Kd.N_nil _ _ _ _ _ | exact Kd.V_nil _ _ _ _ _ | exact Kd.Q_nil _ _ _ _ _ | exact Kd.S_nil _ _ _ _ _⟩,⟨by (with_reducible repeat (first | refine blk_drewN ?_ _ | refine blk_drew ?_ | refine blk_alloc ?_ _));exact BK448.out⟩,⟨by repeat (first | (with_reducible first | exact HB.out | apply below_alloc | apply pw_below_drewN | apply below_drew1 | refine below_set ?_ GE448.out) | exact HB.out)⟩⟩
    rw [if_neg c19] at H
    have c19b0:(a1_1 == a0) = false:=beq_eq_false_iff_ne.mpr c19
    have c19b1:(a1_1 != a0) = true:=bne_iff_ne.mpr c19
    (first | rw [c19b0] | (simp only [i64_w,i32_w];rw [c19b0]) | skip)
    by_cases c20:([]:List (S56)).length < 3518437208883
    ·rw [if_pos c20] at H
     have LMc20:=Aside0.mk c20
     clear c20
     obtain ⟨y452,hy452⟩:∃ y_:List (S56),y_ = (([]:List (S56)) ++ [(⟨a0,2,0,a1_2,a1_1⟩:S56)]):=⟨_,rfl⟩
     replace H:(beaconref16_Tell.j1 kj5 l2 y452) = some (r1,r2):=by first | (rw [hy452];with_reducible exact H) | (have H2_:=(Option.bind_some _ _).symm.trans H;rw [hy452];with_reducible exact H2_) | (have H2_:=(Option.bind_some _ _).symm.trans H;with_reducible exact H2_) | with_reducible exact H | (rw [hy452];exact H) | exact H
     have Ny452:=Aside0.mk hy452
     clear hy452
     have H':=Aside0.mk H
     clear H
     have hcz21_0:wc.cell? ⟨gb448,0,none⟩ = some (.int .i64 a1_0):=(blk_cell BK448.out 0).trans rfl
     have hcz21_1:wc.cell? ⟨gb448,1,none⟩ = some (.int .i64 a1_1):=(blk_cell BK448.out 1).trans rfl
     have hcz21_2:wc.cell? ⟨gb448,2,none⟩ = some (.float .f64 a1_2):=(blk_cell BK448.out 2).trans rfl
     have hfz21_0:=blk_frozen BK448.out 0
     have hfz21_1:=blk_frozen BK448.out 1
     have hfz21_2:=blk_frozen BK448.out 2
     go_wp2_with (first | ((with_reducible refine gate_builtin (b:=.append) (xs:=#[.tmp 30,.tmp 37]) rfl ?_);at_builtin;refine Kd.R_append k56 (w0:=w) w.heap.size rfl (.tmp 30) (.tmp 37) 35 56 (.agg #[(.int .i64 0),(.int .i64 0),(.float .f64 0),(.float .f64 0),(.int .i64 0)]) 40 rfl Try.underlying35 info56 rfl (by decide) (by omega) (.slice none 0 0) ([]:List (S56)) (⟨a0,2,0,a1_2,a1_1⟩:S56) [.int .i64 a0,.int .i64 2,.float .f64 0,.float .f64 a1_2,.int .i64 a1_1] (fun _ => True) (fun _ => False) rfl rfl ?aP (fun _ hk => hk.elim) ?aF ?aO ?aB ?aS ?aL ?_;(case aP => exact k56_mkM _ _ _ (⟨a0,2,0,a1_2,a1_1⟩:S56));(case aB => exact (by repeat (first | (with_reducible first | exact HB.out | apply below_alloc | apply pw_below_drewN | apply below_drew1 | refine below_set ?_ GE448.out) | exact HB.out)));(case aF => exact (fun _ _ => trivial));(case aO => exact ((Kd.R_nil _ _ _ _ (fun _ => True))));(case aS => exact (below_size (by repeat (first | (with_reducible first | exact HB.out | apply below_alloc | apply pw_below_drewN | apply below_drew1 | refine below_set ?_ GE448.out) | exact HB.out))));(case aL => have:=LMc20.out;omega);intro v453 w22 ho hb hg hat;rw [← Ny452.out] at ho;have n0_:=Aside0.mk (blk_grown (g:=gb448) (o:=.cells #[.int .i64 a1_0,.int .i64 a1_1,.float .f64 a1_2] 34 (0,0)) (by (with_reducible repeat (first | refine blk_drewN ?_ _ | refine blk_drew ?_ | refine blk_alloc ?_ _));exact BK448.out) hg (by simp [Value.ownBlock]));have n1_:=Aside0.mk (hb);have n2_:=Aside0.mk (ho);clear BK448;clear HB;have BK448:=n0_;have HB:=n1_;have HO454:=n2_;clear n0_ n1_ n2_;clear ho hb hg hat))
     go_meet
     case rel => exact ⟨_,(y452),H',⟨by have:=HJ5.out;first | omega | exact Nat.le_refl _⟩,⟨by (with_reducible repeat (first | apply Kd.R_alloc | apply Kd.R_drewN | apply Kd.R_drew));exact HO454.out⟩,⟨by (with_reducible repeat (first | refine blk_drewN ?_ _ | refine blk_drew ?_ | refine blk_alloc ?_ _));exact BK448.out⟩,⟨by repeat (first | (with_reducible first | exact HB.out | apply below_alloc | apply pw_below_drewN | apply below_drew1 | refine below_set ?_ GE448.out) | exact HB.out)⟩⟩
    rw [if_neg c20] at H
    exact absurd H (by simp)
   case rest =>
    clear HC17
    obtain ⟨kq,x8_16,HA,HJ16,HO_8,BK448,HB⟩:=hcut
    cases kq with
    | zero => exact absurd HA.out (by simp [beaconref16_Tell.j1])
    | succ kj16 =>
     have H:=HA.out
     clear HA
     simp only [beaconref16_Tell.j1] at H
     have H':=Aside0.mk H
     clear H
     go_wp2
     go_loopg [8,9] kj16 (fun kq v8 v9 w' => ∃ (x8_3:List (S56)) (x9_3:Int),v9 = .int .i64 x9_3 ∧ Aside0 (beaconref16_Tell.l0 kq l2 x8_3 x9_3 = some (r1,r2)) ∧ Aside0 (kq ≤ kj16) ∧ Aside0 (Kd.R k56 56 w' w.heap.size (fun _ => True) v8 x8_3) ∧ Aside0 (w'.heap[gb448]? = some (.cells #[.int .i64 a1_0,.int .i64 a1_1,.float .f64 a1_2] 34 (0,0))) ∧ Aside0 (Below w.heap.size w w'))
     case atStart => exact ⟨(x8_16),(0),(by first | rfl | (simp;done) | (simp [*];done)),H',⟨Nat.le_refl _⟩,⟨by (with_reducible repeat (first | apply Kd.R_alloc | apply Kd.R_drewN | apply Kd.R_drew));exact HO_8.out⟩,⟨by (with_reducible repeat (first | refine blk_drewN ?_ _ | refine blk_drew ?_ | refine blk_alloc ?_ _));exact BK448.out⟩,⟨by repeat (first | (with_reducible first | exact HB.out | apply below_alloc | apply pw_below_drewN | apply below_drew1 | refine below_set ?_ GE448.out) | exact HB.out)⟩⟩
     case round =>
      clear H'
      obtain ⟨x8_3,x9_3,rfl,HA,HK3,HO_8,BK448,HB⟩:=hrel
      cases gk with
      | zero => exact absurd HA.out (by simp [beaconref16_Tell.l0])
      | succ k3 =>
       have H:=HA.out
       clear HA
       simp only [beaconref16_Tell.l0] at H
       by_cases c23:x9_3 < (l2.length:Int)
       ·rw [if_pos c23] at H
        have c23b0:decide (x9_3 < (l2.length:Int)) = true:=decide_eq_true c23
        clear c23
        by_cases c24:0 ≤ x9_3
        rotate_left
        ·rw [if_neg c24] at H
         exact absurd H (by simp)
        rw [if_pos c24] at H
        have c24b0:decide (0 ≤ x9_3) = true:=decide_eq_true c24
        clear c24
        by_cases c25:((rd_T58 l2 x9_3).f1) = 2
        ·rw [if_pos c25] at H
         have c25b0:(((rd_T58 l2 x9_3).f1) == 2) = true:=beq_iff_eq.mpr c25
         have c25b1:(((rd_T58 l2 x9_3).f1) != 2) = false:=bne_eq_false_iff_eq.mpr c25
         clear c25
         by_cases c26:x8_3.length < 3518437208883
         ·rw [if_pos c26] at H
          have LMc26:=Aside0.mk c26
          clear c26
          obtain ⟨y457,hy457⟩:∃ y_:List (S56),y_ = (x8_3 ++ [(⟨(rd_T58 l2 x9_3).f0,2,(rd_T58 l2 x9_3).f2,(rd_T58 l2 x9_3).f4,(rd_T58 l2 x9_3).f5⟩:S56)]):=⟨_,rfl⟩
          replace H:(beaconref16_Tell.l0 k3 l2 y457 (wrap64 (x9_3 + 1))) = some (r1,r2):=by first | (rw [hy457];with_reducible exact H) | (have H2_:=(Option.bind_some _ _).symm.trans H;rw [hy457];with_reducible exact H2_) | (have H2_:=(Option.bind_some _ _).symm.trans H;with_reducible exact H2_) | with_reducible exact H | (rw [hy457];exact H) | exact H
          have Ny457:=Aside0.mk hy457
          clear hy457
          have H':=Aside0.mk H
          clear H
          have p455:0 ≤ (x9_3:Int):=of_decide_eq_true (by first | (with_reducible assumption) | assumption)
          have q455:x9_3 < (l2.length:Int):=of_decide_eq_true (by first | (with_reducible assumption) | assumption)
          obtain ⟨ad455,e455,hx455_0,hx455_1,hx455_2,hx455_3,hx455_4,hx455_5⟩:=at_T58 HR2.out x9_3 p455 q455
          cases e455
          replace hx455_0:=(HB.out.cell (World.block_lt_of_cell? w _ hx455_0)).trans hx455_0
          replace hx455_1:=(HB.out.cell (World.block_lt_of_cell? w _ hx455_1)).trans hx455_1
          replace hx455_2:=(HB.out.cell (World.block_lt_of_cell? w _ hx455_2)).trans hx455_2
          replace hx455_3:=(HB.out.cell (World.block_lt_of_cell? w _ hx455_3)).trans hx455_3
          replace hx455_4:=(HB.out.cell (World.block_lt_of_cell? w _ hx455_4)).trans hx455_4
          replace hx455_5:=(HB.out.cell (World.block_lt_of_cell? w _ hx455_5)).trans hx455_5
          replace p455:=eq_true p455
          replace q455:=eq_true q455
          go_wp2_with (first | ((with_reducible refine gate_dst (N:=10) rfl ?_);refine box_event ?hg (N:=10) ?hd (cs:=#[.int .i64 0,.int .i64 0,.float .f64 0,.int .i64 0,.float .f64 0,.int .i64 0]) (t:=58) ?hr ?_;(case hd => rfl);(case hg => rfl);(case hr => first | (go_simp;done) | (go_simp;rfl));intro gb456 hg w27 hbox hb;have n0_:=Aside0.mk (Kd.R_below (by (with_reducible repeat (first | apply Kd.R_alloc | apply Kd.R_drewN | apply Kd.R_drew));exact HO_8.out) hb);have n1_:=Aside0.mk (blk_below (g:=gb448) (o:=.cells #[.int .i64 a1_0,.int .i64 a1_1,.float .f64 a1_2] 34 (0,0)) (by (with_reducible repeat (first | refine blk_drewN ?_ _ | refine blk_drew ?_ | refine blk_alloc ?_ _));exact BK448.out) hb);have n2_:=Aside0.mk (below_step (by repeat (first | (with_reducible first | exact HB.out | apply below_alloc | apply pw_below_drewN | apply below_drew1 | refine below_set ?_ GE448.out) | exact HB.out)) hb);have n3_:=Aside0.mk (hbox);have n4_:=Aside0.mk ((by rw [hg];exact (below_size (by repeat (first | (with_reducible first | exact HB.out | apply below_alloc | apply pw_below_drewN | apply below_drew1 | refine below_set ?_ GE448.out) | exact HB.out))):w.heap.size ≤ gb456));have n5_:=Aside0.mk ((by rw [hg];exact (below_size (by repeat (first | (with_reducible first | exact HB.out | apply below_alloc | apply pw_below_drewN | apply below_drew1 | refine below_set ?_ GE448.out) | exact HB.out))):w.heap.size ≤ gb456));have n6_:=Aside0.mk ((by rw [hg];exact Nat.ne_of_lt (blk_lt (g:=gb448) (o:=.cells #[.int .i64 a1_0,.int .i64 a1_1,.float .f64 a1_2] 34 (0,0)) (by (with_reducible repeat (first | refine blk_drewN ?_ _ | refine blk_drew ?_ | refine blk_alloc ?_ _));exact BK448.out)):gb448 ≠ gb456));have n7_:=Aside0.mk ((by rw [hg];exact Nat.ne_of_gt (blk_lt (g:=gb448) (o:=.cells #[.int .i64 a1_0,.int .i64 a1_1,.float .f64 a1_2] 34 (0,0)) (by (with_reducible repeat (first | refine blk_drewN ?_ _ | refine blk_drew ?_ | refine blk_alloc ?_ _));exact BK448.out)):gb456 ≠ gb448));clear HO_8;clear BK448;clear HB;have HO_8:=n0_;have BK448:=n1_;have HB:=n2_;have BK456:=n3_;have GW456:=n4_;have GE456:=n5_;have NB448_456:=n6_;have NB456_448:=n7_;clear n0_ n1_ n2_ n3_ n4_ n5_ n6_ n7_;clear hb hbox hg;have hnb28:=NB456_448.out;have hnc28:=NB448_456.out;have hcz29_0:w27.cell? ⟨gb456,0,none⟩ = some (.int .i64 0):=(blk_cell BK456.out 0).trans rfl;have hcz29_1:w27.cell? ⟨gb456,1,none⟩ = some (.int .i64 0):=(blk_cell BK456.out 1).trans rfl;have hcz29_2:w27.cell? ⟨gb456,2,none⟩ = some (.float .f64 0):=(blk_cell BK456.out 2).trans rfl;have hcz29_3:w27.cell? ⟨gb456,3,none⟩ = some (.int .i64 0):=(blk_cell BK456.out 3).trans rfl;have hcz29_4:w27.cell? ⟨gb456,4,none⟩ = some (.float .f64 0):=(blk_cell BK456.out 4).trans rfl;have hcz29_5:w27.cell? ⟨gb456,5,none⟩ = some (.int .i64 0):=(blk_cell BK456.out 5).trans rfl;have hfz29_0:=blk_frozen BK456.out 0;have hfz29_1:=blk_frozen BK456.out 1;have hfz29_2:=blk_frozen BK456.out 2;have hfz29_3:=blk_frozen BK456.out 3;have hfz29_4:=blk_frozen BK456.out 4;have hfz29_5:=blk_frozen BK456.out 5) | ((with_reducible refine gate_builtin (b:=.append) (xs:=#[.tmp 52,.tmp 62]) rfl ?_);at_builtin;refine Kd.R_append k56 (w0:=w) w.heap.size rfl (.tmp 52) (.tmp 62) 35 56 (.agg #[(.int .i64 0),(.int .i64 0),(.float .f64 0),(.float .f64 0),(.int .i64 0)]) 40 rfl Try.underlying35 info56 rfl (by decide) (by omega) u8 x8_3 (⟨(rd_T58 l2 x9_3).f0,2,(rd_T58 l2 x9_3).f2,(rd_T58 l2 x9_3).f4,(rd_T58 l2 x9_3).f5⟩:S56) [.int .i64 ((rd_T58 l2 x9_3).f0),.int .i64 2,.float .f64 ((rd_T58 l2 x9_3).f2),.float .f64 ((rd_T58 l2 x9_3).f4),.int .i64 ((rd_T58 l2 x9_3).f5)] (fun _ => True) (fun _ => False) rfl (by first | (go_simp;done) | (go_simp;rfl)) ?aP (fun _ hk => hk.elim) ?aF ?aO ?aB ?aS ?aL ?_;(case aP => exact k56_mkM _ _ _ (⟨(rd_T58 l2 x9_3).f0,2,(rd_T58 l2 x9_3).f2,(rd_T58 l2 x9_3).f4,(rd_T58 l2 x9_3).f5⟩:S56));(case aB => exact (by repeat (first | (with_reducible first | exact HB.out | apply below_alloc | apply pw_below_drewN | apply below_drew1 | refine below_set ?_ GE448.out | refine below_set ?_ GE456.out) | exact HB.out)));(case aF => exact (fun _ _ => trivial));(case aO => exact (by (with_reducible repeat (first | apply Kd.R_alloc | apply Kd.R_drewN | apply Kd.R_drew));exact Kd.R_mono (Kd.R_far (p:=⟨gb456,5,none⟩) (Kd.R_far (p:=⟨gb456,4,none⟩) (Kd.R_far (p:=⟨gb456,3,none⟩) (Kd.R_far (p:=⟨gb456,2,none⟩) (Kd.R_far (p:=⟨gb456,1,none⟩) (Kd.R_far (p:=⟨gb456,0,none⟩) (Kd.R_types HO_8.out BK456.out (by decide)) (fun _ hk => hk.2) (.int .i64 ((rd_T58 l2 x9_3).f0))) (fun _ hk => hk.2) (.int .i64 ((rd_T58 l2 x9_3).f1))) (fun _ hk => hk.2) (.float .f64 ((rd_T58 l2 x9_3).f2))) (fun _ hk => hk.2) (.int .i64 ((rd_T58 l2 x9_3).f3))) (fun _ hk => hk.2) (.float .f64 ((rd_T58 l2 x9_3).f4))) (fun _ hk => hk.2) (.int .i64 ((rd_T58 l2 x9_3).f5))) (fun _ hk => trivial)));(case aS => exact (below_size (by repeat (first | (with_reducible first | exact HB.out | apply below_alloc | apply pw_below_drewN | apply below_drew1 | refine below_set ?_ GE448.out | refine below_set ?_ GE456.out) | exact HB.out))));(case aL => have:=LMc26.out;omega);intro v458 w30 ho hb hg hat;rw [← Ny457.out] at ho;have n0_:=Aside0.mk (blk_grown (g:=gb448) (o:=.cells #[.int .i64 a1_0,.int .i64 a1_1,.float .f64 a1_2] 34 (0,0)) (by (with_reducible repeat (first | refine blk_drewN ?_ _ | refine blk_drew ?_ | refine blk_alloc ?_ _));refine blk_far ?_ NB448_456.out _;(with_reducible repeat (first | refine blk_drewN ?_ _ | refine blk_drew ?_ | refine blk_alloc ?_ _));refine blk_far ?_ NB448_456.out _;(with_reducible repeat (first | refine blk_drewN ?_ _ | refine blk_drew ?_ | refine blk_alloc ?_ _));refine blk_far ?_ NB448_456.out _;(with_reducible repeat (first | refine blk_drewN ?_ _ | refine blk_drew ?_ | refine blk_alloc ?_ _));refine blk_far ?_ NB448_456.out _;(with_reducible repeat (first | refine blk_drewN ?_ _ | refine blk_drew ?_ | refine blk_alloc ?_ _));refine blk_far ?_ NB448_456.out _;(with_reducible repeat (first | refine blk_drewN ?_ _ | refine blk_drew ?_ | refine blk_alloc ?_ _));refine blk_far ?_ NB448_456.out _;(with_reducible repeat (first | refine blk_drewN ?_ _ | refine blk_drew ?_ | refine blk_alloc ?_ _));exact BK448.out) hg (Kd.R_ne HO_8.out BK448.out (by decide)));have n1_:=Aside0.mk (blk_grown (g:=gb456) (o:=.cells #[.int .i64 ((rd_T58 l2 x9_3).f0),.int .i64 ((rd_T58 l2 x9_3).f1),.float .f64 ((rd_T58 l2 x9_3).f2),.int .i64 ((rd_T58 l2 x9_3).f3),.float .f64 ((rd_T58 l2 x9_3).f4),.int .i64 ((rd_T58 l2 x9_3).f5)] 58 (0,0)) (by (with_reducible repeat (first | refine blk_drewN ?_ _ | refine blk_drew ?_ | refine blk_alloc ?_ _));refine blk_put (cs:=#[.int .i64 ((rd_T58 l2 x9_3).f0),.int .i64 ((rd_T58 l2 x9_3).f1),.float .f64 ((rd_T58 l2 x9_3).f2),.int .i64 ((rd_T58 l2 x9_3).f3),.float .f64 ((rd_T58 l2 x9_3).f4),.int .i64 0]) ?_ 5 _ rfl;(with_reducible repeat (first | refine blk_drewN ?_ _ | refine blk_drew ?_ | refine blk_alloc ?_ _));refine blk_put (cs:=#[.int .i64 ((rd_T58 l2 x9_3).f0),.int .i64 ((rd_T58 l2 x9_3).f1),.float .f64 ((rd_T58 l2 x9_3).f2),.int .i64 ((rd_T58 l2 x9_3).f3),.float .f64 0,.int .i64 0]) ?_ 4 _ rfl;(with_reducible repeat (first | refine blk_drewN ?_ _ | refine blk_drew ?_ | refine blk_alloc ?_ _));refine blk_put (cs:=#[.int .i64 ((rd_T58 l2 x9_3).f0),.int .i64 ((rd_T58 l2 x9_3).f1),.float .f64 ((rd_T58 l2 x9_3).f2),.int .i64 0,.float .f64 0,.int .i64 0]) ?_ 3 _ rfl;(with_reducible repeat (first | refine blk_drewN ?_ _ | refine blk_drew ?_ | refine blk_alloc ?_ _));refine blk_put (cs:=#[.int .i64 ((rd_T58 l2 x9_3).f0),.int .i64 ((rd_T58 l2 x9_3).f1),.float .f64 0,.int .i64 0,.float .f64 0,.int .i64 0]) ?_ 2 _ rfl;(with_reducible repeat (first | refine blk_drewN ?_ _ | refine blk_drew ?_ | refine blk_alloc ?_ _));refine blk_put (cs:=#[.int .i64 ((rd_T58 l2 x9_3).f0),.int .i64 0,.float .f64 0,.int .i64 0,.float .f64 0,.int .i64 0]) ?_ 1 _ rfl;(with_reducible repeat (first | refine blk_drewN ?_ _ | refine blk_drew ?_ | refine blk_alloc ?_ _));refine blk_put (cs:=#[.int .i64 0,.int .i64 0,.float .f64 0,.int .i64 0,.float .f64 0,.int .i64 0]) ?_ 0 _ rfl;(with_reducible repeat (first | refine blk_drewN ?_ _ | refine blk_drew ?_ | refine blk_alloc ?_ _));exact BK456.out) hg (Kd.R_ne HO_8.out BK456.out (by decide)));have n2_:=Aside0.mk (hb);have n3_:=Aside0.mk (ho);clear BK448;clear BK456;clear HB;clear HO_8;have BK448:=n0_;have BK456:=n1_;have HB:=n2_;have HO459:=n3_;clear n0_ n1_ n2_ n3_;clear ho hb hg hat))
          go_roundg k3
          case measure => have:=HJ5.out;have:=HJ16.out;have:=HK3.out;omega
          case rel => exact ⟨(y457),(wrap64 (x9_3 + 1)),(by first | rfl | (simp;done) | (simp [*];done)),H',⟨by have:=HJ5.out;have:=HJ16.out;have:=HK3.out;omega⟩,⟨by (with_reducible repeat (first | apply Kd.R_alloc | apply Kd.R_drewN | apply Kd.R_drew));exact HO459.out⟩,⟨by (with_reducible repeat (first | refine blk_drewN ?_ _ | refine blk_drew ?_ | refine blk_alloc ?_ _));exact BK448.out⟩,⟨by repeat (first | (with_reducible first | exact HB.out | apply below_alloc | apply pw_below_drewN | apply below_drew1 | refine below_set ?_ GE448.out | refine below_set ?_ GE456.out) | exact HB.out)⟩⟩
         rw [if_neg c26] at H
         exact absurd H (by simp)
        rw [if_neg c25] at H
        have c25b0:(((rd_T58 l2 x9_3).f1) == 2) = false:=beq_eq_false_iff_ne.mpr c25
        have c25b1:(((rd_T58 l2 x9_3).f1) != 2) = true:=bne_iff_ne.mpr c25
        have H':=Aside0.mk H
        clear H
        have p455:0 ≤ (x9_3:Int):=of_decide_eq_true (by first | (with_reducible assumption) | assumption)
        have q455:x9_3 < (l2.length:Int):=of_decide_eq_true (by first | (with_reducible assumption) | assumption)
        obtain ⟨ad455,e455,hx455_0,hx455_1,hx455_2,hx455_3,hx455_4,hx455_5⟩:=at_T58 HR2.out x9_3 p455 q455
        cases e455
        replace hx455_0:=(HB.out.cell (World.block_lt_of_cell? w _ hx455_0)).trans hx455_0
        replace hx455_1:=(HB.out.cell (World.block_lt_of_cell? w _ hx455_1)).trans hx455_1
        replace hx455_2:=(HB.out.cell (World.block_lt_of_cell? w _ hx455_2)).trans hx455_2
        replace hx455_3:=(HB.out.cell (World.block_lt_of_cell? w _ hx455_3)).trans hx455_3
        replace hx455_4:=(HB.out.cell (World.block_lt_of_cell? w _ hx455_4)).trans hx455_4
        replace hx455_5:=(HB.out.cell (World.block_lt_of_cell? w _ hx455_5)).trans hx455_5
        replace p455:=eq_true p455
        replace q455:=eq_true q455
        go_wp2_with (first | ((with_reducible refine gate_dst (N:=10) rfl ?_);refine box_event ?hg (N:=10) ?hd (cs:=#[.int .i64 0,.int .i64 0,.float .f64 0,.int .i64 0,.float .f64 0,.int .i64 0]) (t:=58) ?hr ?_;(case hd => rfl);(case hg => rfl);(case hr => first | (go_simp;done) | (go_simp;rfl));intro gb456 hg w31 hbox hb;have n0_:=Aside0.mk (Kd.R_below (by (with_reducible repeat (first | apply Kd.R_alloc | apply Kd.R_drewN | apply Kd.R_drew));exact HO_8.out) hb);have n1_:=Aside0.mk (blk_below (g:=gb448) (o:=.cells #[.int .i64 a1_0,.int .i64 a1_1,.float .f64 a1_2] 34 (0,0)) (by (with_reducible repeat (first | refine blk_drewN ?_ _ | refine blk_drew ?_ | refine blk_alloc ?_ _));exact BK448.out) hb);have n2_:=Aside0.mk (below_step (by repeat (first | (with_reducible first | exact HB.out | apply below_alloc | apply pw_below_drewN | apply below_drew1 | refine below_set ?_ GE448.out) | exact HB.out)) hb);have n3_:=Aside0.mk (hbox);have n4_:=Aside0.mk ((by rw [hg];exact (below_size (by repeat (first | (with_reducible first | exact HB.out | apply below_alloc | apply pw_below_drewN | apply below_drew1 | refine below_set ?_ GE448.out) | exact HB.out))):w.heap.size ≤ gb456));have n5_:=Aside0.mk ((by rw [hg];exact (below_size (by repeat (first | (with_reducible first | exact HB.out | apply below_alloc | apply pw_below_drewN | apply below_drew1 | refine below_set ?_ GE448.out) | exact HB.out))):w.heap.size ≤ gb456));have n6_:=Aside0.mk ((by rw [hg];exact Nat.ne_of_lt (blk_lt (g:=gb448) (o:=.cells #[.int .i64 a1_0,.int .i64 a1_1,.float .f64 a1_2] 34 (0,0)) (by (with_reducible repeat (first | refine blk_drewN ?_ _ | refine blk_drew ?_ | refine blk_alloc ?_ _));exact BK448.out)):gb448 ≠ gb456));have n7_:=Aside0.mk ((by rw [hg];exact Nat.ne_of_gt (blk_lt (g:=gb448) (o:=.cells #[.int .i64 a1_0,.int .i64 a1_1,.float .f64 a1_2] 34 (0,0)) (by (with_reducible repeat (first | refine blk_drewN ?_ _ | refine blk_drew ?_ | refine blk_alloc ?_ _));exact BK448.out)):gb456 ≠ gb448));clear HO_8;clear BK448;clear HB;have HO_8:=n0_;have BK448:=n1_;have HB:=n2_;have BK456:=n3_;have GW456:=n4_;have GE456:=n5_;have NB448_456:=n6_;have NB456_448:=n7_;clear n0_ n1_ n2_ n3_ n4_ n5_ n6_ n7_;clear hb hbox hg;have hnb32:=NB456_448.out;have hnc32:=NB448_456.out;have hcz33_0:w31.cell? ⟨gb456,0,none⟩ = some (.int .i64 0):=(blk_cell BK456.out 0).trans rfl;have hcz33_1:w31.cell? ⟨gb456,1,none⟩ = some (.int .i64 0):=(blk_cell BK456.out 1).trans rfl;have hcz33_2:w31.cell? ⟨gb456,2,none⟩ = some (.float .f64 0):=(blk_cell BK456.out 2).trans rfl;have hcz33_3:w31.cell? ⟨gb456,3,none⟩ = some (.int .i64 0):=(blk_cell BK456.out 3).trans rfl;have hcz33_4:w31.cell? ⟨gb456,4,none⟩ = some (.float .f64 0):=(blk_cell BK456.out 4).trans rfl;have hcz33_5:w31.cell? ⟨gb456,5,none⟩ = some (.int .i64 0):=(blk_cell BK456.out 5).trans rfl;have hfz33_0:=blk_frozen BK456.out 0;have hfz33_1:=blk_frozen BK456.out 1;have hfz33_2:=blk_frozen BK456.out 2;have hfz33_3:=blk_frozen BK456.out 3;have hfz33_4:=blk_frozen BK456.out 4;have hfz33_5:=blk_frozen BK456.out 5))
        go_roundg k3
        case measure => have:=HJ5.out;have:=HJ16.out;have:=HK3.out;omega
        case rel => exact ⟨(x8_3),(wrap64 (x9_3 + 1)),(by first | rfl | (simp;done) | (simp [*];done)),H',⟨by have:=HJ5.out;have:=HJ16.out;have:=HK3.out;omega⟩,⟨by (with_reducible repeat (first | apply Kd.R_alloc | apply Kd.R_drewN | apply Kd.R_drew));exact Kd.R_mono (Kd.R_far (p:=⟨gb456,5,none⟩) (Kd.R_far (p:=⟨gb456,4,none⟩) (Kd.R_far (p:=⟨gb456,3,none⟩) (Kd.R_far (p:=⟨gb456,2,none⟩) (Kd.R_far (p:=⟨gb456,1,none⟩) (Kd.R_far (p:=⟨gb456,0,none⟩) (Kd.R_types HO_8.out BK456.out (by decide)) (fun _ hk => hk.2) (.int .i64 ((rd_T58 l2 x9_3).f0))) (fun _ hk => hk.2) (.int .i64 ((rd_T58 l2 x9_3).f1))) (fun _ hk => hk.2) (.float .f64 ((rd_T58 l2 x9_3).f2))) (fun _ hk => hk.2) (.int .i64 ((rd_T58 l2 x9_3).f3))) (fun _ hk => hk.2) (.float .f64 ((rd_T58 l2 x9_3).f4))) (fun _ hk => hk.2) (.int .i64 ((rd_T58 l2 x9_3).f5))) (fun _ hk => trivial)⟩,⟨by (with_reducible repeat (first | refine blk_drewN ?_ _ | refine blk_drew ?_ | refine blk_alloc ?_ _));refine blk_far ?_ NB448_456.out _;(with_reducible repeat (first | refine blk_drewN ?_ _ | refine blk_drew ?_ | refine blk_alloc ?_ _));refine blk_far ?_ NB448_456.out _;(with_reducible repeat (first | refine blk_drewN ?_ _ | refine blk_drew ?_ | refine blk_alloc ?_ _));refine blk_far ?_ NB448_456.out _;(with_reducible repeat (first | refine blk_drewN ?_ _ | refine blk_drew ?_ | refine blk_alloc ?_ _));refine blk_far ?_ NB448_456.out _;(with_reducible repeat (first | refine blk_drewN ?_ _ | refine blk_drew ?_ | refine blk_alloc ?_ _));refine blk_far ?_ NB448_456.out _;(with_reducible repeat (first | refine blk_drewN ?_ _ | refine blk_drew ?_ | refine blk_alloc ?_ _));refine blk_far ?_ NB448_456.out _;(with_reducible repeat (first | refine blk_drewN ?_ _ | refine blk_drew ?_ | refine blk_alloc ?_ _));exact BK448.out⟩,⟨by repeat (first | (with_reducible first | exact HB.out | apply below_alloc | apply pw_below_drewN | apply below_drew1 | refine below_set ?_ GE448.out | refine below_set ?_ GE456.out) | exact HB.out)⟩⟩
       rw [if_neg c23] at H
       have c23b0:decide (x9_3 < (l2.length:Int)) = false:=decide_eq_false c23
       clear c23
       have H':=Aside0.mk H
       clear H
       go_wp2
       go_loopg [11] k3 (fun kq v11 w' => ∃ (x8_4:List (S56)) (x11_4:Int),v11 = .int .i64 x11_4 ∧ Aside0 (beaconref16_Tell.l1 kq x8_4 x11_4 = some (r1,r2)) ∧ Aside0 (kq ≤ k3) ∧ Aside0 (Kd.R k56 56 w' w.heap.size (fun _ => True) u8 x8_4) ∧ Aside0 (w'.heap[gb448]? = some (.cells #[.int .i64 a1_0,.int .i64 a1_1,.float .f64 a1_2] 34 (0,0))) ∧ Aside0 (Below w.heap.size w w'))
       case atStart => exact ⟨(x8_3),(0),(by first | rfl | (simp;done) | (simp [*];done)),H',⟨Nat.le_refl _⟩,⟨by (with_reducible repeat (first | apply Kd.R_alloc | apply Kd.R_drewN | apply Kd.R_drew));exact HO_8.out⟩,⟨by (with_reducible repeat (first | refine blk_drewN ?_ _ | refine blk_drew ?_ | refine blk_alloc ?_ _));exact BK448.out⟩,⟨by repeat (first | (with_reducible first | exact HB.out | apply below_alloc | apply pw_below_drewN | apply below_drew1 | refine below_set ?_ GE448.out) | exact HB.out)⟩⟩
       case round =>
        clear H'
        obtain ⟨x8_4,x11_4,rfl,HA,HK4,HO_8,BK448,HB⟩:=hrel
        cases gk with
        | zero => exact absurd HA.out (by simp [beaconref16_Tell.l1])
        | succ k4 =>
         have H:=HA.out
         clear HA
         simp only [beaconref16_Tell.l1] at H
         by_cases c34:x11_4 < (x8_4.length:Int)
         rotate_left
         ·rw [if_neg c34] at H
          have c34b0:decide (x11_4 < (x8_4.length:Int)) = false:=decide_eq_false c34
          clear c34
          simp only [Option.some.injEq,Prod.mk.injEq] at H
          obtain ⟨rfl,rfl⟩:=H
          obtain ⟨Ao51,co51,eo51⟩:=Kd.R_slice HO_8.out
          subst eo51
          go_wp2
          go_ret2
          exact ⟨_,by first | rfl | (simp [errW_none,errW_some] <;> rfl) | (simp [*,errW_none,errW_some] <;> rfl),by (with_reducible repeat (first | apply Kd.R_alloc | apply Kd.R_drewN | apply Kd.R_drew));exact HO_8.out,by repeat (first | (with_reducible first | exact HB.out | apply below_alloc | apply pw_below_drewN | apply below_drew1 | refine below_set ?_ GE448.out) | exact HB.out)⟩
         rw [if_pos c34] at H
         have c34b0:decide (x11_4 < (x8_4.length:Int)) = true:=decide_eq_true c34
         clear c34
         have H':=Aside0.mk H
         clear H
         obtain ⟨Ao35,co35,eo35⟩:=Kd.R_slice HO_8.out
         subst eo35
         go_wp2
         go_loopg [12] k4 (fun kq v12 w' => ∃ (x8_5:List (S56)) (x12_5:Int),v12 = .int .i64 x12_5 ∧ Aside0 (beaconref16_Tell.l2 kq x8_5 x11_4 x12_5 = some (r1,r2)) ∧ Aside0 (kq ≤ k4) ∧ Aside0 (Kd.R k56 56 w' w.heap.size (fun _ => True) (.slice Ao35 x8_4.length co35) x8_5) ∧ Aside0 (w'.heap[gb448]? = some (.cells #[.int .i64 a1_0,.int .i64 a1_1,.float .f64 a1_2] 34 (0,0))) ∧ Aside0 (Below w.heap.size w w'))
         case atStart => exact ⟨(x8_4),(x11_4),(by first | rfl | (simp;done) | (simp [*];done)),H',⟨Nat.le_refl _⟩,⟨by (with_reducible repeat (first | apply Kd.R_alloc | apply Kd.R_drewN | apply Kd.R_drew));exact HO_8.out⟩,⟨by (with_reducible repeat (first | refine blk_drewN ?_ _ | refine blk_drew ?_ | refine blk_alloc ?_ _));exact BK448.out⟩,⟨by repeat (first | (with_reducible first | exact HB.out | apply below_alloc | apply pw_below_drewN | apply below_drew1 | refine below_set ?_ GE448.out) | exact HB.out)⟩⟩
         case round =>
          clear H'
          obtain ⟨x8_5,x12_5,rfl,HA,HK5,HO_8,BK448,HB⟩:=hrel
          have hl8_5:=(Kd.R_reads' HO_8.out).1
          rw [hl8_5] at HO_8
          (try simp only [hl8_5])
          (try simp only [hl8_5] at BK448)
          cases gk with
          | zero => exact absurd HA.out (by simp [beaconref16_Tell.l2])
          | succ k5 =>
           have H:=HA.out
           clear HA
           simp only [beaconref16_Tell.l2] at H
           by_cases c36:x12_5 > 0
           rotate_left
           ·rw [if_neg c36] at H
            have c36b0:decide (0 < x12_5) = false:=decide_eq_false c36
            clear c36
            have H':=Aside0.mk H
            clear H
            try go_wp2
            have n0_:=Aside0.mk (Kd.R_drew HO_8.out)
            have n1_:=Aside0.mk (blk_drew BK448.out)
            have n2_:=Aside0.mk (below_drew1 HB.out)
            clear HO_8
            clear BK448
            clear HB
            have HO_8:=n0_
            have BK448:=n1_
            have HB:=n2_
            clear n0_ n1_ n2_
            refine start_ (n:=16) (S:=fun w' => True) (ds:=[]) #[false,false,false,false,false,false,false,false,false,false,false,false,false,false,false,false] (by kernel_rfl) rfl rfl trivial (fun hHeld => ?_);refine with_tabW beaconref16_Tell.tab18 beaconref16_Tell.bits18 (fun HT_ HW_ => ?_)
            generalize wr.drew = w50 at HO_8 BK448 HB hHeld ⊢
            refine manyT_ (fuel:=0) (a':=?_) ((0,0) :: (1,0) :: (2,0) :: (3,1) :: (4,1) :: (5,1) :: (6,1) :: (7,1) :: (8,1) :: (9,1) :: (10,1) :: (11,1) :: (12,1) :: (13,1) :: (14,1) :: (15,0) :: []) #[true,true,true,true,true,true,true,true,true,true,true,true,true,true,true,true] rfl HT_ (by kernel_rfl) (fun _ _ _ _ _ h => h) (fun h => absurd h (by decide)) ?_ ?_
            rotate_left
            ·repeat (first | exact Chain.nil _ | (apply Chain.on;rfl;rfl;(focus intro w';go_simp;with_reducible rfl);(focus simp only [Act.put,List.setIfInBounds_toArray,List.set_cons_zero,List.set_cons_succ,i64_w,i32_w];rfl)) | (apply Chain.off;rfl;rfl;(focus simp only [Act.put,List.setIfInBounds_toArray,List.set_cons_zero,List.set_cons_succ,i64_w,i32_w];rfl)))
            refine done_ (done_of HT_.out (by kernel_rfl)) ?_
            try go_wp2
            (try simp only [← hl8_5])
            go_roundg k5
            case measure => have:=HJ5.out;have:=HJ16.out;have:=HK3.out;have:=HK4.out;have:=HK5.out;omega
            case rel => exact ⟨(x8_5),(wrap64 (x11_4 + 1)),(by first | rfl | (simp;done) | (simp [*];done)),H',⟨by have:=HJ5.out;have:=HJ16.out;have:=HK3.out;have:=HK4.out;have:=HK5.out;omega⟩,⟨by (try simp only [hl8_5]);(with_reducible repeat (first | apply Kd.R_alloc | apply Kd.R_drewN | apply Kd.R_drew));exact HO_8.out⟩,⟨by (try simp only [hl8_5]);(with_reducible repeat (first | refine blk_drewN ?_ _ | refine blk_drew ?_ | refine blk_alloc ?_ _));exact BK448.out⟩,⟨by repeat (first | (with_reducible first | exact HB.out | apply below_alloc | apply pw_below_drewN | apply below_drew1 | refine below_set ?_ GE448.out) | exact HB.out)⟩⟩
           rw [if_pos c36] at H
           have c36b0:decide (0 < x12_5) = true:=decide_eq_true c36
           clear c36
           by_cases c37:0 ≤ x12_5
           rotate_left
           ·rw [if_neg c37] at H
            exact absurd H (by simp)
           rw [if_pos c37] at H
           have c37b0:decide (0 ≤ x12_5) = true:=decide_eq_true c37
           clear c37
           by_cases c38:x12_5 < (x8_5.length:Int)
           rotate_left
           ·rw [if_neg c38] at H
            exact absurd H (by simp)
           rw [if_pos c38] at H
           have c38b0:decide (x12_5 < (x8_5.length:Int)) = true:=decide_eq_true c38
           clear c38
           obtain ⟨ji39,hji39⟩:∃ j_:Int,(wrap64 (x12_5 - 1)) = j_:=⟨_,rfl⟩
           replace H:(if 0 ≤ (ji39) then (if (ji39) < (x8_5.length:Int) then (if ((rd_T56 x8_5 x12_5).f0) < ((rd_T56 x8_5 (ji39)).f0) then (beaconref16_Tell.l2 k5 ((x8_5.set (x12_5:Int).toNat (⟨(rd_T56 x8_5 (ji39)).f0,(rd_T56 x8_5 (ji39)).f1,(rd_T56 x8_5 (ji39)).f2,(rd_T56 x8_5 (ji39)).f3,(rd_T56 x8_5 (ji39)).f4⟩:S56)).set ((ji39):Int).toNat (⟨(rd_T56 x8_5 x12_5).f0,(rd_T56 x8_5 x12_5).f1,(rd_T56 x8_5 x12_5).f2,(rd_T56 x8_5 x12_5).f3,(rd_T56 x8_5 x12_5).f4⟩:S56)) x11_4 ji39) else (beaconref16_Tell.l1 k5 x8_5 (wrap64 (x11_4 + 1)))) else (none)) else (none)) = some (r1,r2):=by first | (rw [hji39] at H;exact H) | (simp only [hji39] at H ⊢;exact H)
           have hji39w:(IntKind.i64.wrap (x12_5 - 1)) = ji39:=(i64_w _).trans hji39
           by_cases c40:0 ≤ (ji39)
           rotate_left
           ·rw [if_neg c40] at H
            exact absurd H (by simp)
           rw [if_pos c40] at H
           have c40b0:decide (0 ≤ (ji39)) = true:=decide_eq_true c40
           clear c40
           by_cases c41:(ji39) < (x8_5.length:Int)
           rotate_left
           ·rw [if_neg c41] at H
            exact absurd H (by simp)
           rw [if_pos c41] at H
           have c41b0:decide ((ji39) < (x8_5.length:Int)) = true:=decide_eq_true c41
           clear c41
           by_cases c42:((rd_T56 x8_5 x12_5).f0) < ((rd_T56 x8_5 (ji39)).f0)
           rotate_left
           ·rw [if_neg c42] at H
            have c42b0:decide (((rd_T56 x8_5 x12_5).f0) < ((rd_T56 x8_5 (ji39)).f0)) = false:=decide_eq_false c42
            clear c42
            have H':=Aside0.mk H
            clear H
            try go_wp2
            have n0_:=Aside0.mk (Kd.R_drew HO_8.out)
            have n1_:=Aside0.mk (blk_drew BK448.out)
            have n2_:=Aside0.mk (below_drew1 HB.out)
            clear HO_8
            clear BK448
            clear HB
            have HO_8:=n0_
            have BK448:=n1_
            have HB:=n2_
            clear n0_ n1_ n2_
            have p460:0 ≤ (x12_5:Int):=of_decide_eq_true (by first | (with_reducible assumption) | assumption)
            have q460:x12_5 < (x8_5.length:Int):=of_decide_eq_true (by first | (with_reducible assumption) | assumption)
            obtain ⟨ad460,e460,hx460_0,hx460_1,hx460_2,hx460_3,hx460_4⟩:=at_T56 (Kd.R_reads' HO_8.out).2.2 x12_5 p460 q460
            cases e460
            replace p460:=eq_true p460
            replace q460:=eq_true q460
            have p461:0 ≤ ((ji39):Int):=of_decide_eq_true (by first | (with_reducible assumption) | assumption)
            have q461:(ji39) < (x8_5.length:Int):=of_decide_eq_true (by first | (with_reducible assumption) | assumption)
            obtain ⟨ad461,e461,hx461_0,hx461_1,hx461_2,hx461_3,hx461_4⟩:=at_T56 (Kd.R_reads' HO_8.out).2.2 (ji39) p461 q461
            obtain rfl:ad460 = ad461:=(by injection e461)
            replace p461:=eq_true p461
            replace q461:=eq_true q461
            refine start_ (n:=16) (S:=fun w' => w'.cell? (ad460.add ((x12_5).toNat * 5)) = some (.int .i64 ((rd_T56 x8_5 x12_5).f0)) ∧ w'.cell? ⟨(ad460.add ((x12_5).toNat * 5)).block,(ad460.add ((x12_5).toNat * 5)).off + 1,none⟩ = some (.int .i64 ((rd_T56 x8_5 x12_5).f1)) ∧ w'.cell? ⟨(ad460.add ((x12_5).toNat * 5)).block,(ad460.add ((x12_5).toNat * 5)).off + 2,none⟩ = some (.float .f64 ((rd_T56 x8_5 x12_5).f2)) ∧ w'.cell? ⟨(ad460.add ((x12_5).toNat * 5)).block,(ad460.add ((x12_5).toNat * 5)).off + 3,none⟩ = some (.float .f64 ((rd_T56 x8_5 x12_5).f3)) ∧ w'.cell? ⟨(ad460.add ((x12_5).toNat * 5)).block,(ad460.add ((x12_5).toNat * 5)).off + 4,none⟩ = some (.int .i64 ((rd_T56 x8_5 x12_5).f4)) ∧ w'.cell? (ad460.add (((ji39)).toNat * 5)) = some (.int .i64 ((rd_T56 x8_5 (ji39)).f0)) ∧ w'.cell? ⟨(ad460.add (((ji39)).toNat * 5)).block,(ad460.add (((ji39)).toNat * 5)).off + 1,none⟩ = some (.int .i64 ((rd_T56 x8_5 (ji39)).f1)) ∧ w'.cell? ⟨(ad460.add (((ji39)).toNat * 5)).block,(ad460.add (((ji39)).toNat * 5)).off + 2,none⟩ = some (.float .f64 ((rd_T56 x8_5 (ji39)).f2)) ∧ w'.cell? ⟨(ad460.add (((ji39)).toNat * 5)).block,(ad460.add (((ji39)).toNat * 5)).off + 3,none⟩ = some (.float .f64 ((rd_T56 x8_5 (ji39)).f3)) ∧ w'.cell? ⟨(ad460.add (((ji39)).toNat * 5)).block,(ad460.add (((ji39)).toNat * 5)).off + 4,none⟩ = some (.int .i64 ((rd_T56 x8_5 (ji39)).f4))) (ds:=[]) #[false,false,false,false,false,false,false,false,false,false,false,false,false,false,false,false] (by kernel_rfl) rfl rfl ⟨hx460_0,hx460_1,hx460_2,hx460_3,hx460_4,hx461_0,hx461_1,hx461_2,hx461_3,hx461_4⟩ (fun hHeld => ?_);refine with_tabW beaconref16_Tell.tab18 beaconref16_Tell.bits18 (fun HT_ HW_ => ?_)
            generalize wr.drew = w49 at HO_8 BK448 HB hx460_0 hx460_1 hx460_2 hx460_3 hx460_4 hx461_0 hx461_1 hx461_2 hx461_3 hx461_4 hHeld ⊢
            refine manyW_ (fuel:=0) (a':=?_) ((0,0) :: (1,0) :: (2,0) :: (3,0) :: (4,0) :: (5,0) :: (6,0) :: (8,0) :: (9,0) :: (10,0) :: (11,0) :: (12,0) :: (7,2) :: (13,2) :: (14,0) :: (15,0) :: []) #[true,true,true,true,true,true,true,true,true,true,true,true,true,true,true,true] rfl HT_ HW_ (by kernel_rfl) (fun _ _ _ _ _ h => h) (fun _ => hHeld) ?_ ?_
            rotate_left
            ·repeat (first | exact Chain.nil _ | (apply Chain.on;rfl;rfl;(focus intro w';go_simp;with_reducible rfl);(focus simp only [Act.put,List.setIfInBounds_toArray,List.set_cons_zero,List.set_cons_succ,i64_w,i32_w];rfl)) | (apply Chain.take;rfl;rfl;(focus rintro w' ⟨s0,s1,s2,s3,s4,s5,s6,s7,s8,s9⟩;go_simp;with_reducible rfl);(focus simp only [Act.put,List.setIfInBounds_toArray,List.set_cons_zero,List.set_cons_succ,i64_w,i32_w];rfl)))
            refine done_ (done_of HT_.out (by kernel_rfl)) ?_
            try go_wp2
            (try simp only [← hl8_5])
            go_roundg k5
            case measure => have:=HJ5.out;have:=HJ16.out;have:=HK3.out;have:=HK4.out;have:=HK5.out;omega
            case rel => exact ⟨(x8_5),(wrap64 (x11_4 + 1)),(by first | rfl | (simp;done) | (simp [*];done)),H',⟨by have:=HJ5.out;have:=HJ16.out;have:=HK3.out;have:=HK4.out;have:=HK5.out;omega⟩,⟨by (try simp only [hl8_5]);(with_reducible repeat (first | apply Kd.R_alloc | apply Kd.R_drewN | apply Kd.R_drew));exact HO_8.out⟩,⟨by (try simp only [hl8_5]);(with_reducible repeat (first | refine blk_drewN ?_ _ | refine blk_drew ?_ | refine blk_alloc ?_ _));exact BK448.out⟩,⟨by repeat (first | (with_reducible first | exact HB.out | apply below_alloc | apply pw_below_drewN | apply below_drew1 | refine below_set ?_ GE448.out) | exact HB.out)⟩⟩
           rw [if_pos c42] at H
           have c42b0:decide (((rd_T56 x8_5 x12_5).f0) < ((rd_T56 x8_5 (ji39)).f0)) = true:=decide_eq_true c42
           clear c42
           obtain ⟨y464,hy464⟩:∃ y_:List (S56),y_ = (x8_5.set (x12_5:Int).toNat (⟨(rd_T56 x8_5 (ji39)).f0,(rd_T56 x8_5 (ji39)).f1,(rd_T56 x8_5 (ji39)).f2,(rd_T56 x8_5 (ji39)).f3,(rd_T56 x8_5 (ji39)).f4⟩:S56)):=⟨_,rfl⟩
           replace H:(beaconref16_Tell.l2 k5 (y464.set ((ji39):Int).toNat (⟨(rd_T56 x8_5 x12_5).f0,(rd_T56 x8_5 x12_5).f1,(rd_T56 x8_5 x12_5).f2,(rd_T56 x8_5 x12_5).f3,(rd_T56 x8_5 x12_5).f4⟩:S56)) x11_4 ji39) = some (r1,r2):=by first | (rw [hy464];with_reducible exact H) | (have H2_:=(Option.bind_some _ _).symm.trans H;rw [hy464];with_reducible exact H2_) | (have H2_:=(Option.bind_some _ _).symm.trans H;with_reducible exact H2_) | with_reducible exact H | (rw [hy464];exact H) | exact H
           have Ny464:=Aside0.mk hy464
           clear hy464
           obtain ⟨y465,hy465⟩:∃ y_:List (S56),y_ = (y464.set ((ji39):Int).toNat (⟨(rd_T56 x8_5 x12_5).f0,(rd_T56 x8_5 x12_5).f1,(rd_T56 x8_5 x12_5).f2,(rd_T56 x8_5 x12_5).f3,(rd_T56 x8_5 x12_5).f4⟩:S56)):=⟨_,rfl⟩
           replace H:(beaconref16_Tell.l2 k5 y465 x11_4 ji39) = some (r1,r2):=by first | (rw [hy465];with_reducible exact H) | (have H2_:=(Option.bind_some _ _).symm.trans H;rw [hy465];with_reducible exact H2_) | (have H2_:=(Option.bind_some _ _).symm.trans H;with_reducible exact H2_) | with_reducible exact H | (rw [hy465];exact H) | exact H
           have Ny465:=Aside0.mk hy465
           clear hy465
           have H':=Aside0.mk H
           clear H
           try go_wp2
           have n0_:=Aside0.mk (Kd.R_drew HO_8.out)
           have n1_:=Aside0.mk (blk_drew BK448.out)
           have n2_:=Aside0.mk (below_drew1 HB.out)
           clear HO_8
           clear BK448
           clear HB
           have HO_8:=n0_
           have BK448:=n1_
           have HB:=n2_
           clear n0_ n1_ n2_
           have p460:0 ≤ (x12_5:Int):=of_decide_eq_true (by first | (with_reducible assumption) | assumption)
           have q460:x12_5 < (x8_5.length:Int):=of_decide_eq_true (by first | (with_reducible assumption) | assumption)
           obtain ⟨ad460,e460,hx460_0,hx460_1,hx460_2,hx460_3,hx460_4⟩:=at_T56 (Kd.R_reads' HO_8.out).2.2 x12_5 p460 q460
           cases e460
           replace p460:=eq_true p460
           replace q460:=eq_true q460
           have p461:0 ≤ ((ji39):Int):=of_decide_eq_true (by first | (with_reducible assumption) | assumption)
           have q461:(ji39) < (x8_5.length:Int):=of_decide_eq_true (by first | (with_reducible assumption) | assumption)
           obtain ⟨ad461,e461,hx461_0,hx461_1,hx461_2,hx461_3,hx461_4⟩:=at_T56 (Kd.R_reads' HO_8.out).2.2 (ji39) p461 q461
           obtain rfl:ad460 = ad461:=(by injection e461)
           replace p461:=eq_true p461
           replace q461:=eq_true q461
           refine start_ (n:=16) (S:=fun w' => w'.cell? (ad460.add ((x12_5).toNat * 5)) = some (.int .i64 ((rd_T56 x8_5 x12_5).f0)) ∧ w'.cell? ⟨(ad460.add ((x12_5).toNat * 5)).block,(ad460.add ((x12_5).toNat * 5)).off + 1,none⟩ = some (.int .i64 ((rd_T56 x8_5 x12_5).f1)) ∧ w'.cell? ⟨(ad460.add ((x12_5).toNat * 5)).block,(ad460.add ((x12_5).toNat * 5)).off + 2,none⟩ = some (.float .f64 ((rd_T56 x8_5 x12_5).f2)) ∧ w'.cell? ⟨(ad460.add ((x12_5).toNat * 5)).block,(ad460.add ((x12_5).toNat * 5)).off + 3,none⟩ = some (.float .f64 ((rd_T56 x8_5 x12_5).f3)) ∧ w'.cell? ⟨(ad460.add ((x12_5).toNat * 5)).block,(ad460.add ((x12_5).toNat * 5)).off + 4,none⟩ = some (.int .i64 ((rd_T56 x8_5 x12_5).f4)) ∧ w'.cell? (ad460.add (((ji39)).toNat * 5)) = some (.int .i64 ((rd_T56 x8_5 (ji39)).f0)) ∧ w'.cell? ⟨(ad460.add (((ji39)).toNat * 5)).block,(ad460.add (((ji39)).toNat * 5)).off + 1,none⟩ = some (.int .i64 ((rd_T56 x8_5 (ji39)).f1)) ∧ w'.cell? ⟨(ad460.add (((ji39)).toNat * 5)).block,(ad460.add (((ji39)).toNat * 5)).off + 2,none⟩ = some (.float .f64 ((rd_T56 x8_5 (ji39)).f2)) ∧ w'.cell? ⟨(ad460.add (((ji39)).toNat * 5)).block,(ad460.add (((ji39)).toNat * 5)).off + 3,none⟩ = some (.float .f64 ((rd_T56 x8_5 (ji39)).f3)) ∧ w'.cell? ⟨(ad460.add (((ji39)).toNat * 5)).block,(ad460.add (((ji39)).toNat * 5)).off + 4,none⟩ = some (.int .i64 ((rd_T56 x8_5 (ji39)).f4))) (ds:=[]) #[false,false,false,false,false,false,false,false,false,false,false,false,false,false,false,false] (by kernel_rfl) rfl rfl ⟨hx460_0,hx460_1,hx460_2,hx460_3,hx460_4,hx461_0,hx461_1,hx461_2,hx461_3,hx461_4⟩ (fun hHeld => ?_);refine with_tabW beaconref16_Tell.tab18 beaconref16_Tell.bits18 (fun HT_ HW_ => ?_)
           generalize wr.drew = w45 at HO_8 BK448 HB hx460_0 hx460_1 hx460_2 hx460_3 hx460_4 hx461_0 hx461_1 hx461_2 hx461_3 hx461_4 hHeld ⊢
           refine manyW_ (fuel:=0) (a':=?_) ((0,0) :: (1,0) :: (2,0) :: (3,0) :: (4,0) :: (5,0) :: (6,0) :: (8,0) :: (9,0) :: (10,0) :: (11,0) :: (12,0) :: (7,2) :: (13,2) :: (14,0) :: (15,0) :: []) #[true,true,true,true,true,true,true,true,true,true,true,true,true,true,true,true] rfl HT_ HW_ (by kernel_rfl) (fun _ _ _ _ _ h => h) (fun _ => hHeld) ?_ ?_
           rotate_left
           ·repeat (first | exact Chain.nil _ | (apply Chain.on;rfl;rfl;(focus intro w';go_simp;with_reducible rfl);(focus simp only [Act.put,List.setIfInBounds_toArray,List.set_cons_zero,List.set_cons_succ,i64_w,i32_w];rfl)) | (apply Chain.take;rfl;rfl;(focus rintro w' ⟨s0,s1,s2,s3,s4,s5,s6,s7,s8,s9⟩;go_simp;with_reducible rfl);(focus simp only [Act.put,List.setIfInBounds_toArray,List.set_cons_zero,List.set_cons_succ,i64_w,i32_w];rfl)))
           refine done_ (done_of HT_.out (by kernel_rfl)) ?_
           try go_wp2
           have n0_:=Aside0.mk (Kd.R_drew HO_8.out)
           have n1_:=Aside0.mk (blk_drew BK448.out)
           have n2_:=Aside0.mk (below_drew1 HB.out)
           clear HO_8
           clear BK448
           clear HB
           have HO_8:=n0_
           have BK448:=n1_
           have HB:=n2_
           clear n0_ n1_ n2_
           have p462:0 ≤ ((ji39):Int):=of_decide_eq_true (by first | (with_reducible assumption) | assumption)
           have q462:(ji39) < (x8_5.length:Int):=of_decide_eq_true (by first | (with_reducible assumption) | assumption)
           obtain ⟨ad462,e462,hx462_0,hx462_1,hx462_2,hx462_3,hx462_4⟩:=at_T56 (Kd.R_reads' HO_8.out).2.2 (ji39) p462 q462
           obtain rfl:ad460 = ad462:=(by injection e462)
           replace p462:=eq_true p462
           replace q462:=eq_true q462
           have p463:0 ≤ (x12_5:Int):=of_decide_eq_true (by first | (with_reducible assumption) | assumption)
           have q463:x12_5 < (x8_5.length:Int):=of_decide_eq_true (by first | (with_reducible assumption) | assumption)
           obtain ⟨ad463,e463,hx463_0,hx463_1,hx463_2,hx463_3,hx463_4⟩:=at_T56 (Kd.R_reads' HO_8.out).2.2 x12_5 p463 q463
           obtain rfl:ad460 = ad463:=(by injection e463)
           replace p463:=eq_true p463
           replace q463:=eq_true q463
           have p43:0 ≤ (x12_5:Int):=of_decide_eq_true (by first | (with_reducible assumption) | assumption)
           have q43:(x12_5:Int) < ((x8_5.length:Int):Int):=of_decide_eq_true (by first | (with_reducible assumption) | assumption)
           obtain ⟨go43,co43,eo43,gb43,gl43,cl43,HG43⟩:=Kd.R_form HO_8.out (by omega)
           (first | cases eo43 | (injection eo43 with ea_ en_ ec_;(first | subst ea_ | (injection ea_ with ea_;subst ea_));subst ec_;clear en_))
           have GB43:=Aside0.mk gb43
           have GG43:=Aside0.mk HG43
           clear gb43 gl43 HG43
           (first | simp only [add_plain] at hx460_0 | skip)
           (first | simp only [add_plain] at hx460_1 | skip)
           (first | simp only [add_plain] at hx460_2 | skip)
           (first | simp only [add_plain] at hx460_3 | skip)
           (first | simp only [add_plain] at hx460_4 | skip)
           (first | simp only [add_plain] at hx461_0 | skip)
           (first | simp only [add_plain] at hx461_1 | skip)
           (first | simp only [add_plain] at hx461_2 | skip)
           (first | simp only [add_plain] at hx461_3 | skip)
           (first | simp only [add_plain] at hx461_4 | skip)
           (first | simp only [add_plain] at hx462_0 | skip)
           (first | simp only [add_plain] at hx462_1 | skip)
           (first | simp only [add_plain] at hx462_2 | skip)
           (first | simp only [add_plain] at hx462_3 | skip)
           (first | simp only [add_plain] at hx462_4 | skip)
           (first | simp only [add_plain] at hx463_0 | skip)
           (first | simp only [add_plain] at hx463_1 | skip)
           (first | simp only [add_plain] at hx463_2 | skip)
           (first | simp only [add_plain] at hx463_3 | skip)
           (first | simp only [add_plain] at hx463_4 | skip)
           obtain ⟨ce43,hcl43,hM43,hcc43,hfr43⟩:=Kd.R_elem HO_8.out z56 (x12_5:Int) p43 q43
           obtain rfl:=k56_openM hM43
           have hx43_0:World.cell? _ ⟨go43,(x12_5:Int).toNat * 5,none⟩ = some (.int .i64 ((rd_T56 x8_5 x12_5).f0)):=hcc43 0 _ rfl
           have hx43_1:World.cell? _ ⟨go43,(x12_5:Int).toNat * 5 + 1,none⟩ = some (.int .i64 ((rd_T56 x8_5 x12_5).f1)):=hcc43 1 _ rfl
           have hx43_2:World.cell? _ ⟨go43,(x12_5:Int).toNat * 5 + 2,none⟩ = some (.float .f64 ((rd_T56 x8_5 x12_5).f2)):=hcc43 2 _ rfl
           have hx43_3:World.cell? _ ⟨go43,(x12_5:Int).toNat * 5 + 3,none⟩ = some (.float .f64 ((rd_T56 x8_5 x12_5).f3)):=hcc43 3 _ rfl
           have hx43_4:World.cell? _ ⟨go43,(x12_5:Int).toNat * 5 + 4,none⟩ = some (.int .i64 ((rd_T56 x8_5 x12_5).f4)):=hcc43 4 _ rfl
           have hf43_0:World.frozen? _ ⟨go43,(x12_5:Int).toNat * 5,none⟩ = false:=hfr43 0
           have hf43_1:World.frozen? _ ⟨go43,(x12_5:Int).toNat * 5 + 1,none⟩ = false:=hfr43 1
           have hf43_2:World.frozen? _ ⟨go43,(x12_5:Int).toNat * 5 + 2,none⟩ = false:=hfr43 2
           have hf43_3:World.frozen? _ ⟨go43,(x12_5:Int).toNat * 5 + 3,none⟩ = false:=hfr43 3
           have hf43_4:World.frozen? _ ⟨go43,(x12_5:Int).toNat * 5 + 4,none⟩ = false:=hfr43 4
           clear hcl43 hcc43 hfr43 hM43
           replace p43:=eq_true p43
           replace q43:=eq_true q43
           obtain ⟨ce47,hcl47,hM47,hcc47,hfr47⟩:=Kd.R_elem HO_8.out z56 (x12_5:Int) (of_decide_eq_true (by first | (with_reducible assumption) | assumption)) (by have h_:(x12_5:Int) < ((x8_5.length:Int):Int):=of_decide_eq_true (by first | (with_reducible assumption) | assumption);first | exact h_ | (have e_:=(Kd.R_reads' HO_8.out).1;omega) | simpa using h_)
           obtain rfl:=k56_openM hM47
           have HP47:=(Kd.R_seg HO_8.out (x12_5:Int) (of_decide_eq_true (by first | (with_reducible assumption) | assumption)) (by have h_:(x12_5:Int) < ((x8_5.length:Int):Int):=of_decide_eq_true (by first | (with_reducible assumption) | assumption);first | exact h_ | (have e_:=(Kd.R_reads' HO_8.out).1;omega) | simpa using h_) (seg:=[.int .i64 ((rd_T56 x8_5 (ji39)).f0),.int .i64 ((rd_T56 x8_5 (ji39)).f1),.float .f64 ((rd_T56 x8_5 (ji39)).f2),.float .f64 ((rd_T56 x8_5 (ji39)).f3),.int .i64 ((rd_T56 x8_5 (ji39)).f4)]) (j:=0) hcl47 hcc47 (show 5 ≤ 5 from by decide) (x':=(⟨(rd_T56 x8_5 (ji39)).f0,(rd_T56 x8_5 (ji39)).f1,(rd_T56 x8_5 (ji39)).f2,(rd_T56 x8_5 (ji39)).f3,(rd_T56 x8_5 (ji39)).f4⟩:S56)) (k56_mkM _ _ _ (⟨(rd_T56 x8_5 (ji39)).f0,(rd_T56 x8_5 (ji39)).f1,(rd_T56 x8_5 (ji39)).f2,(rd_T56 x8_5 (ji39)).f3,(rd_T56 x8_5 (ji39)).f4⟩:S56) ) (fun _ hk => hk)).1
           rw [← Ny464.out] at HP47
           have HQ47:=Aside0.mk HP47
           clear hcl47 hcc47 hfr47 hM47 HP47
           have p44:0 ≤ ((ji39):Int):=of_decide_eq_true (by first | (with_reducible assumption) | assumption)
           have q44:((ji39):Int) < ((x8_5.length:Int):Int):=of_decide_eq_true (by first | (with_reducible assumption) | assumption)
           obtain ⟨ce44,hcl44,hM44,hcc44,hfr44⟩:=Kd.R_elem HQ47.out z56 ((ji39):Int) p44 q44
           obtain rfl:=k56_openM hM44
           have hx44_0:World.cell? _ ⟨go43,((ji39):Int).toNat * 5,none⟩ = some (.int .i64 ((rd_T56 y464 (ji39)).f0)):=hcc44 0 _ rfl
           have hx44_1:World.cell? _ ⟨go43,((ji39):Int).toNat * 5 + 1,none⟩ = some (.int .i64 ((rd_T56 y464 (ji39)).f1)):=hcc44 1 _ rfl
           have hx44_2:World.cell? _ ⟨go43,((ji39):Int).toNat * 5 + 2,none⟩ = some (.float .f64 ((rd_T56 y464 (ji39)).f2)):=hcc44 2 _ rfl
           have hx44_3:World.cell? _ ⟨go43,((ji39):Int).toNat * 5 + 3,none⟩ = some (.float .f64 ((rd_T56 y464 (ji39)).f3)):=hcc44 3 _ rfl
           have hx44_4:World.cell? _ ⟨go43,((ji39):Int).toNat * 5 + 4,none⟩ = some (.int .i64 ((rd_T56 y464 (ji39)).f4)):=hcc44 4 _ rfl
           have hf44_0:World.frozen? _ ⟨go43,((ji39):Int).toNat * 5,none⟩ = false:=hfr44 0
           have hf44_1:World.frozen? _ ⟨go43,((ji39):Int).toNat * 5 + 1,none⟩ = false:=hfr44 1
           have hf44_2:World.frozen? _ ⟨go43,((ji39):Int).toNat * 5 + 2,none⟩ = false:=hfr44 2
           have hf44_3:World.frozen? _ ⟨go43,((ji39):Int).toNat * 5 + 3,none⟩ = false:=hfr44 3
           have hf44_4:World.frozen? _ ⟨go43,((ji39):Int).toNat * 5 + 4,none⟩ = false:=hfr44 4
           clear hcl44 hcc44 hfr44 hM44
           replace p44:=eq_true p44
           replace q44:=eq_true q44
           obtain ⟨ce48,hcl48,hM48,hcc48,hfr48⟩:=Kd.R_elem HQ47.out z56 ((ji39):Int) (of_decide_eq_true (by first | (with_reducible assumption) | assumption)) (by have h_:((ji39):Int) < ((x8_5.length:Int):Int):=of_decide_eq_true (by first | (with_reducible assumption) | assumption);first | exact h_ | (have e_:=(Kd.R_reads' HO_8.out).1;omega) | simpa using h_)
           obtain rfl:=k56_openM hM48
           have HP48:=(Kd.R_seg HQ47.out ((ji39):Int) (of_decide_eq_true (by first | (with_reducible assumption) | assumption)) (by have h_:((ji39):Int) < ((x8_5.length:Int):Int):=of_decide_eq_true (by first | (with_reducible assumption) | assumption);first | exact h_ | (have e_:=(Kd.R_reads' HO_8.out).1;omega) | simpa using h_) (seg:=[.int .i64 ((rd_T56 x8_5 x12_5).f0),.int .i64 ((rd_T56 x8_5 x12_5).f1),.float .f64 ((rd_T56 x8_5 x12_5).f2),.float .f64 ((rd_T56 x8_5 x12_5).f3),.int .i64 ((rd_T56 x8_5 x12_5).f4)]) (j:=0) hcl48 hcc48 (show 5 ≤ 5 from by decide) (x':=(⟨(rd_T56 x8_5 x12_5).f0,(rd_T56 x8_5 x12_5).f1,(rd_T56 x8_5 x12_5).f2,(rd_T56 x8_5 x12_5).f3,(rd_T56 x8_5 x12_5).f4⟩:S56)) (k56_mkM _ _ _ (⟨(rd_T56 x8_5 x12_5).f0,(rd_T56 x8_5 x12_5).f1,(rd_T56 x8_5 x12_5).f2,(rd_T56 x8_5 x12_5).f3,(rd_T56 x8_5 x12_5).f4⟩:S56) ) (fun _ hk => hk)).1
           rw [← Ny465.out] at HP48
           have HQ48:=Aside0.mk HP48
           clear hcl48 hcc48 hfr48 hM48 HP48
           have hne_1:¬ ((x12_5).toNat = (ji39).toNat):=by have e_:=hji39;unfold wrap64 at e_;have p_:0 ≤ (x12_5:Int):=of_decide_eq_true (by first | (with_reducible assumption) | assumption);have q_:0 ≤ (ji39:Int):=of_decide_eq_true (by first | (with_reducible assumption) | assumption);omega
           have hne_2:¬ ((ji39).toNat = (x12_5).toNat):=fun h => hne_1 h.symm
           have hne_3:¬ ((x12_5).toNat * 5 = (ji39).toNat * 5):=by omega
           have hne_4:¬ ((ji39).toNat * 5 = (x12_5).toNat * 5):=by omega
           have hne_51:¬ ((x12_5).toNat * 5 + 1 = (ji39).toNat * 5 + 1):=by omega
           have hne_61:¬ ((ji39).toNat * 5 + 1 = (x12_5).toNat * 5 + 1):=by omega
           have hne_52:¬ ((x12_5).toNat * 5 + 2 = (ji39).toNat * 5 + 2):=by omega
           have hne_62:¬ ((ji39).toNat * 5 + 2 = (x12_5).toNat * 5 + 2):=by omega
           have hne_53:¬ ((x12_5).toNat * 5 + 3 = (ji39).toNat * 5 + 3):=by omega
           have hne_63:¬ ((ji39).toNat * 5 + 3 = (x12_5).toNat * 5 + 3):=by omega
           have hne_54:¬ ((x12_5).toNat * 5 + 4 = (ji39).toNat * 5 + 4):=by omega
           have hne_64:¬ ((ji39).toNat * 5 + 4 = (x12_5).toNat * 5 + 4):=by omega
           refine start_ (n:=18) (S:=fun w' => w'.cell? ⟨go43,((ji39)).toNat * 5,none⟩ = some (.int .i64 ((rd_T56 x8_5 (ji39)).f0)) ∧ w'.cell? ⟨go43,((ji39)).toNat * 5 + 1,none⟩ = some (.int .i64 ((rd_T56 x8_5 (ji39)).f1)) ∧ w'.cell? ⟨go43,((ji39)).toNat * 5 + 2,none⟩ = some (.float .f64 ((rd_T56 x8_5 (ji39)).f2)) ∧ w'.cell? ⟨go43,((ji39)).toNat * 5 + 3,none⟩ = some (.float .f64 ((rd_T56 x8_5 (ji39)).f3)) ∧ w'.cell? ⟨go43,((ji39)).toNat * 5 + 4,none⟩ = some (.int .i64 ((rd_T56 x8_5 (ji39)).f4)) ∧ w'.cell? ⟨go43,((x12_5).toNat * 5),none⟩ = some (.int .i64 ((rd_T56 x8_5 x12_5).f0)) ∧ w'.cell? ⟨go43,((x12_5).toNat * 5) + 1,none⟩ = some (.int .i64 ((rd_T56 x8_5 x12_5).f1)) ∧ w'.cell? ⟨go43,((x12_5).toNat * 5) + 2,none⟩ = some (.float .f64 ((rd_T56 x8_5 x12_5).f2)) ∧ w'.cell? ⟨go43,((x12_5).toNat * 5) + 3,none⟩ = some (.float .f64 ((rd_T56 x8_5 x12_5).f3)) ∧ w'.cell? ⟨go43,((x12_5).toNat * 5) + 4,none⟩ = some (.int .i64 ((rd_T56 x8_5 x12_5).f4))) (ds:=[15,17]) #[false,false,false,false,false,false,false,false,false,false,false,false,false,false,false,false,false,false] (by kernel_rfl) rfl rfl ⟨hx462_0,hx462_1,hx462_2,hx462_3,hx462_4,hx463_0,hx463_1,hx463_2,hx463_3,hx463_4⟩ (fun hHeld => ?_);refine with_tabW beaconref16_Tell.tab20 beaconref16_Tell.bits20 (fun HT_ HW_ => ?_)
           generalize w45.drew = w46 at HO_8 BK448 HB GG43 HQ47 HQ48 hf43_0 hf43_1 hf43_2 hf43_3 hf43_4 hf44_0 hf44_1 hf44_2 hf44_3 hf44_4 hx43_0 hx43_1 hx43_2 hx43_3 hx43_4 hx44_0 hx44_1 hx44_2 hx44_3 hx44_4 hx460_0 hx460_1 hx460_2 hx460_3 hx460_4 hx461_0 hx461_1 hx461_2 hx461_3 hx461_4 hx462_0 hx462_1 hx462_2 hx462_3 hx462_4 hx463_0 hx463_1 hx463_2 hx463_3 hx463_4 hHeld ⊢
           obtain ⟨ceZ,hclZ,hMZ,hccZ,hfrZ⟩:=Kd.R_elem HO_8.out z56 ((ji39):Int) (show 0 ≤ (ji39:Int) from (of_decide_eq_true (by first | (with_reducible assumption) | assumption))) (show (ji39:Int) < ((x8_5.length:Int):Int) from (of_decide_eq_true (by first | (with_reducible assumption) | assumption)))
           have hfz_0:World.frozen? _ ⟨go43,((ji39):Int).toNat * 5,none⟩ = false:=hfrZ 0
           have hfz_1:World.frozen? _ ⟨go43,((ji39):Int).toNat * 5 + 1,none⟩ = false:=hfrZ 1
           have hfz_2:World.frozen? _ ⟨go43,((ji39):Int).toNat * 5 + 2,none⟩ = false:=hfrZ 2
           have hfz_3:World.frozen? _ ⟨go43,((ji39):Int).toNat * 5 + 3,none⟩ = false:=hfrZ 3
           have hfz_4:World.frozen? _ ⟨go43,((ji39):Int).toNat * 5 + 4,none⟩ = false:=hfrZ 4
           clear hclZ hMZ hccZ hfrZ
           refine manyW_ (fuel:=3) (a':=?_) ((0,0) :: (1,0) :: (2,0) :: (3,0) :: (4,0) :: (5,0) :: (6,0) :: (7,0) :: (8,0) :: (10,0) :: (11,0) :: (12,0) :: (9,2) :: (13,2) :: (14,0) :: []) #[true,true,true,true,true,true,true,true,true,true,true,true,true,true,true,false,false,false] rfl HT_ HW_ (by kernel_rfl) (fun _ _ _ _ _ h => h) (fun _ => hHeld) ?_ ?_
           rotate_left
           ·repeat (first | exact Chain.nil _ | (apply Chain.on;rfl;rfl;(focus intro w';go_simp;with_reducible rfl);(focus simp only [Act.put,List.setIfInBounds_toArray,List.set_cons_zero,List.set_cons_succ,i64_w,i32_w];rfl)) | (apply Chain.take;rfl;rfl;(focus rintro w' ⟨s0,s1,s2,s3,s4,s5,s6,s7,s8,s9⟩;go_simp;with_reducible rfl);(focus simp only [Act.put,List.setIfInBounds_toArray,List.set_cons_zero,List.set_cons_succ,i64_w,i32_w];rfl)))
           refine last_ (i:=15) (N:=none) #[true,true,true,true,true,true,true,true,true,true,true,true,true,true,true,true,false,false] rfl rfl (one_of HT_.out (by kernel_rfl)) (by decide) (fun K hK => ?_)
           refine skip_ (w1:=?_) (by rfl) rfl ?_ ?_
           rotate_left
           ·go_simp
            rfl
           refine hK.out _ _ ?_
           clear hK K
           refine manyT_ (fuel:=1) (a':=?_) ((16,0) :: []) #[true,true,true,true,true,true,true,true,true,true,true,true,true,true,true,true,true,false] rfl HT_ (by kernel_rfl) (fun _ _ _ _ _ h => h) (fun h => absurd h (by decide)) ?_ ?_
           rotate_left
           ·repeat (first | exact Chain.nil _ | (apply Chain.on;rfl;rfl;(focus intro w';go_simp;with_reducible rfl);(focus simp only [Act.put,List.setIfInBounds_toArray,List.set_cons_zero,List.set_cons_succ,i64_w,i32_w];rfl)))
           refine last_ (i:=17) (N:=none) #[true,true,true,true,true,true,true,true,true,true,true,true,true,true,true,true,true,true] rfl rfl (one_of HT_.out (by kernel_rfl)) (by decide) (fun K hK => ?_)
           refine skip_ (w1:=?_) (by rfl) rfl ?_ ?_
           rotate_left
           ·go_simp
            rfl
           refine hK.out _ _ ?_
           clear hK K
           refine done_ (done_of HT_.out (by kernel_rfl)) ?_
           try go_wp2
           (try simp only [← hl8_5])
           go_roundg k5
           case measure => have:=HJ5.out;have:=HJ16.out;have:=HK3.out;have:=HK4.out;have:=HK5.out;omega
           case rel => exact ⟨(y465),(ji39),(by first | rfl | (simp;done) | (simp only [← hji39] <;> (first | rfl | simp)) | (simp [*];done)),H',⟨by have:=HJ5.out;have:=HJ16.out;have:=HK3.out;have:=HK4.out;have:=HK5.out;omega⟩,⟨by (try simp only [hl8_5]);(with_reducible repeat (first | apply Kd.R_alloc | apply Kd.R_drewN | apply Kd.R_drew));exact HQ48.out⟩,⟨by (try simp only [hl8_5]);(with_reducible repeat (first | refine blk_drewN ?_ _ | refine blk_drew ?_ | refine blk_alloc ?_ _));refine blk_far ?_ (by have h_:=Kd.R_ne HO_8.out BK448.out (by decide);intro e_;exact h_ (by rw [e_];rfl)) _;(with_reducible repeat (first | refine blk_drewN ?_ _ | refine blk_drew ?_ | refine blk_alloc ?_ _));refine blk_far ?_ (by have h_:=Kd.R_ne HO_8.out BK448.out (by decide);intro e_;exact h_ (by rw [e_];rfl)) _;(with_reducible repeat (first | refine blk_drewN ?_ _ | refine blk_drew ?_ | refine blk_alloc ?_ _));refine blk_far ?_ (by have h_:=Kd.R_ne HO_8.out BK448.out (by decide);intro e_;exact h_ (by rw [e_];rfl)) _;(with_reducible repeat (first | refine blk_drewN ?_ _ | refine blk_drew ?_ | refine blk_alloc ?_ _));refine blk_far ?_ (by have h_:=Kd.R_ne HO_8.out BK448.out (by decide);intro e_;exact h_ (by rw [e_];rfl)) _;(with_reducible repeat (first | refine blk_drewN ?_ _ | refine blk_drew ?_ | refine blk_alloc ?_ _));refine blk_far ?_ (by have h_:=Kd.R_ne HO_8.out BK448.out (by decide);intro e_;exact h_ (by rw [e_];rfl)) _;(with_reducible repeat (first | refine blk_drewN ?_ _ | refine blk_drew ?_ | refine blk_alloc ?_ _));refine blk_far ?_ (by have h_:=Kd.R_ne HO_8.out BK448.out (by decide);intro e_;exact h_ (by rw [e_];rfl)) _;(with_reducible repeat (first | refine blk_drewN ?_ _ | refine blk_drew ?_ | refine blk_alloc ?_ _));refine blk_far ?_ (by have h_:=Kd.R_ne HO_8.out BK448.out (by decide);intro e_;exact h_ (by rw [e_];rfl)) _;(with_reducible repeat (first | refine blk_drewN ?_ _ | refine blk_drew ?_ | refine blk_alloc ?_ _));refine blk_far ?_ (by have h_:=Kd.R_ne HO_8.out BK448.out (by decide);intro e_;exact h_ (by rw [e_];rfl)) _;(with_reducible repeat (first | refine blk_drewN ?_ _ | refine blk_drew ?_ | refine blk_alloc ?_ _));refine blk_far ?_ (by have h_:=Kd.R_ne HO_8.out BK448.out (by decide);intro e_;exact h_ (by rw [e_];rfl)) _;(with_reducible repeat (first | refine blk_drewN ?_ _ | refine blk_drew ?_ | refine blk_alloc ?_ _));refine blk_far ?_ (by have h_:=Kd.R_ne HO_8.out BK448.out (by decide);intro e_;exact h_ (by rw [e_];rfl)) _;(with_reducible repeat (first | refine blk_drewN ?_ _ | refine blk_drew ?_ | refine blk_alloc ?_ _));exact BK448.out⟩,⟨by repeat (first | (with_reducible first | exact HB.out | apply below_alloc | apply pw_below_drewN | apply below_drew1 | refine below_set ?_ GB43.out | refine below_set ?_ GB43.out | refine below_set ?_ GB43.out | refine below_set ?_ GB43.out | refine below_set ?_ GB43.out | refine below_set ?_ GB43.out | refine below_set ?_ GB43.out | refine below_set ?_ GB43.out | refine below_set ?_ GB43.out | refine below_set ?_ GB43.out | refine below_set ?_ GE448.out) | exact HB.out)⟩⟩
end Go.Proofs.Ytjcnmpkaiopihaa.PA
