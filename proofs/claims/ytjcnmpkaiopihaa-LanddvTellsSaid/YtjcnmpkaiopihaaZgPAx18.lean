/- Printed by a program of this session (wip/tools/patch_print.py and pr.py, over the kit's print): each Go function as a plain Lean function, and that the Go code comes to just its answers. Conditions: those that each theorem names. -/
import Derived.Test.YtjcnmpkaiopihaaZgMn
import Derived.Test.YtjcnmpkaiopihaaZgPAx0
import Derived.Test.YtjcnmpkaiopihaaZgPAx2
import Derived.Test.YtjcnmpkaiopihaaZgPAx17
namespace Go.Proofs.Ytjcnmpkaiopihaa.PA
open Go.RowKit Go.Proofs.YtjcnmpkaiopihaaW.PrintWords Go.Proofs.YtjcnmpkaiopihaaW.PrintLast Go.Proofs.YtjcnmpkaiopihaaW.PrintMore
attribute [local go_sem] max2_int min2_int max_two min_two max_three min_three max_four min_four
set_option linter.unusedVariables false
set_option linter.unusedSimpArgs false
mutual
def landdv_may.l0:Nat → Int → List (S58) → List (S58) → Int → Int → Option (Bool)
 | 0,_,_,_,_,_ => none
 | k + 1,x0,x1,x11,x12,x13 => if x13 < x12 then (if 0 ≤ x13 then (if x13 < (x11.length:Int) then ((math_IsInf.f ((rd_T58 x11 x13).f2) 1).bind fun t325 => (if t325 = true then (landdv_may.j1 k x0 x1 x13 t325 true x11 x12 x13 ((rd_T58 x11 x13).f0) ((rd_T58 x11 x13).f1) ((rd_T58 x11 x13).f2) ((rd_T58 x11 x13).f3) ((rd_T58 x11 x13).f4) ((rd_T58 x11 x13).f5)) else (if (FloatKind.f64.format.order ((rd_T58 x11 x13).f2) 0 == some .gt) = true then ((metric_Dist.f ((rd_T58 x11 x13).f2) 4742290407621132288).bind fun t326 => (landdv_may.j1 k x0 x1 x13 t325 (t326 == 0) x11 x12 x13 ((rd_T58 x11 x13).f0) ((rd_T58 x11 x13).f1) ((rd_T58 x11 x13).f2) ((rd_T58 x11 x13).f3) ((rd_T58 x11 x13).f4) ((rd_T58 x11 x13).f5))) else (landdv_may.j1 k x0 x1 x13 t325 false x11 x12 x13 ((rd_T58 x11 x13).f0) ((rd_T58 x11 x13).f1) ((rd_T58 x11 x13).f2) ((rd_T58 x11 x13).f3) ((rd_T58 x11 x13).f4) ((rd_T58 x11 x13).f5))))) else (none)) else (none)) else (some true)
def landdv_may.j1:Nat → Int → List (S58) → Int → Bool → Bool → List (S58) → Int → Int → Int → Int → Nat → Int → Nat → Int → Option (Bool)
 | 0,_,_,_,_,_,_,_,_,_,_,_,_,_,_ => none
 | k + 1,x0,x1,x5,x7,x8,x11,x12,x13,x325000,x325001,x325002,x325003,x325004,x325005 => (ident_CheckId.f x325003).bind fun t327 => (if t327 = 0 then (if x7 = true then (if x325003 = 0 then (landdv_may.j2 k x0 x1 x5 x8 x7 x11 x12 x13 x325000 x325001 x325002 x325003 x325004 x325005) else (landdv_may.j2 k x0 x1 x5 x8 false x11 x12 x13 x325000 x325001 x325002 x325003 x325004 x325005)) else (landdv_may.j2 k x0 x1 x5 x8 true x11 x12 x13 x325000 x325001 x325002 x325003 x325004 x325005)) else (if x325003 = 0 then (landdv_may.j2 k x0 x1 x5 x8 x7 x11 x12 x13 x325000 x325001 x325002 x325003 x325004 x325005) else (landdv_may.j2 k x0 x1 x5 x8 false x11 x12 x13 x325000 x325001 x325002 x325003 x325004 x325005)))
def landdv_may.j2:Nat → Int → List (S58) → Int → Bool → Bool → List (S58) → Int → Int → Int → Int → Nat → Int → Nat → Int → Option (Bool)
 | 0,_,_,_,_,_,_,_,_,_,_,_,_,_,_ => none
 | k + 1,x0,x1,x5,x8,x9,x11,x12,x13,x325000,x325001,x325002,x325003,x325004,x325005 => if x325001 = 1 then (if (x325004:Int) = 0 then (landdv_may.j3 k x0 x1 x5 x8 x9 (x325005 == 0) x11 x12 x13 x325000 x325001 x325002 x325003 x325004 x325005) else (landdv_may.j3 k x0 x1 x5 x8 x9 false x11 x12 x13 x325000 x325001 x325002 x325003 x325004 x325005)) else (landdv_may.j3 k x0 x1 x5 x8 x9 false x11 x12 x13 x325000 x325001 x325002 x325003 x325004 x325005)
def landdv_may.j3:Nat → Int → List (S58) → Int → Bool → Bool → Bool → List (S58) → Int → Int → Int → Int → Nat → Int → Nat → Int → Option (Bool)
 | 0,_,_,_,_,_,_,_,_,_,_,_,_,_,_,_ => none
 | k + 1,x0,x1,x5,x8,x9,x10,x11,x12,x13,x325000,x325001,x325002,x325003,x325004,x325005 => if x10 = true then (if x8 = true then (if x9 = true then (if x325000 = x0 then (landdv_may.j4 k x0 x1 x11 x12 x13 true) else ((ident_CheckId.f x325000).bind fun t328 => (if t328 = 0 then (if x5 > 0 then (if 0 ≤ (wrap64 (x5 - 1)) then (if (wrap64 (x5 - 1)) < (x1.length:Int) then (landdv_may.j4 k x0 x1 x11 x12 x13 (decide (x325000 ≤ ((rd_T58 x1 (wrap64 (x5 - 1))).f0)))) else (none)) else (none)) else (landdv_may.j4 k x0 x1 x11 x12 x13 false)) else (landdv_may.j4 k x0 x1 x11 x12 x13 true)))) else (landdv_may.j4 k x0 x1 x11 x12 x13 true)) else (landdv_may.j4 k x0 x1 x11 x12 x13 true)) else (landdv_may.j4 k x0 x1 x11 x12 x13 true)
def landdv_may.j4:Nat → Int → List (S58) → List (S58) → Int → Int → Bool → Option (Bool)
 | 0,_,_,_,_,_,_ => none
 | k + 1,x0,x1,x11,x12,x13,x99 => if x99 = true then (some false) else (landdv_may.l0 k x0 x1 x11 x12 (wrap64 (x13 + 1)))
end
def landdv_may.f (k:Nat) (a0:Int) (l1:List (S58)):Option (Bool):=landdv_may.l0 k a0 l1 l1 (l1.length:Int) 0
def landdv_may.T8:Bool × List (List Nat × List Nat):=(true,[([],[]),([0],[0]),([1],[1]),([2],[2]),([3,2],[2,3]),([2,4],[2,4]),([5,2],[5]),([6],[6]),([7,6],[6,7]),([6,8],[6,8]),([9,6],[9]),([10],[10]),([11,10],[10,11]),([10],[10]),([12,13,10],[10,12,13]),([10,14],[10,14]),([15,10],[15]),([16],[16]),([17,16],[16,17]),([18,16,16],[16,18]),([19,16],[16,19]),([16,20],[16,20]),([21,19],[21]),([22],[22]),([23,22],[22,23]),([24,22,22],[22,24]),([25],[25]),([26,25],[25,26]),([25],[25]),([25],[25]),([29,25],[25,29]),([28,30,25],[25,28,30]),([31,25],[25,31]),([32,25],[25,32]),([27,33,25],[25,27,33]),([25,34,22],[22,25,34]),([22,35],[22,35])])
def landdv_may.B8:List Nat:=[0,1,3,7,15,31,63,127,255,511,1023,2047,4095,2047,16383,32767,65535,131071,262143,524287,1048575,2097151,4194303,8388607,16777215,33554431,67108863,134217727,67108863,67108863,603979775,1946157055,4093640703,8388607999,17179869183,34359738367,68719476735]
theorem landdv_may.tab8:rtab .any (opsOf Try.f89 8) = landdv_may.T8:=by kernel_rfl
theorem landdv_may.bits8:waitsOk landdv_may.T8.2 landdv_may.B8 = true:=by kernel_rfl
set_option maxHeartbeats 8000000 in
set_option maxRecDepth 100000 in
theorem landdv_may.calls (k:Nat) (a0:Int) (A1:Option Addr) (c1:Nat) (l1:List (S58)) (r:Bool) (w:World) (hr1:Kd.C k58 w A1 l1.length l1) (hc1:l1.length ≤ c1) (h:landdv_may.f k a0 l1 = some r) :
  Calls Try.prog 89 #[.int .i64 a0,.slice A1 l1.length c1] w fun e w' => e = .returned (.bool r) ∧ Below w.heap.size w w':=by
 have hX39:=run_Float64bits Try.func39 (by kernel_rfl) (by kernel_rfl) (by kernel_rfl) (by kernel_rfl)
 have hu58:=Try.underlying58
 have HR1:=Aside0.mk hr1
 have HC1:=Aside0.mk hc1
 clear hr1 hc1
 have HB:=Aside0.mk (Below.refl w.heap.size w)
 have H:(landdv_may.l0 k a0 l1 l1 (l1.length:Int) 0) = some r:=h
 clear h
 have H':=Aside0.mk H
 clear H
 go_enter Try.func89,Try.ntmps89
 go_wp2
 go_loopg [13] k (fun kq v13 w' => ∃ (x13_1:Int),v13 = .int .i64 x13_1 ∧ Aside0 (landdv_may.l0 kq a0 l1 l1 (l1.length:Int) x13_1 = some r) ∧ Aside0 (kq ≤ k) ∧ Aside0 (Below w.heap.size w w'))
 case atStart => exact ⟨(0),(by first | rfl | (simp;done) | (simp [*];done)),H',⟨Nat.le_refl _⟩,⟨by repeat (first | (with_reducible first | exact HB.out | apply below_alloc | apply pw_below_drewN | apply below_drew1) | exact HB.out)⟩⟩
 case round =>
  clear H'
  obtain ⟨x13_1,rfl,HA,HK1,HB⟩:=hrel
  cases gk with
  | zero => exact absurd HA.out (by simp [landdv_may.l0])
  | succ k1 =>
   have H:=HA.out
   clear HA
   simp only [landdv_may.l0] at H
   by_cases c3:x13_1 < (l1.length:Int)
   rotate_left
   ·rw [if_neg c3] at H
    have c3b0:decide (x13_1 < (l1.length:Int)) = false:=decide_eq_false c3
    clear c3
    obtain rfl:=Option.some.inj H
    go_wp2
    go_ret
    exact ⟨by first | rfl | (simp [errW_none,errW_some] <;> rfl) | (simp [*,errW_none,errW_some] <;> rfl),by repeat (first | (with_reducible first | exact HB.out | apply below_alloc | apply pw_below_drewN | apply below_drew1) | exact HB.out)⟩
   rw [if_pos c3] at H
   have c3b0:decide (x13_1 < (l1.length:Int)) = true:=decide_eq_true c3
   clear c3
   by_cases c4:0 ≤ x13_1
   rotate_left
   ·rw [if_neg c4] at H
    exact absurd H (by simp)
   rw [if_pos c4] at H
   have c4b0:decide (0 ≤ x13_1) = true:=decide_eq_true c4
   clear c4
   by_cases c5:x13_1 < (l1.length:Int)
   rotate_left
   ·rw [if_neg c5] at H
    exact absurd H (by simp)
   rw [if_pos c5] at H
   have c5b0:decide (x13_1 < (l1.length:Int)) = true:=decide_eq_true c5
   clear c5
   replace H:=Option.bind_eq_some_iff.mp H
   obtain ⟨t325,A60,H⟩:=H
   replace H:(if t325 = true then (landdv_may.j1 k1 a0 l1 x13_1 t325 true l1 (l1.length:Int) x13_1 ((rd_T58 l1 x13_1).f0) ((rd_T58 l1 x13_1).f1) ((rd_T58 l1 x13_1).f2) ((rd_T58 l1 x13_1).f3) ((rd_T58 l1 x13_1).f4) ((rd_T58 l1 x13_1).f5)) else (if (FloatKind.f64.format.order ((rd_T58 l1 x13_1).f2) 0 == some .gt) = true then ((metric_Dist.f ((rd_T58 l1 x13_1).f2) 4742290407621132288).bind fun t326 => (landdv_may.j1 k1 a0 l1 x13_1 t325 (t326 == 0) l1 (l1.length:Int) x13_1 ((rd_T58 l1 x13_1).f0) ((rd_T58 l1 x13_1).f1) ((rd_T58 l1 x13_1).f2) ((rd_T58 l1 x13_1).f3) ((rd_T58 l1 x13_1).f4) ((rd_T58 l1 x13_1).f5))) else (landdv_may.j1 k1 a0 l1 x13_1 t325 false l1 (l1.length:Int) x13_1 ((rd_T58 l1 x13_1).f0) ((rd_T58 l1 x13_1).f1) ((rd_T58 l1 x13_1).f2) ((rd_T58 l1 x13_1).f3) ((rd_T58 l1 x13_1).f4) ((rd_T58 l1 x13_1).f5)))) = some r:=H
   have A6:=Aside0.mk A60
   clear A60
   have HC7:=Aside0.mk H
   clear H
   have p323:0 ≤ (x13_1:Int):=of_decide_eq_true (by first | (with_reducible assumption) | assumption)
   have q323:x13_1 < (l1.length:Int):=of_decide_eq_true (by first | (with_reducible assumption) | assumption)
   obtain ⟨ad323,e323,hx323_0,hx323_1,hx323_2,hx323_3,hx323_4,hx323_5⟩:=at_T58 HR1.out x13_1 p323 q323
   cases e323
   replace hx323_0:=(HB.out.cell (World.block_lt_of_cell? w _ hx323_0)).trans hx323_0
   replace hx323_1:=(HB.out.cell (World.block_lt_of_cell? w _ hx323_1)).trans hx323_1
   replace hx323_2:=(HB.out.cell (World.block_lt_of_cell? w _ hx323_2)).trans hx323_2
   replace hx323_3:=(HB.out.cell (World.block_lt_of_cell? w _ hx323_3)).trans hx323_3
   replace hx323_4:=(HB.out.cell (World.block_lt_of_cell? w _ hx323_4)).trans hx323_4
   replace hx323_5:=(HB.out.cell (World.block_lt_of_cell? w _ hx323_5)).trans hx323_5
   replace p323:=eq_true p323
   replace q323:=eq_true q323
   go_upto_region 5 with (first | ((with_reducible refine gate_dst (N:=6) rfl ?_);refine box_event ?hg (N:=6) ?hd (cs:=#[.int .i64 0,.int .i64 0,.float .f64 0,.int .i64 0,.float .f64 0,.int .i64 0]) (t:=58) ?hr ?_;(case hd => rfl);(case hg => rfl);(case hr => first | (go_simp;done) | (go_simp;rfl));intro gb324 hg w8 hbox hb;have n0_:=Aside0.mk (below_step (by repeat (first | (with_reducible first | exact HB.out | apply below_alloc | apply pw_below_drewN | apply below_drew1) | exact HB.out)) hb);have n1_:=Aside0.mk (hbox);have n2_:=Aside0.mk ((by rw [hg];exact (below_size (by repeat (first | (with_reducible first | exact HB.out | apply below_alloc | apply pw_below_drewN | apply below_drew1) | exact HB.out))):w.heap.size ≤ gb324));have n3_:=Aside0.mk ((by rw [hg];exact (below_size (by repeat (first | (with_reducible first | exact HB.out | apply below_alloc | apply pw_below_drewN | apply below_drew1) | exact HB.out))):w.heap.size ≤ gb324));clear HB;have HB:=n0_;have BK324:=n1_;have GW324:=n2_;have GE324:=n3_;clear n0_ n1_ n2_ n3_;clear hb hbox hg;have hcz9_0:w8.cell? ⟨gb324,0,none⟩ = some (.int .i64 0):=(blk_cell BK324.out 0).trans rfl;have hcz9_1:w8.cell? ⟨gb324,1,none⟩ = some (.int .i64 0):=(blk_cell BK324.out 1).trans rfl;have hcz9_2:w8.cell? ⟨gb324,2,none⟩ = some (.float .f64 0):=(blk_cell BK324.out 2).trans rfl;have hcz9_3:w8.cell? ⟨gb324,3,none⟩ = some (.int .i64 0):=(blk_cell BK324.out 3).trans rfl;have hcz9_4:w8.cell? ⟨gb324,4,none⟩ = some (.float .f64 0):=(blk_cell BK324.out 4).trans rfl;have hcz9_5:w8.cell? ⟨gb324,5,none⟩ = some (.int .i64 0):=(blk_cell BK324.out 5).trans rfl;have hfz9_0:=blk_frozen BK324.out 0;have hfz9_1:=blk_frozen BK324.out 1;have hfz9_2:=blk_frozen BK324.out 2;have hfz9_3:=blk_frozen BK324.out 3;have hfz9_4:=blk_frozen BK324.out 4;have hfz9_5:=blk_frozen BK324.out 5) | ((with_reducible refine gate_callee (f:=62) rfl ?_);refine goesL_ (some 20) rfl rfl Try.func62 (by kernel_rfl) rfl #[.float .f64 ((rd_T58 l1 x13_1).f2),.int .i64 1] rfl (by (try simp only [List.map_toArray,List.map_cons,List.map_nil]);first | done | rfl | (simp only [List.length_drop,List.length_take];rfl)) ?_;(with_reducible refine (math_IsInf.calls ((rd_T58 l1 x13_1).f2) 1 t325 _ A6.out).mono ?_);rintro e w' ⟨rfl,⟨nd,rfl⟩⟩;refine ⟨_,rfl,?_⟩))
   (try simp only [Act.put,List.setIfInBounds_toArray,List.set_cons_zero,List.set_cons_succ])
   go_cut [8] (fun v8 wc => ∃ (kq:Nat) (x8_6:Bool),v8 = .bool x8_6 ∧ Aside0 (landdv_may.j1 kq a0 l1 x13_1 t325 x8_6 l1 (l1.length:Int) x13_1 ((rd_T58 l1 x13_1).f0) ((rd_T58 l1 x13_1).f1) ((rd_T58 l1 x13_1).f2) ((rd_T58 l1 x13_1).f3) ((rd_T58 l1 x13_1).f4) ((rd_T58 l1 x13_1).f5) = some r) ∧ Aside0 (kq ≤ k1) ∧ Aside0 (wc.heap[gb324]? = some (.cells #[.int .i64 ((rd_T58 l1 x13_1).f0),.int .i64 ((rd_T58 l1 x13_1).f1),.float .f64 ((rd_T58 l1 x13_1).f2),.int .i64 ((rd_T58 l1 x13_1).f3),.float .f64 ((rd_T58 l1 x13_1).f4),.int .i64 ((rd_T58 l1 x13_1).f5)] 58 (0,0))) ∧ Aside0 (Below w.heap.size w wc))
   case first =>
    have H:=HC7.out
    clear HC7
    by_cases c10:t325 = true
    ·subst c10
     have H1:(landdv_may.j1 k1 a0 l1 x13_1 true true l1 (l1.length:Int) x13_1 ((rd_T58 l1 x13_1).f0) ((rd_T58 l1 x13_1).f1) ((rd_T58 l1 x13_1).f2) ((rd_T58 l1 x13_1).f3) ((rd_T58 l1 x13_1).f4) ((rd_T58 l1 x13_1).f5)) = some r:=by rw [if_pos rfl] at H;exact H
     clear H
     have H:=H1
     clear H1
     have H':=Aside0.mk H
     clear H
     go_wp2
     go_meet
     case rel => exact ⟨_,(true),(by first | rfl | (simp;done) | (simp [*];done)),H',⟨by have:=HK1.out;first | omega | exact Nat.le_refl _⟩,⟨by (with_reducible repeat (first | refine blk_drewN ?_ _ | refine blk_drew ?_ | refine blk_alloc ?_ _));refine blk_put (cs:=#[.int .i64 ((rd_T58 l1 x13_1).f0),.int .i64 ((rd_T58 l1 x13_1).f1),.float .f64 ((rd_T58 l1 x13_1).f2),.int .i64 ((rd_T58 l1 x13_1).f3),.float .f64 ((rd_T58 l1 x13_1).f4),.int .i64 0]) ?_ 5 _ rfl;(with_reducible repeat (first | refine blk_drewN ?_ _ | refine blk_drew ?_ | refine blk_alloc ?_ _));refine blk_put (cs:=#[.int .i64 ((rd_T58 l1 x13_1).f0),.int .i64 ((rd_T58 l1 x13_1).f1),.float .f64 ((rd_T58 l1 x13_1).f2),.int .i64 ((rd_T58 l1 x13_1).f3),.float .f64 0,.int .i64 0]) ?_ 4 _ rfl;(with_reducible repeat (first | refine blk_drewN ?_ _ | refine blk_drew ?_ | refine blk_alloc ?_ _));refine blk_put (cs:=#[.int .i64 ((rd_T58 l1 x13_1).f0),.int .i64 ((rd_T58 l1 x13_1).f1),.float .f64 ((rd_T58 l1 x13_1).f2),.int .i64 0,.float .f64 0,.int .i64 0]) ?_ 3 _ rfl;(with_reducible repeat (first | refine blk_drewN ?_ _ | refine blk_drew ?_ | refine blk_alloc ?_ _));refine blk_put (cs:=#[.int .i64 ((rd_T58 l1 x13_1).f0),.int .i64 ((rd_T58 l1 x13_1).f1),.float .f64 0,.int .i64 0,.float .f64 0,.int .i64 0]) ?_ 2 _ rfl;(with_reducible repeat (first | refine blk_drewN ?_ _ | refine blk_drew ?_ | refine blk_alloc ?_ _));refine blk_put (cs:=#[.int .i64 ((rd_T58 l1 x13_1).f0),.int .i64 0,.float .f64 0,.int .i64 0,.float .f64 0,.int .i64 0]) ?_ 1 _ rfl;(with_reducible repeat (first | refine blk_drewN ?_ _ | refine blk_drew ?_ | refine blk_alloc ?_ _));refine blk_put (cs:=#[.int .i64 0,.int .i64 0,.float .f64 0,.int .i64 0,.float .f64 0,.int .i64 0]) ?_ 0 _ rfl;(with_reducible repeat (first | refine blk_drewN ?_ _ | refine blk_drew ?_ | refine blk_alloc ?_ _));exact BK324.out⟩,⟨by repeat (first | (with_reducible first | exact HB.out | apply below_alloc | apply pw_below_drewN | apply below_drew1 | refine below_set ?_ GE324.out) | exact HB.out)⟩⟩
    replace c10:=Bool.eq_false_iff.mpr c10
    subst c10
    have H1:(if (FloatKind.f64.format.order ((rd_T58 l1 x13_1).f2) 0 == some .gt) = true then ((metric_Dist.f ((rd_T58 l1 x13_1).f2) 4742290407621132288).bind fun t326 => (landdv_may.j1 k1 a0 l1 x13_1 false (t326 == 0) l1 (l1.length:Int) x13_1 ((rd_T58 l1 x13_1).f0) ((rd_T58 l1 x13_1).f1) ((rd_T58 l1 x13_1).f2) ((rd_T58 l1 x13_1).f3) ((rd_T58 l1 x13_1).f4) ((rd_T58 l1 x13_1).f5))) else (landdv_may.j1 k1 a0 l1 x13_1 false false l1 (l1.length:Int) x13_1 ((rd_T58 l1 x13_1).f0) ((rd_T58 l1 x13_1).f1) ((rd_T58 l1 x13_1).f2) ((rd_T58 l1 x13_1).f3) ((rd_T58 l1 x13_1).f4) ((rd_T58 l1 x13_1).f5))) = some r:=by rw [if_neg (show ¬ (false = true) by decide)] at H;exact H
    clear H
    have H:=H1
    clear H1
    by_cases c11:(FloatKind.f64.format.order ((rd_T58 l1 x13_1).f2) 0 == some .gt) = true
    ·rw [if_pos c11] at H
     have c11b0:(FloatKind.f64.format.order ((rd_T58 l1 x13_1).f2) 0 == some .gt) = true:=c11
     (try (have c11b1:decide (FloatKind.f64.format.order ((rd_T58 l1 x13_1).f2) 0 = some .gt) = true:=by simpa using c11))
     (try (have c11b2:(FloatKind.f64.format.order ((rd_T58 l1 x13_1).f2) 0 == some .gt) = true:=by simpa using c11))
     clear c11
     (first | rw [c11b0] | (simp only [i64_w,i32_w];rw [c11b0]) | skip)
     replace H:=Option.bind_eq_some_iff.mp H
     obtain ⟨t326,A120,H⟩:=H
     replace H:(landdv_may.j1 k1 a0 l1 x13_1 false (t326 == 0) l1 (l1.length:Int) x13_1 ((rd_T58 l1 x13_1).f0) ((rd_T58 l1 x13_1).f1) ((rd_T58 l1 x13_1).f2) ((rd_T58 l1 x13_1).f3) ((rd_T58 l1 x13_1).f4) ((rd_T58 l1 x13_1).f5)) = some r:=H
     have A12:=Aside0.mk A120
     clear A120
     have H':=Aside0.mk H
     clear H
     have hcz13_0:w8.cell? ⟨gb324,0,none⟩ = some (.int .i64 0):=(blk_cell BK324.out 0).trans rfl
     have hcz13_1:w8.cell? ⟨gb324,1,none⟩ = some (.int .i64 0):=(blk_cell BK324.out 1).trans rfl
     have hcz13_2:w8.cell? ⟨gb324,2,none⟩ = some (.float .f64 0):=(blk_cell BK324.out 2).trans rfl
     have hcz13_3:w8.cell? ⟨gb324,3,none⟩ = some (.int .i64 0):=(blk_cell BK324.out 3).trans rfl
     have hcz13_4:w8.cell? ⟨gb324,4,none⟩ = some (.float .f64 0):=(blk_cell BK324.out 4).trans rfl
     have hcz13_5:w8.cell? ⟨gb324,5,none⟩ = some (.int .i64 0):=(blk_cell BK324.out 5).trans rfl
     have hfz13_0:=blk_frozen BK324.out 0
     have hfz13_1:=blk_frozen BK324.out 1
     have hfz13_2:=blk_frozen BK324.out 2
     have hfz13_3:=blk_frozen BK324.out 3
     have hfz13_4:=blk_frozen BK324.out 4
     have hfz13_5:=blk_frozen BK324.out 5
     go_wp2_with (first | (go_at_call 122;(with_reducible refine (metric_Dist.calls ((rd_T58 l1 x13_1).f2) 4742290407621132288 t326 _ A12.out).mono ?_);rintro e w' ⟨rfl,⟨nd,rfl⟩⟩))
     go_meet
     case rel => exact ⟨_,((t326 == 0)),(by first | rfl | (simp;done) | (simp [*];done)),H',⟨by have:=HK1.out;first | omega | exact Nat.le_refl _⟩,⟨by (with_reducible repeat (first | refine blk_drewN ?_ _ | refine blk_drew ?_ | refine blk_alloc ?_ _));refine blk_put (cs:=#[.int .i64 ((rd_T58 l1 x13_1).f0),.int .i64 ((rd_T58 l1 x13_1).f1),.float .f64 ((rd_T58 l1 x13_1).f2),.int .i64 ((rd_T58 l1 x13_1).f3),.float .f64 ((rd_T58 l1 x13_1).f4),.int .i64 0]) ?_ 5 _ rfl;(with_reducible repeat (first | refine blk_drewN ?_ _ | refine blk_drew ?_ | refine blk_alloc ?_ _));refine blk_put (cs:=#[.int .i64 ((rd_T58 l1 x13_1).f0),.int .i64 ((rd_T58 l1 x13_1).f1),.float .f64 ((rd_T58 l1 x13_1).f2),.int .i64 ((rd_T58 l1 x13_1).f3),.float .f64 0,.int .i64 0]) ?_ 4 _ rfl;(with_reducible repeat (first | refine blk_drewN ?_ _ | refine blk_drew ?_ | refine blk_alloc ?_ _));refine blk_put (cs:=#[.int .i64 ((rd_T58 l1 x13_1).f0),.int .i64 ((rd_T58 l1 x13_1).f1),.float .f64 ((rd_T58 l1 x13_1).f2),.int .i64 0,.float .f64 0,.int .i64 0]) ?_ 3 _ rfl;(with_reducible repeat (first | refine blk_drewN ?_ _ | refine blk_drew ?_ | refine blk_alloc ?_ _));refine blk_put (cs:=#[.int .i64 ((rd_T58 l1 x13_1).f0),.int .i64 ((rd_T58 l1 x13_1).f1),.float .f64 0,.int .i64 0,.float .f64 0,.int .i64 0]) ?_ 2 _ rfl;(with_reducible repeat (first | refine blk_drewN ?_ _ | refine blk_drew ?_ | refine blk_alloc ?_ _));refine blk_put (cs:=#[.int .i64 ((rd_T58 l1 x13_1).f0),.int .i64 0,.float .f64 0,.int .i64 0,.float .f64 0,.int .i64 0]) ?_ 1 _ rfl;(with_reducible repeat (first | refine blk_drewN ?_ _ | refine blk_drew ?_ | refine blk_alloc ?_ _));refine blk_put (cs:=#[.int .i64 0,.int .i64 0,.float .f64 0,.int .i64 0,.float .f64 0,.int .i64 0]) ?_ 0 _ rfl;(with_reducible repeat (first | refine blk_drewN ?_ _ | refine blk_drew ?_ | refine blk_alloc ?_ _));exact BK324.out⟩,⟨by repeat (first | (with_reducible first | exact HB.out | apply below_alloc | apply pw_below_drewN | apply below_drew1 | refine below_set ?_ GE324.out) | exact HB.out)⟩⟩
    rw [if_neg c11] at H
    have c11b0:(FloatKind.f64.format.order ((rd_T58 l1 x13_1).f2) 0 == some .gt) = false:=by simpa using c11
    (try (have c11b1:decide (FloatKind.f64.format.order ((rd_T58 l1 x13_1).f2) 0 = some .gt) = false:=by simpa using c11))
    (try (have c11b2:(FloatKind.f64.format.order ((rd_T58 l1 x13_1).f2) 0 == some .gt) = false:=by simpa using c11))
    (try (have c11b3:¬ (FloatKind.f64.format.order ((rd_T58 l1 x13_1).f2) 0 = some .gt):=by simpa using c11))
    clear c11
    (first | rw [c11b0] | (simp only [i64_w,i32_w];rw [c11b0]) | skip)
    have H':=Aside0.mk H
    clear H
    have hcz14_0:w8.cell? ⟨gb324,0,none⟩ = some (.int .i64 0):=(blk_cell BK324.out 0).trans rfl
    have hcz14_1:w8.cell? ⟨gb324,1,none⟩ = some (.int .i64 0):=(blk_cell BK324.out 1).trans rfl
    have hcz14_2:w8.cell? ⟨gb324,2,none⟩ = some (.float .f64 0):=(blk_cell BK324.out 2).trans rfl
    have hcz14_3:w8.cell? ⟨gb324,3,none⟩ = some (.int .i64 0):=(blk_cell BK324.out 3).trans rfl
    have hcz14_4:w8.cell? ⟨gb324,4,none⟩ = some (.float .f64 0):=(blk_cell BK324.out 4).trans rfl
    have hcz14_5:w8.cell? ⟨gb324,5,none⟩ = some (.int .i64 0):=(blk_cell BK324.out 5).trans rfl
    have hfz14_0:=blk_frozen BK324.out 0
    have hfz14_1:=blk_frozen BK324.out 1
    have hfz14_2:=blk_frozen BK324.out 2
    have hfz14_3:=blk_frozen BK324.out 3
    have hfz14_4:=blk_frozen BK324.out 4
    have hfz14_5:=blk_frozen BK324.out 5
    go_wp2
    go_meet
    case rel => exact ⟨_,(false),(by first | rfl | (simp;done) | (simp [*];done)),H',⟨by have:=HK1.out;first | omega | exact Nat.le_refl _⟩,⟨by (with_reducible repeat (first | refine blk_drewN ?_ _ | refine blk_drew ?_ | refine blk_alloc ?_ _));refine blk_put (cs:=#[.int .i64 ((rd_T58 l1 x13_1).f0),.int .i64 ((rd_T58 l1 x13_1).f1),.float .f64 ((rd_T58 l1 x13_1).f2),.int .i64 ((rd_T58 l1 x13_1).f3),.float .f64 ((rd_T58 l1 x13_1).f4),.int .i64 0]) ?_ 5 _ rfl;(with_reducible repeat (first | refine blk_drewN ?_ _ | refine blk_drew ?_ | refine blk_alloc ?_ _));refine blk_put (cs:=#[.int .i64 ((rd_T58 l1 x13_1).f0),.int .i64 ((rd_T58 l1 x13_1).f1),.float .f64 ((rd_T58 l1 x13_1).f2),.int .i64 ((rd_T58 l1 x13_1).f3),.float .f64 0,.int .i64 0]) ?_ 4 _ rfl;(with_reducible repeat (first | refine blk_drewN ?_ _ | refine blk_drew ?_ | refine blk_alloc ?_ _));refine blk_put (cs:=#[.int .i64 ((rd_T58 l1 x13_1).f0),.int .i64 ((rd_T58 l1 x13_1).f1),.float .f64 ((rd_T58 l1 x13_1).f2),.int .i64 0,.float .f64 0,.int .i64 0]) ?_ 3 _ rfl;(with_reducible repeat (first | refine blk_drewN ?_ _ | refine blk_drew ?_ | refine blk_alloc ?_ _));refine blk_put (cs:=#[.int .i64 ((rd_T58 l1 x13_1).f0),.int .i64 ((rd_T58 l1 x13_1).f1),.float .f64 0,.int .i64 0,.float .f64 0,.int .i64 0]) ?_ 2 _ rfl;(with_reducible repeat (first | refine blk_drewN ?_ _ | refine blk_drew ?_ | refine blk_alloc ?_ _));refine blk_put (cs:=#[.int .i64 ((rd_T58 l1 x13_1).f0),.int .i64 0,.float .f64 0,.int .i64 0,.float .f64 0,.int .i64 0]) ?_ 1 _ rfl;(with_reducible repeat (first | refine blk_drewN ?_ _ | refine blk_drew ?_ | refine blk_alloc ?_ _));refine blk_put (cs:=#[.int .i64 0,.int .i64 0,.float .f64 0,.int .i64 0,.float .f64 0,.int .i64 0]) ?_ 0 _ rfl;(with_reducible repeat (first | refine blk_drewN ?_ _ | refine blk_drew ?_ | refine blk_alloc ?_ _));exact BK324.out⟩,⟨by repeat (first | (with_reducible first | exact HB.out | apply below_alloc | apply pw_below_drewN | apply below_drew1 | refine below_set ?_ GE324.out) | exact HB.out)⟩⟩
   case rest =>
    clear HC7
    obtain ⟨kq,x8_6,rfl,HA,HJ6,BK324,HB⟩:=hcut
    cases kq with
    | zero => exact absurd HA.out (by simp [landdv_may.j1])
    | succ kj6 =>
     have H:=HA.out
     clear HA
     simp only [landdv_may.j1] at H
     have HC15:=Aside0.mk H
     clear H
     go_upto_region 6 with (fail)
     go_cut [9] (fun v9 wc => ∃ (kq:Nat) (x9_14:Bool),v9 = .bool x9_14 ∧ Aside0 (landdv_may.j2 kq a0 l1 x13_1 x8_6 x9_14 l1 (l1.length:Int) x13_1 ((rd_T58 l1 x13_1).f0) ((rd_T58 l1 x13_1).f1) ((rd_T58 l1 x13_1).f2) ((rd_T58 l1 x13_1).f3) ((rd_T58 l1 x13_1).f4) ((rd_T58 l1 x13_1).f5) = some r) ∧ Aside0 (kq ≤ kj6) ∧ Aside0 (wc.heap[gb324]? = some (.cells #[.int .i64 ((rd_T58 l1 x13_1).f0),.int .i64 ((rd_T58 l1 x13_1).f1),.float .f64 ((rd_T58 l1 x13_1).f2),.int .i64 ((rd_T58 l1 x13_1).f3),.float .f64 ((rd_T58 l1 x13_1).f4),.int .i64 ((rd_T58 l1 x13_1).f5)] 58 (0,0))) ∧ Aside0 (Below w.heap.size w wc))
     case first =>
      have H:=HC15.out
      clear HC15
      replace H:=Option.bind_eq_some_iff.mp H
      obtain ⟨t327,A160,H⟩:=H
      replace H:(if t327 = 0 then (if t325 = true then (if ((rd_T58 l1 x13_1).f3) = 0 then (landdv_may.j2 kj6 a0 l1 x13_1 x8_6 t325 l1 (l1.length:Int) x13_1 ((rd_T58 l1 x13_1).f0) ((rd_T58 l1 x13_1).f1) ((rd_T58 l1 x13_1).f2) ((rd_T58 l1 x13_1).f3) ((rd_T58 l1 x13_1).f4) ((rd_T58 l1 x13_1).f5)) else (landdv_may.j2 kj6 a0 l1 x13_1 x8_6 false l1 (l1.length:Int) x13_1 ((rd_T58 l1 x13_1).f0) ((rd_T58 l1 x13_1).f1) ((rd_T58 l1 x13_1).f2) ((rd_T58 l1 x13_1).f3) ((rd_T58 l1 x13_1).f4) ((rd_T58 l1 x13_1).f5))) else (landdv_may.j2 kj6 a0 l1 x13_1 x8_6 true l1 (l1.length:Int) x13_1 ((rd_T58 l1 x13_1).f0) ((rd_T58 l1 x13_1).f1) ((rd_T58 l1 x13_1).f2) ((rd_T58 l1 x13_1).f3) ((rd_T58 l1 x13_1).f4) ((rd_T58 l1 x13_1).f5))) else (if ((rd_T58 l1 x13_1).f3) = 0 then (landdv_may.j2 kj6 a0 l1 x13_1 x8_6 t325 l1 (l1.length:Int) x13_1 ((rd_T58 l1 x13_1).f0) ((rd_T58 l1 x13_1).f1) ((rd_T58 l1 x13_1).f2) ((rd_T58 l1 x13_1).f3) ((rd_T58 l1 x13_1).f4) ((rd_T58 l1 x13_1).f5)) else (landdv_may.j2 kj6 a0 l1 x13_1 x8_6 false l1 (l1.length:Int) x13_1 ((rd_T58 l1 x13_1).f0) ((rd_T58 l1 x13_1).f1) ((rd_T58 l1 x13_1).f2) ((rd_T58 l1 x13_1).f3) ((rd_T58 l1 x13_1).f4) ((rd_T58 l1 x13_1).f5)))) = some r:=H
      have A16:=Aside0.mk A160
      clear A160
      by_cases c17:t327 = 0
      rotate_left
      ·rw [if_neg c17] at H
       have c17b0:(t327 == 0) = false:=beq_eq_false_iff_ne.mpr c17
       have c17b1:(t327 != 0) = true:=bne_iff_ne.mpr c17
       (first | rw [c17b0] | (simp only [i64_w,i32_w];rw [c17b0]) | skip)
       by_cases c23:((rd_T58 l1 x13_1).f3) = 0
       ·rw [if_pos c23] at H
        have c23b0:(((rd_T58 l1 x13_1).f3) == 0) = true:=beq_iff_eq.mpr c23
        have c23b1:(((rd_T58 l1 x13_1).f3) != 0) = false:=bne_eq_false_iff_eq.mpr c23
        clear c23
        have H':=Aside0.mk H
        clear H
        have hcz24_0:wc.cell? ⟨gb324,0,none⟩ = some (.int .i64 ((rd_T58 l1 x13_1).f0)):=(blk_cell BK324.out 0).trans rfl
        have hcz24_1:wc.cell? ⟨gb324,1,none⟩ = some (.int .i64 ((rd_T58 l1 x13_1).f1)):=(blk_cell BK324.out 1).trans rfl
        have hcz24_2:wc.cell? ⟨gb324,2,none⟩ = some (.float .f64 ((rd_T58 l1 x13_1).f2)):=(blk_cell BK324.out 2).trans rfl
        have hcz24_3:wc.cell? ⟨gb324,3,none⟩ = some (.int .i64 ((rd_T58 l1 x13_1).f3)):=(blk_cell BK324.out 3).trans rfl
        have hcz24_4:wc.cell? ⟨gb324,4,none⟩ = some (.float .f64 ((rd_T58 l1 x13_1).f4)):=(blk_cell BK324.out 4).trans rfl
        have hcz24_5:wc.cell? ⟨gb324,5,none⟩ = some (.int .i64 ((rd_T58 l1 x13_1).f5)):=(blk_cell BK324.out 5).trans rfl
        have hfz24_0:=blk_frozen BK324.out 0
        have hfz24_1:=blk_frozen BK324.out 1
        have hfz24_2:=blk_frozen BK324.out 2
        have hfz24_3:=blk_frozen BK324.out 3
        have hfz24_4:=blk_frozen BK324.out 4
        have hfz24_5:=blk_frozen BK324.out 5
        go_wp2_with (first | ((with_reducible refine gate_callee (f:=49) rfl ?_);refine goesL_ (some 35) rfl rfl Try.func49 (by kernel_rfl) rfl #[.int .i64 ((rd_T58 l1 x13_1).f3)] rfl (by (try simp only [List.map_toArray,List.map_cons,List.map_nil]);first | done | rfl | (simp only [List.length_drop,List.length_take];rfl)) ?_;(with_reducible refine (ident_CheckId.calls ((rd_T58 l1 x13_1).f3) t327 _ A16.out).mono ?_);rintro e w' ⟨rfl,⟨nd,rfl⟩⟩;refine ⟨_,rfl,?_⟩))
        go_meet
        case rel => exact ⟨_,(t325),(by first | rfl | (simp;done) | (simp [*];done)),H',⟨by have:=HK1.out;have:=HJ6.out;first | omega | exact Nat.le_refl _⟩,⟨by (with_reducible repeat (first | refine blk_drewN ?_ _ | refine blk_drew ?_ | refine blk_alloc ?_ _));exact BK324.out⟩,⟨by repeat (first | (with_reducible first | exact HB.out | apply below_alloc | apply pw_below_drewN | apply below_drew1 | refine below_set ?_ GE324.out) | exact HB.out)⟩⟩
       rw [if_neg c23] at H
       have c23b0:(((rd_T58 l1 x13_1).f3) == 0) = false:=beq_eq_false_iff_ne.mpr c23
       have c23b1:(((rd_T58 l1 x13_1).f3) != 0) = true:=bne_iff_ne.mpr c23
       have H':=Aside0.mk H
       clear H
       have hcz25_0:wc.cell? ⟨gb324,0,none⟩ = some (.int .i64 ((rd_T58 l1 x13_1).f0)):=(blk_cell BK324.out 0).trans rfl
       have hcz25_1:wc.cell? ⟨gb324,1,none⟩ = some (.int .i64 ((rd_T58 l1 x13_1).f1)):=(blk_cell BK324.out 1).trans rfl
       have hcz25_2:wc.cell? ⟨gb324,2,none⟩ = some (.float .f64 ((rd_T58 l1 x13_1).f2)):=(blk_cell BK324.out 2).trans rfl
       have hcz25_3:wc.cell? ⟨gb324,3,none⟩ = some (.int .i64 ((rd_T58 l1 x13_1).f3)):=(blk_cell BK324.out 3).trans rfl
       have hcz25_4:wc.cell? ⟨gb324,4,none⟩ = some (.float .f64 ((rd_T58 l1 x13_1).f4)):=(blk_cell BK324.out 4).trans rfl
       have hcz25_5:wc.cell? ⟨gb324,5,none⟩ = some (.int .i64 ((rd_T58 l1 x13_1).f5)):=(blk_cell BK324.out 5).trans rfl
       have hfz25_0:=blk_frozen BK324.out 0
       have hfz25_1:=blk_frozen BK324.out 1
       have hfz25_2:=blk_frozen BK324.out 2
       have hfz25_3:=blk_frozen BK324.out 3
       have hfz25_4:=blk_frozen BK324.out 4
       have hfz25_5:=blk_frozen BK324.out 5
       go_wp2_with (first | ((with_reducible refine gate_callee (f:=49) rfl ?_);refine goesL_ (some 35) rfl rfl Try.func49 (by kernel_rfl) rfl #[.int .i64 ((rd_T58 l1 x13_1).f3)] rfl (by (try simp only [List.map_toArray,List.map_cons,List.map_nil]);first | done | rfl | (simp only [List.length_drop,List.length_take];rfl)) ?_;(with_reducible refine (ident_CheckId.calls ((rd_T58 l1 x13_1).f3) t327 _ A16.out).mono ?_);rintro e w' ⟨rfl,⟨nd,rfl⟩⟩;refine ⟨_,rfl,?_⟩))
       go_meet
       case rel => exact ⟨_,(false),(by first | rfl | (simp;done) | (simp [*];done)),H',⟨by have:=HK1.out;have:=HJ6.out;first | omega | exact Nat.le_refl _⟩,⟨by (with_reducible repeat (first | refine blk_drewN ?_ _ | refine blk_drew ?_ | refine blk_alloc ?_ _));exact BK324.out⟩,⟨by repeat (first | (with_reducible first | exact HB.out | apply below_alloc | apply pw_below_drewN | apply below_drew1 | refine below_set ?_ GE324.out) | exact HB.out)⟩⟩
      rw [if_pos c17] at H
      have c17b0:(t327 == 0) = true:=beq_iff_eq.mpr c17
      have c17b1:(t327 != 0) = false:=bne_eq_false_iff_eq.mpr c17
      clear c17
      (first | rw [c17b0] | (simp only [i64_w,i32_w];rw [c17b0]) | skip)
      by_cases c18:t325 = true
      ·subst c18
       have H1:(if ((rd_T58 l1 x13_1).f3) = 0 then (landdv_may.j2 kj6 a0 l1 x13_1 x8_6 true l1 (l1.length:Int) x13_1 ((rd_T58 l1 x13_1).f0) ((rd_T58 l1 x13_1).f1) ((rd_T58 l1 x13_1).f2) ((rd_T58 l1 x13_1).f3) ((rd_T58 l1 x13_1).f4) ((rd_T58 l1 x13_1).f5)) else (landdv_may.j2 kj6 a0 l1 x13_1 x8_6 false l1 (l1.length:Int) x13_1 ((rd_T58 l1 x13_1).f0) ((rd_T58 l1 x13_1).f1) ((rd_T58 l1 x13_1).f2) ((rd_T58 l1 x13_1).f3) ((rd_T58 l1 x13_1).f4) ((rd_T58 l1 x13_1).f5))) = some r:=by rw [if_pos rfl] at H;exact H
       clear H
       have H:=H1
       clear H1
       by_cases c19:((rd_T58 l1 x13_1).f3) = 0
       ·rw [if_pos c19] at H
        have c19b0:(((rd_T58 l1 x13_1).f3) == 0) = true:=beq_iff_eq.mpr c19
        have c19b1:(((rd_T58 l1 x13_1).f3) != 0) = false:=bne_eq_false_iff_eq.mpr c19
        clear c19
        have H':=Aside0.mk H
        clear H
        have hcz20_0:wc.cell? ⟨gb324,0,none⟩ = some (.int .i64 ((rd_T58 l1 x13_1).f0)):=(blk_cell BK324.out 0).trans rfl
        have hcz20_1:wc.cell? ⟨gb324,1,none⟩ = some (.int .i64 ((rd_T58 l1 x13_1).f1)):=(blk_cell BK324.out 1).trans rfl
        have hcz20_2:wc.cell? ⟨gb324,2,none⟩ = some (.float .f64 ((rd_T58 l1 x13_1).f2)):=(blk_cell BK324.out 2).trans rfl
        have hcz20_3:wc.cell? ⟨gb324,3,none⟩ = some (.int .i64 ((rd_T58 l1 x13_1).f3)):=(blk_cell BK324.out 3).trans rfl
        have hcz20_4:wc.cell? ⟨gb324,4,none⟩ = some (.float .f64 ((rd_T58 l1 x13_1).f4)):=(blk_cell BK324.out 4).trans rfl
        have hcz20_5:wc.cell? ⟨gb324,5,none⟩ = some (.int .i64 ((rd_T58 l1 x13_1).f5)):=(blk_cell BK324.out 5).trans rfl
        have hfz20_0:=blk_frozen BK324.out 0
        have hfz20_1:=blk_frozen BK324.out 1
        have hfz20_2:=blk_frozen BK324.out 2
        have hfz20_3:=blk_frozen BK324.out 3
        have hfz20_4:=blk_frozen BK324.out 4
        have hfz20_5:=blk_frozen BK324.out 5
        go_wp2_with (first | ((with_reducible refine gate_callee (f:=49) rfl ?_);refine goesL_ (some 35) rfl rfl Try.func49 (by kernel_rfl) rfl #[.int .i64 ((rd_T58 l1 x13_1).f3)] rfl (by (try simp only [List.map_toArray,List.map_cons,List.map_nil]);first | done | rfl | (simp only [List.length_drop,List.length_take];rfl)) ?_;(with_reducible refine (ident_CheckId.calls ((rd_T58 l1 x13_1).f3) t327 _ A16.out).mono ?_);rintro e w' ⟨rfl,⟨nd,rfl⟩⟩;refine ⟨_,rfl,?_⟩))
        go_meet
        case rel => exact ⟨_,(true),(by first | rfl | (simp;done) | (simp [*];done)),H',⟨by have:=HK1.out;have:=HJ6.out;first | omega | exact Nat.le_refl _⟩,⟨by (with_reducible repeat (first | refine blk_drewN ?_ _ | refine blk_drew ?_ | refine blk_alloc ?_ _));exact BK324.out⟩,⟨by repeat (first | (with_reducible first | exact HB.out | apply below_alloc | apply pw_below_drewN | apply below_drew1 | refine below_set ?_ GE324.out) | exact HB.out)⟩⟩
       rw [if_neg c19] at H
       have c19b0:(((rd_T58 l1 x13_1).f3) == 0) = false:=beq_eq_false_iff_ne.mpr c19
       have c19b1:(((rd_T58 l1 x13_1).f3) != 0) = true:=bne_iff_ne.mpr c19
       have H':=Aside0.mk H
       clear H
       have hcz21_0:wc.cell? ⟨gb324,0,none⟩ = some (.int .i64 ((rd_T58 l1 x13_1).f0)):=(blk_cell BK324.out 0).trans rfl
       have hcz21_1:wc.cell? ⟨gb324,1,none⟩ = some (.int .i64 ((rd_T58 l1 x13_1).f1)):=(blk_cell BK324.out 1).trans rfl
       have hcz21_2:wc.cell? ⟨gb324,2,none⟩ = some (.float .f64 ((rd_T58 l1 x13_1).f2)):=(blk_cell BK324.out 2).trans rfl
       have hcz21_3:wc.cell? ⟨gb324,3,none⟩ = some (.int .i64 ((rd_T58 l1 x13_1).f3)):=(blk_cell BK324.out 3).trans rfl
       have hcz21_4:wc.cell? ⟨gb324,4,none⟩ = some (.float .f64 ((rd_T58 l1 x13_1).f4)):=(blk_cell BK324.out 4).trans rfl
       have hcz21_5:wc.cell? ⟨gb324,5,none⟩ = some (.int .i64 ((rd_T58 l1 x13_1).f5)):=(blk_cell BK324.out 5).trans rfl
       have hfz21_0:=blk_frozen BK324.out 0
       have hfz21_1:=blk_frozen BK324.out 1
       have hfz21_2:=blk_frozen BK324.out 2
       have hfz21_3:=blk_frozen BK324.out 3
       have hfz21_4:=blk_frozen BK324.out 4
       have hfz21_5:=blk_frozen BK324.out 5
       go_wp2_with (first | ((with_reducible refine gate_callee (f:=49) rfl ?_);refine goesL_ (some 35) rfl rfl Try.func49 (by kernel_rfl) rfl #[.int .i64 ((rd_T58 l1 x13_1).f3)] rfl (by (try simp only [List.map_toArray,List.map_cons,List.map_nil]);first | done | rfl | (simp only [List.length_drop,List.length_take];rfl)) ?_;(with_reducible refine (ident_CheckId.calls ((rd_T58 l1 x13_1).f3) t327 _ A16.out).mono ?_);rintro e w' ⟨rfl,⟨nd,rfl⟩⟩;refine ⟨_,rfl,?_⟩))
       go_meet
       case rel => exact ⟨_,(false),(by first | rfl | (simp;done) | (simp [*];done)),H',⟨by have:=HK1.out;have:=HJ6.out;first | omega | exact Nat.le_refl _⟩,⟨by (with_reducible repeat (first | refine blk_drewN ?_ _ | refine blk_drew ?_ | refine blk_alloc ?_ _));exact BK324.out⟩,⟨by repeat (first | (with_reducible first | exact HB.out | apply below_alloc | apply pw_below_drewN | apply below_drew1 | refine below_set ?_ GE324.out) | exact HB.out)⟩⟩
      replace c18:=Bool.eq_false_iff.mpr c18
      subst c18
      have H1:(landdv_may.j2 kj6 a0 l1 x13_1 x8_6 true l1 (l1.length:Int) x13_1 ((rd_T58 l1 x13_1).f0) ((rd_T58 l1 x13_1).f1) ((rd_T58 l1 x13_1).f2) ((rd_T58 l1 x13_1).f3) ((rd_T58 l1 x13_1).f4) ((rd_T58 l1 x13_1).f5)) = some r:=by rw [if_neg (show ¬ (false = true) by decide)] at H;exact H
      clear H
      have H:=H1
      clear H1
      have H':=Aside0.mk H
      clear H
      have hcz22_0:wc.cell? ⟨gb324,0,none⟩ = some (.int .i64 ((rd_T58 l1 x13_1).f0)):=(blk_cell BK324.out 0).trans rfl
      have hcz22_1:wc.cell? ⟨gb324,1,none⟩ = some (.int .i64 ((rd_T58 l1 x13_1).f1)):=(blk_cell BK324.out 1).trans rfl
      have hcz22_2:wc.cell? ⟨gb324,2,none⟩ = some (.float .f64 ((rd_T58 l1 x13_1).f2)):=(blk_cell BK324.out 2).trans rfl
      have hcz22_3:wc.cell? ⟨gb324,3,none⟩ = some (.int .i64 ((rd_T58 l1 x13_1).f3)):=(blk_cell BK324.out 3).trans rfl
      have hcz22_4:wc.cell? ⟨gb324,4,none⟩ = some (.float .f64 ((rd_T58 l1 x13_1).f4)):=(blk_cell BK324.out 4).trans rfl
      have hcz22_5:wc.cell? ⟨gb324,5,none⟩ = some (.int .i64 ((rd_T58 l1 x13_1).f5)):=(blk_cell BK324.out 5).trans rfl
      have hfz22_0:=blk_frozen BK324.out 0
      have hfz22_1:=blk_frozen BK324.out 1
      have hfz22_2:=blk_frozen BK324.out 2
      have hfz22_3:=blk_frozen BK324.out 3
      have hfz22_4:=blk_frozen BK324.out 4
      have hfz22_5:=blk_frozen BK324.out 5
      go_wp2_with (first | ((with_reducible refine gate_callee (f:=49) rfl ?_);refine goesL_ (some 35) rfl rfl Try.func49 (by kernel_rfl) rfl #[.int .i64 ((rd_T58 l1 x13_1).f3)] rfl (by (try simp only [List.map_toArray,List.map_cons,List.map_nil]);first | done | rfl | (simp only [List.length_drop,List.length_take];rfl)) ?_;(with_reducible refine (ident_CheckId.calls ((rd_T58 l1 x13_1).f3) t327 _ A16.out).mono ?_);rintro e w' ⟨rfl,⟨nd,rfl⟩⟩;refine ⟨_,rfl,?_⟩))
      go_meet
      case rel => exact ⟨_,(true),(by first | rfl | (simp;done) | (simp [*];done)),H',⟨by have:=HK1.out;have:=HJ6.out;first | omega | exact Nat.le_refl _⟩,⟨by (with_reducible repeat (first | refine blk_drewN ?_ _ | refine blk_drew ?_ | refine blk_alloc ?_ _));exact BK324.out⟩,⟨by repeat (first | (with_reducible first | exact HB.out | apply below_alloc | apply pw_below_drewN | apply below_drew1 | refine below_set ?_ GE324.out) | exact HB.out)⟩⟩
     case rest =>
      clear HC15
      obtain ⟨kq,x9_14,rfl,HA,HJ14,BK324,HB⟩:=hcut
      cases kq with
      | zero => exact absurd HA.out (by simp [landdv_may.j2])
      | succ kj14 =>
       have H:=HA.out
       clear HA
       simp only [landdv_may.j2] at H
       have HC26:=Aside0.mk H
       clear H
       go_upto_region 7 with (fail)
       go_cut [10] (fun v10 wc => ∃ (kq:Nat) (x10_25:Bool),v10 = .bool x10_25 ∧ Aside0 (landdv_may.j3 kq a0 l1 x13_1 x8_6 x9_14 x10_25 l1 (l1.length:Int) x13_1 ((rd_T58 l1 x13_1).f0) ((rd_T58 l1 x13_1).f1) ((rd_T58 l1 x13_1).f2) ((rd_T58 l1 x13_1).f3) ((rd_T58 l1 x13_1).f4) ((rd_T58 l1 x13_1).f5) = some r) ∧ Aside0 (kq ≤ kj14) ∧ Aside0 (wc.heap[gb324]? = some (.cells #[.int .i64 ((rd_T58 l1 x13_1).f0),.int .i64 ((rd_T58 l1 x13_1).f1),.float .f64 ((rd_T58 l1 x13_1).f2),.int .i64 ((rd_T58 l1 x13_1).f3),.float .f64 ((rd_T58 l1 x13_1).f4),.int .i64 ((rd_T58 l1 x13_1).f5)] 58 (0,0))) ∧ Aside0 (Below w.heap.size w wc))
       case first =>
        have H:=HC26.out
        clear HC26
        by_cases c27:((rd_T58 l1 x13_1).f1) = 1
        ·rw [if_pos c27] at H
         have c27b0:(((rd_T58 l1 x13_1).f1) == 1) = true:=beq_iff_eq.mpr c27
         have c27b1:(((rd_T58 l1 x13_1).f1) != 1) = false:=bne_eq_false_iff_eq.mpr c27
         clear c27
         (first | rw [c27b0] | (simp only [i64_w,i32_w];rw [c27b0]) | skip)
         by_cases c28:(((rd_T58 l1 x13_1).f4):Int) = 0
         ·rw [if_pos c28] at H
          have c28b0:((((rd_T58 l1 x13_1).f4):Int) == 0) = true:=beq_iff_eq.mpr c28
          have c28b1:((((rd_T58 l1 x13_1).f4):Int) != 0) = false:=bne_eq_false_iff_eq.mpr c28
          clear c28
          have H':=Aside0.mk H
          clear H
          have hcz29_0:wc.cell? ⟨gb324,0,none⟩ = some (.int .i64 ((rd_T58 l1 x13_1).f0)):=(blk_cell BK324.out 0).trans rfl
          have hcz29_1:wc.cell? ⟨gb324,1,none⟩ = some (.int .i64 ((rd_T58 l1 x13_1).f1)):=(blk_cell BK324.out 1).trans rfl
          have hcz29_2:wc.cell? ⟨gb324,2,none⟩ = some (.float .f64 ((rd_T58 l1 x13_1).f2)):=(blk_cell BK324.out 2).trans rfl
          have hcz29_3:wc.cell? ⟨gb324,3,none⟩ = some (.int .i64 ((rd_T58 l1 x13_1).f3)):=(blk_cell BK324.out 3).trans rfl
          have hcz29_4:wc.cell? ⟨gb324,4,none⟩ = some (.float .f64 ((rd_T58 l1 x13_1).f4)):=(blk_cell BK324.out 4).trans rfl
          have hcz29_5:wc.cell? ⟨gb324,5,none⟩ = some (.int .i64 ((rd_T58 l1 x13_1).f5)):=(blk_cell BK324.out 5).trans rfl
          have hfz29_0:=blk_frozen BK324.out 0
          have hfz29_1:=blk_frozen BK324.out 1
          have hfz29_2:=blk_frozen BK324.out 2
          have hfz29_3:=blk_frozen BK324.out 3
          have hfz29_4:=blk_frozen BK324.out 4
          have hfz29_5:=blk_frozen BK324.out 5
          go_wp2
          go_meet
          case rel => exact ⟨_,((((rd_T58 l1 x13_1).f5) == 0)),(by first | rfl | (simp;done) | (simp [*];done)),H',⟨by have:=HK1.out;have:=HJ6.out;have:=HJ14.out;first | omega | exact Nat.le_refl _⟩,⟨by (with_reducible repeat (first | refine blk_drewN ?_ _ | refine blk_drew ?_ | refine blk_alloc ?_ _));exact BK324.out⟩,⟨by repeat (first | (with_reducible first | exact HB.out | apply below_alloc | apply pw_below_drewN | apply below_drew1 | refine below_set ?_ GE324.out) | exact HB.out)⟩⟩
         rw [if_neg c28] at H
         have c28b0:((((rd_T58 l1 x13_1).f4):Int) == 0) = false:=beq_eq_false_iff_ne.mpr c28
         have c28b1:((((rd_T58 l1 x13_1).f4):Int) != 0) = true:=bne_iff_ne.mpr c28
         have H':=Aside0.mk H
         clear H
         have hcz30_0:wc.cell? ⟨gb324,0,none⟩ = some (.int .i64 ((rd_T58 l1 x13_1).f0)):=(blk_cell BK324.out 0).trans rfl
         have hcz30_1:wc.cell? ⟨gb324,1,none⟩ = some (.int .i64 ((rd_T58 l1 x13_1).f1)):=(blk_cell BK324.out 1).trans rfl
         have hcz30_2:wc.cell? ⟨gb324,2,none⟩ = some (.float .f64 ((rd_T58 l1 x13_1).f2)):=(blk_cell BK324.out 2).trans rfl
         have hcz30_3:wc.cell? ⟨gb324,3,none⟩ = some (.int .i64 ((rd_T58 l1 x13_1).f3)):=(blk_cell BK324.out 3).trans rfl
         have hcz30_4:wc.cell? ⟨gb324,4,none⟩ = some (.float .f64 ((rd_T58 l1 x13_1).f4)):=(blk_cell BK324.out 4).trans rfl
         have hcz30_5:wc.cell? ⟨gb324,5,none⟩ = some (.int .i64 ((rd_T58 l1 x13_1).f5)):=(blk_cell BK324.out 5).trans rfl
         have hfz30_0:=blk_frozen BK324.out 0
         have hfz30_1:=blk_frozen BK324.out 1
         have hfz30_2:=blk_frozen BK324.out 2
         have hfz30_3:=blk_frozen BK324.out 3
         have hfz30_4:=blk_frozen BK324.out 4
         have hfz30_5:=blk_frozen BK324.out 5
         go_wp2
         go_meet
         case rel => exact ⟨_,(false),(by first | rfl | (simp;done) | (simp [*];done)),H',⟨by have:=HK1.out;have:=HJ6.out;have:=HJ14.out;first | omega | exact Nat.le_refl _⟩,⟨by (with_reducible repeat (first | refine blk_drewN ?_ _ | refine blk_drew ?_ | refine blk_alloc ?_ _));exact BK324.out⟩,⟨by repeat (first | (with_reducible first | exact HB.out | apply below_alloc | apply pw_below_drewN | apply below_drew1 | refine below_set ?_ GE324.out) | exact HB.out)⟩⟩
        rw [if_neg c27] at H
        have c27b0:(((rd_T58 l1 x13_1).f1) == 1) = false:=beq_eq_false_iff_ne.mpr c27
        have c27b1:(((rd_T58 l1 x13_1).f1) != 1) = true:=bne_iff_ne.mpr c27
        (first | rw [c27b0] | (simp only [i64_w,i32_w];rw [c27b0]) | skip)
        have H':=Aside0.mk H
        clear H
        have hcz31_0:wc.cell? ⟨gb324,0,none⟩ = some (.int .i64 ((rd_T58 l1 x13_1).f0)):=(blk_cell BK324.out 0).trans rfl
        have hcz31_1:wc.cell? ⟨gb324,1,none⟩ = some (.int .i64 ((rd_T58 l1 x13_1).f1)):=(blk_cell BK324.out 1).trans rfl
        have hcz31_2:wc.cell? ⟨gb324,2,none⟩ = some (.float .f64 ((rd_T58 l1 x13_1).f2)):=(blk_cell BK324.out 2).trans rfl
        have hcz31_3:wc.cell? ⟨gb324,3,none⟩ = some (.int .i64 ((rd_T58 l1 x13_1).f3)):=(blk_cell BK324.out 3).trans rfl
        have hcz31_4:wc.cell? ⟨gb324,4,none⟩ = some (.float .f64 ((rd_T58 l1 x13_1).f4)):=(blk_cell BK324.out 4).trans rfl
        have hcz31_5:wc.cell? ⟨gb324,5,none⟩ = some (.int .i64 ((rd_T58 l1 x13_1).f5)):=(blk_cell BK324.out 5).trans rfl
        have hfz31_0:=blk_frozen BK324.out 0
        have hfz31_1:=blk_frozen BK324.out 1
        have hfz31_2:=blk_frozen BK324.out 2
        have hfz31_3:=blk_frozen BK324.out 3
        have hfz31_4:=blk_frozen BK324.out 4
        have hfz31_5:=blk_frozen BK324.out 5
        go_wp2
        go_meet
        case rel => exact ⟨_,(false),(by first | rfl | (simp;done) | (simp [*];done)),H',⟨by have:=HK1.out;have:=HJ6.out;have:=HJ14.out;first | omega | exact Nat.le_refl _⟩,⟨by (with_reducible repeat (first | refine blk_drewN ?_ _ | refine blk_drew ?_ | refine blk_alloc ?_ _));exact BK324.out⟩,⟨by repeat (first | (with_reducible first | exact HB.out | apply below_alloc | apply pw_below_drewN | apply below_drew1 | refine below_set ?_ GE324.out) | exact HB.out)⟩⟩
       case rest =>
        clear HC26
        obtain ⟨kq,x10_25,rfl,HA,HJ25,BK324,HB⟩:=hcut
        cases kq with
        | zero => exact absurd HA.out (by simp [landdv_may.j3])
        | succ kj25 =>
         have H:=HA.out
         clear HA
         simp only [landdv_may.j3] at H
         have HC32:=Aside0.mk H
         clear H
         go_upto_region 8 with (fail)
         go_cut [99] (fun v99 wc => ∃ (kq:Nat) (x99_31:Bool),v99 = .bool x99_31 ∧ Aside0 (landdv_may.j4 kq a0 l1 l1 (l1.length:Int) x13_1 x99_31 = some r) ∧ Aside0 (kq ≤ kj25) ∧ Aside0 (wc.heap[gb324]? = some (.cells #[.int .i64 ((rd_T58 l1 x13_1).f0),.int .i64 ((rd_T58 l1 x13_1).f1),.float .f64 ((rd_T58 l1 x13_1).f2),.int .i64 ((rd_T58 l1 x13_1).f3),.float .f64 ((rd_T58 l1 x13_1).f4),.int .i64 ((rd_T58 l1 x13_1).f5)] 58 (0,0))) ∧ Aside0 (Below w.heap.size w wc))
         case first =>
          have H:=HC32.out
          clear HC32
          by_cases c33:x10_25 = true
          rotate_left
          ·replace c33:=Bool.eq_false_iff.mpr c33
           subst c33
           have H1:(landdv_may.j4 kj25 a0 l1 l1 (l1.length:Int) x13_1 true) = some r:=by rw [if_neg (show ¬ (false = true) by decide)] at H;exact H
           clear H
           have H:=H1
           clear H1
           have H':=Aside0.mk H
           clear H
           try go_wp2
           have n0_:=Aside0.mk (blk_drew BK324.out)
           have n1_:=Aside0.mk (below_drew1 HB.out)
           clear BK324
           clear HB
           have BK324:=n0_
           have HB:=n1_
           clear n0_ n1_
           refine start_ (n:=37) (S:=fun w' => True) (ds:=[]) #[false,false,false,false,false,false,false,false,false,false,false,false,false,false,false,false,false,false,false,false,false,false,false,false,false,false,false,false,false,false,false,false,false,false,false,false,false] (by kernel_rfl) rfl rfl trivial (fun hHeld => ?_);refine with_tabW landdv_may.tab8 landdv_may.bits8 (fun HT_ HW_ => ?_)
           generalize wc.drew = w49 at BK324 HB hHeld ⊢
           refine manyT_ (fuel:=0) (a':=?_) ((0,0) :: (1,0) :: (2,0) :: (3,1) :: (4,1) :: (5,0) :: (6,0) :: (7,1) :: (8,1) :: (9,0) :: (10,0) :: (11,1) :: (12,1) :: (13,1) :: (14,1) :: (15,0) :: (16,0) :: (17,1) :: (18,1) :: (19,1) :: (20,1) :: (21,0) :: (22,0) :: (23,1) :: (24,1) :: (25,1) :: (26,1) :: (27,1) :: (28,1) :: (29,1) :: (30,1) :: (31,1) :: (32,1) :: (33,1) :: (34,1) :: (35,1) :: (36,0) :: []) #[true,true,true,true,true,true,true,true,true,true,true,true,true,true,true,true,true,true,true,true,true,true,true,true,true,true,true,true,true,true,true,true,true,true,true,true,true] rfl HT_ (by kernel_rfl) (fun _ _ _ _ _ h => h) (fun h => absurd h (by decide)) ?_ ?_
           rotate_left
           ·repeat (first | exact Chain.nil _ | (apply Chain.on;rfl;rfl;(focus intro w';go_simp;with_reducible rfl);(focus simp only [Act.put,List.setIfInBounds_toArray,List.set_cons_zero,List.set_cons_succ,i64_w,i32_w];rfl)) | (apply Chain.off;rfl;rfl;(focus simp only [Act.put,List.setIfInBounds_toArray,List.set_cons_zero,List.set_cons_succ,i64_w,i32_w];rfl)))
           refine done_ (done_of HT_.out (by kernel_rfl)) ?_
           try go_wp2
           go_meet
           case rel => exact ⟨_,(true),(by first | rfl | (simp;done) | (simp [*];done)),H',⟨by have:=HK1.out;have:=HJ6.out;have:=HJ14.out;have:=HJ25.out;first | omega | exact Nat.le_refl _⟩,⟨by (with_reducible repeat (first | refine blk_drewN ?_ _ | refine blk_drew ?_ | refine blk_alloc ?_ _));exact BK324.out⟩,⟨by repeat (first | (with_reducible first | exact HB.out | apply below_alloc | apply pw_below_drewN | apply below_drew1 | refine below_set ?_ GE324.out) | exact HB.out)⟩⟩
          subst c33
          have H1:(if x8_6 = true then (if x9_14 = true then (if ((rd_T58 l1 x13_1).f0) = a0 then (landdv_may.j4 kj25 a0 l1 l1 (l1.length:Int) x13_1 true) else ((ident_CheckId.f ((rd_T58 l1 x13_1).f0)).bind fun t328 => (if t328 = 0 then (if x13_1 > 0 then (if 0 ≤ (wrap64 (x13_1 - 1)) then (if (wrap64 (x13_1 - 1)) < (l1.length:Int) then (landdv_may.j4 kj25 a0 l1 l1 (l1.length:Int) x13_1 (decide (((rd_T58 l1 x13_1).f0) ≤ ((rd_T58 l1 (wrap64 (x13_1 - 1))).f0)))) else (none)) else (none)) else (landdv_may.j4 kj25 a0 l1 l1 (l1.length:Int) x13_1 false)) else (landdv_may.j4 kj25 a0 l1 l1 (l1.length:Int) x13_1 true)))) else (landdv_may.j4 kj25 a0 l1 l1 (l1.length:Int) x13_1 true)) else (landdv_may.j4 kj25 a0 l1 l1 (l1.length:Int) x13_1 true)) = some r:=by rw [if_pos rfl] at H;exact H
          clear H
          have H:=H1
          clear H1
          by_cases c34:x8_6 = true
          rotate_left
          ·replace c34:=Bool.eq_false_iff.mpr c34
           subst c34
           have H1:(landdv_may.j4 kj25 a0 l1 l1 (l1.length:Int) x13_1 true) = some r:=by rw [if_neg (show ¬ (false = true) by decide)] at H;exact H
           clear H
           have H:=H1
           clear H1
           have H':=Aside0.mk H
           clear H
           try go_wp2
           have n0_:=Aside0.mk (blk_drew BK324.out)
           have n1_:=Aside0.mk (below_drew1 HB.out)
           clear BK324
           clear HB
           have BK324:=n0_
           have HB:=n1_
           clear n0_ n1_
           refine start_ (n:=37) (S:=fun w' => True) (ds:=[]) #[false,false,false,false,false,false,false,false,false,false,false,false,false,false,false,false,false,false,false,false,false,false,false,false,false,false,false,false,false,false,false,false,false,false,false,false,false] (by kernel_rfl) rfl rfl trivial (fun hHeld => ?_);refine with_tabW landdv_may.tab8 landdv_may.bits8 (fun HT_ HW_ => ?_)
           generalize wc.drew = w48 at BK324 HB hHeld ⊢
           refine manyT_ (fuel:=0) (a':=?_) ((0,0) :: (1,0) :: (2,0) :: (3,0) :: (4,0) :: (5,0) :: (6,0) :: (7,1) :: (8,1) :: (9,0) :: (10,0) :: (11,1) :: (12,1) :: (13,1) :: (14,1) :: (15,0) :: (16,0) :: (17,1) :: (18,1) :: (19,1) :: (20,1) :: (21,0) :: (22,0) :: (23,1) :: (24,1) :: (25,1) :: (26,1) :: (27,1) :: (28,1) :: (29,1) :: (30,1) :: (31,1) :: (32,1) :: (33,1) :: (34,1) :: (35,1) :: (36,0) :: []) #[true,true,true,true,true,true,true,true,true,true,true,true,true,true,true,true,true,true,true,true,true,true,true,true,true,true,true,true,true,true,true,true,true,true,true,true,true] rfl HT_ (by kernel_rfl) (fun _ _ _ _ _ h => h) (fun h => absurd h (by decide)) ?_ ?_
           rotate_left
           ·repeat (first | exact Chain.nil _ | (apply Chain.on;rfl;rfl;(focus intro w';go_simp;with_reducible rfl);(focus simp only [Act.put,List.setIfInBounds_toArray,List.set_cons_zero,List.set_cons_succ,i64_w,i32_w];rfl)) | (apply Chain.off;rfl;rfl;(focus simp only [Act.put,List.setIfInBounds_toArray,List.set_cons_zero,List.set_cons_succ,i64_w,i32_w];rfl)))
           refine done_ (done_of HT_.out (by kernel_rfl)) ?_
           try go_wp2
           go_meet
           case rel => exact ⟨_,(true),(by first | rfl | (simp;done) | (simp [*];done)),H',⟨by have:=HK1.out;have:=HJ6.out;have:=HJ14.out;have:=HJ25.out;first | omega | exact Nat.le_refl _⟩,⟨by (with_reducible repeat (first | refine blk_drewN ?_ _ | refine blk_drew ?_ | refine blk_alloc ?_ _));exact BK324.out⟩,⟨by repeat (first | (with_reducible first | exact HB.out | apply below_alloc | apply pw_below_drewN | apply below_drew1 | refine below_set ?_ GE324.out) | exact HB.out)⟩⟩
          subst c34
          have H1:(if x9_14 = true then (if ((rd_T58 l1 x13_1).f0) = a0 then (landdv_may.j4 kj25 a0 l1 l1 (l1.length:Int) x13_1 true) else ((ident_CheckId.f ((rd_T58 l1 x13_1).f0)).bind fun t328 => (if t328 = 0 then (if x13_1 > 0 then (if 0 ≤ (wrap64 (x13_1 - 1)) then (if (wrap64 (x13_1 - 1)) < (l1.length:Int) then (landdv_may.j4 kj25 a0 l1 l1 (l1.length:Int) x13_1 (decide (((rd_T58 l1 x13_1).f0) ≤ ((rd_T58 l1 (wrap64 (x13_1 - 1))).f0)))) else (none)) else (none)) else (landdv_may.j4 kj25 a0 l1 l1 (l1.length:Int) x13_1 false)) else (landdv_may.j4 kj25 a0 l1 l1 (l1.length:Int) x13_1 true)))) else (landdv_may.j4 kj25 a0 l1 l1 (l1.length:Int) x13_1 true)) = some r:=by rw [if_pos rfl] at H;exact H
          clear H
          have H:=H1
          clear H1
          by_cases c35:x9_14 = true
          rotate_left
          ·replace c35:=Bool.eq_false_iff.mpr c35
           subst c35
           have H1:(landdv_may.j4 kj25 a0 l1 l1 (l1.length:Int) x13_1 true) = some r:=by rw [if_neg (show ¬ (false = true) by decide)] at H;exact H
           clear H
           have H:=H1
           clear H1
           have H':=Aside0.mk H
           clear H
           try go_wp2
           have n0_:=Aside0.mk (blk_drew BK324.out)
           have n1_:=Aside0.mk (below_drew1 HB.out)
           clear BK324
           clear HB
           have BK324:=n0_
           have HB:=n1_
           clear n0_ n1_
           refine start_ (n:=37) (S:=fun w' => True) (ds:=[]) #[false,false,false,false,false,false,false,false,false,false,false,false,false,false,false,false,false,false,false,false,false,false,false,false,false,false,false,false,false,false,false,false,false,false,false,false,false] (by kernel_rfl) rfl rfl trivial (fun hHeld => ?_);refine with_tabW landdv_may.tab8 landdv_may.bits8 (fun HT_ HW_ => ?_)
           generalize wc.drew = w47 at BK324 HB hHeld ⊢
           refine manyT_ (fuel:=0) (a':=?_) ((0,0) :: (1,0) :: (2,0) :: (3,0) :: (4,0) :: (5,0) :: (6,0) :: (7,0) :: (8,0) :: (9,0) :: (10,0) :: (11,1) :: (12,1) :: (13,1) :: (14,1) :: (15,0) :: (16,0) :: (17,1) :: (18,1) :: (19,1) :: (20,1) :: (21,0) :: (22,0) :: (23,1) :: (24,1) :: (25,1) :: (26,1) :: (27,1) :: (28,1) :: (29,1) :: (30,1) :: (31,1) :: (32,1) :: (33,1) :: (34,1) :: (35,1) :: (36,0) :: []) #[true,true,true,true,true,true,true,true,true,true,true,true,true,true,true,true,true,true,true,true,true,true,true,true,true,true,true,true,true,true,true,true,true,true,true,true,true] rfl HT_ (by kernel_rfl) (fun _ _ _ _ _ h => h) (fun h => absurd h (by decide)) ?_ ?_
           rotate_left
           ·repeat (first | exact Chain.nil _ | (apply Chain.on;rfl;rfl;(focus intro w';go_simp;with_reducible rfl);(focus simp only [Act.put,List.setIfInBounds_toArray,List.set_cons_zero,List.set_cons_succ,i64_w,i32_w];rfl)) | (apply Chain.off;rfl;rfl;(focus simp only [Act.put,List.setIfInBounds_toArray,List.set_cons_zero,List.set_cons_succ,i64_w,i32_w];rfl)))
           refine done_ (done_of HT_.out (by kernel_rfl)) ?_
           try go_wp2
           go_meet
           case rel => exact ⟨_,(true),(by first | rfl | (simp;done) | (simp [*];done)),H',⟨by have:=HK1.out;have:=HJ6.out;have:=HJ14.out;have:=HJ25.out;first | omega | exact Nat.le_refl _⟩,⟨by (with_reducible repeat (first | refine blk_drewN ?_ _ | refine blk_drew ?_ | refine blk_alloc ?_ _));exact BK324.out⟩,⟨by repeat (first | (with_reducible first | exact HB.out | apply below_alloc | apply pw_below_drewN | apply below_drew1 | refine below_set ?_ GE324.out) | exact HB.out)⟩⟩
          subst c35
          have H1:(if ((rd_T58 l1 x13_1).f0) = a0 then (landdv_may.j4 kj25 a0 l1 l1 (l1.length:Int) x13_1 true) else ((ident_CheckId.f ((rd_T58 l1 x13_1).f0)).bind fun t328 => (if t328 = 0 then (if x13_1 > 0 then (if 0 ≤ (wrap64 (x13_1 - 1)) then (if (wrap64 (x13_1 - 1)) < (l1.length:Int) then (landdv_may.j4 kj25 a0 l1 l1 (l1.length:Int) x13_1 (decide (((rd_T58 l1 x13_1).f0) ≤ ((rd_T58 l1 (wrap64 (x13_1 - 1))).f0)))) else (none)) else (none)) else (landdv_may.j4 kj25 a0 l1 l1 (l1.length:Int) x13_1 false)) else (landdv_may.j4 kj25 a0 l1 l1 (l1.length:Int) x13_1 true)))) = some r:=by rw [if_pos rfl] at H;exact H
          clear H
          have H:=H1
          clear H1
          by_cases c36:((rd_T58 l1 x13_1).f0) = a0
          ·rw [if_pos c36] at H
           have c36b0:(((rd_T58 l1 x13_1).f0) == a0) = true:=beq_iff_eq.mpr c36
           have c36b1:(((rd_T58 l1 x13_1).f0) != a0) = false:=bne_eq_false_iff_eq.mpr c36
           clear c36
           (first | rw [c36b0] | (simp only [i64_w,i32_w];rw [c36b0]) | skip)
           have H':=Aside0.mk H
           clear H
           try go_wp2
           have n0_:=Aside0.mk (blk_drew BK324.out)
           have n1_:=Aside0.mk (below_drew1 HB.out)
           clear BK324
           clear HB
           have BK324:=n0_
           have HB:=n1_
           clear n0_ n1_
           refine start_ (n:=37) (S:=fun w' => w'.cell? ⟨gb324,0,none⟩ = some (.int .i64 ((rd_T58 l1 x13_1).f0)) ∧ w'.cell? ⟨gb324,1,none⟩ = some (.int .i64 ((rd_T58 l1 x13_1).f1)) ∧ w'.cell? ⟨gb324,2,none⟩ = some (.float .f64 ((rd_T58 l1 x13_1).f2)) ∧ w'.cell? ⟨gb324,3,none⟩ = some (.int .i64 ((rd_T58 l1 x13_1).f3)) ∧ w'.cell? ⟨gb324,4,none⟩ = some (.float .f64 ((rd_T58 l1 x13_1).f4)) ∧ w'.cell? ⟨gb324,5,none⟩ = some (.int .i64 ((rd_T58 l1 x13_1).f5))) (ds:=[]) #[false,false,false,false,false,false,false,false,false,false,false,false,false,false,false,false,false,false,false,false,false,false,false,false,false,false,false,false,false,false,false,false,false,false,false,false,false] (by kernel_rfl) rfl rfl ⟨(blk_cell BK324.out 0).trans rfl,(blk_cell BK324.out 1).trans rfl,(blk_cell BK324.out 2).trans rfl,(blk_cell BK324.out 3).trans rfl,(blk_cell BK324.out 4).trans rfl,(blk_cell BK324.out 5).trans rfl⟩ (fun hHeld => ?_);refine with_tabW landdv_may.tab8 landdv_may.bits8 (fun HT_ HW_ => ?_)
           generalize wc.drew = w37 at BK324 HB hHeld ⊢
           refine manyW_ (fuel:=0) (a':=?_) ((0,0) :: (1,0) :: (2,0) :: (3,0) :: (4,0) :: (5,0) :: (6,0) :: (7,0) :: (8,0) :: (9,0) :: (10,0) :: (11,0) :: (13,0) :: (12,2) :: (14,0) :: (15,0) :: (16,0) :: (17,1) :: (18,1) :: (19,1) :: (20,1) :: (21,0) :: (22,0) :: (23,1) :: (24,1) :: (25,1) :: (26,1) :: (27,1) :: (28,1) :: (29,1) :: (30,1) :: (31,1) :: (32,1) :: (33,1) :: (34,1) :: (35,1) :: (36,0) :: []) #[true,true,true,true,true,true,true,true,true,true,true,true,true,true,true,true,true,true,true,true,true,true,true,true,true,true,true,true,true,true,true,true,true,true,true,true,true] rfl HT_ HW_ (by kernel_rfl) (fun _ _ _ _ _ h => h) (fun _ => hHeld) ?_ ?_
           rotate_left
           ·repeat (first | exact Chain.nil _ | (apply Chain.on;rfl;rfl;(focus intro w';go_simp;with_reducible rfl);(focus simp only [Act.put,List.setIfInBounds_toArray,List.set_cons_zero,List.set_cons_succ,i64_w,i32_w];rfl)) | (apply Chain.take;rfl;rfl;(focus rintro w' ⟨s0,s1,s2,s3,s4,s5⟩;go_simp;with_reducible rfl);(focus simp only [Act.put,List.setIfInBounds_toArray,List.set_cons_zero,List.set_cons_succ,i64_w,i32_w];rfl)) | (apply Chain.off;rfl;rfl;(focus simp only [Act.put,List.setIfInBounds_toArray,List.set_cons_zero,List.set_cons_succ,i64_w,i32_w];rfl)))
           refine done_ (done_of HT_.out (by kernel_rfl)) ?_
           try go_wp2
           go_meet
           case rel => exact ⟨_,(true),(by first | rfl | (simp;done) | (simp [*];done)),H',⟨by have:=HK1.out;have:=HJ6.out;have:=HJ14.out;have:=HJ25.out;first | omega | exact Nat.le_refl _⟩,⟨by (with_reducible repeat (first | refine blk_drewN ?_ _ | refine blk_drew ?_ | refine blk_alloc ?_ _));exact BK324.out⟩,⟨by repeat (first | (with_reducible first | exact HB.out | apply below_alloc | apply pw_below_drewN | apply below_drew1 | refine below_set ?_ GE324.out) | exact HB.out)⟩⟩
          rw [if_neg c36] at H
          have c36b0:(((rd_T58 l1 x13_1).f0) == a0) = false:=beq_eq_false_iff_ne.mpr c36
          have c36b1:(((rd_T58 l1 x13_1).f0) != a0) = true:=bne_iff_ne.mpr c36
          (first | rw [c36b0] | (simp only [i64_w,i32_w];rw [c36b0]) | skip)
          replace H:=Option.bind_eq_some_iff.mp H
          obtain ⟨t328,A380,H⟩:=H
          replace H:(if t328 = 0 then (if x13_1 > 0 then (if 0 ≤ (wrap64 (x13_1 - 1)) then (if (wrap64 (x13_1 - 1)) < (l1.length:Int) then (landdv_may.j4 kj25 a0 l1 l1 (l1.length:Int) x13_1 (decide (((rd_T58 l1 x13_1).f0) ≤ ((rd_T58 l1 (wrap64 (x13_1 - 1))).f0)))) else (none)) else (none)) else (landdv_may.j4 kj25 a0 l1 l1 (l1.length:Int) x13_1 false)) else (landdv_may.j4 kj25 a0 l1 l1 (l1.length:Int) x13_1 true)) = some r:=H
          have A38:=Aside0.mk A380
          clear A380
          by_cases c39:t328 = 0
          rotate_left
          ·rw [if_neg c39] at H
           have c39b0:(t328 == 0) = false:=beq_eq_false_iff_ne.mpr c39
           have c39b1:(t328 != 0) = true:=bne_iff_ne.mpr c39
           have H':=Aside0.mk H
           clear H
           try go_wp2
           have n0_:=Aside0.mk (blk_drew BK324.out)
           have n1_:=Aside0.mk (below_drew1 HB.out)
           clear BK324
           clear HB
           have BK324:=n0_
           have HB:=n1_
           clear n0_ n1_
           refine start_ (n:=37) (S:=fun w' => w'.cell? ⟨gb324,0,none⟩ = some (.int .i64 ((rd_T58 l1 x13_1).f0)) ∧ w'.cell? ⟨gb324,1,none⟩ = some (.int .i64 ((rd_T58 l1 x13_1).f1)) ∧ w'.cell? ⟨gb324,2,none⟩ = some (.float .f64 ((rd_T58 l1 x13_1).f2)) ∧ w'.cell? ⟨gb324,3,none⟩ = some (.int .i64 ((rd_T58 l1 x13_1).f3)) ∧ w'.cell? ⟨gb324,4,none⟩ = some (.float .f64 ((rd_T58 l1 x13_1).f4)) ∧ w'.cell? ⟨gb324,5,none⟩ = some (.int .i64 ((rd_T58 l1 x13_1).f5))) (ds:=[]) #[false,false,false,false,false,false,false,false,false,false,false,false,false,false,false,false,false,false,false,false,false,false,false,false,false,false,false,false,false,false,false,false,false,false,false,false,false] (by kernel_rfl) rfl rfl ⟨(blk_cell BK324.out 0).trans rfl,(blk_cell BK324.out 1).trans rfl,(blk_cell BK324.out 2).trans rfl,(blk_cell BK324.out 3).trans rfl,(blk_cell BK324.out 4).trans rfl,(blk_cell BK324.out 5).trans rfl⟩ (fun hHeld => ?_);refine with_tabW landdv_may.tab8 landdv_may.bits8 (fun HT_ HW_ => ?_)
           generalize wc.drew = w46 at BK324 HB hHeld ⊢
           refine manyW_ (fuel:=18) (a':=?_) ((0,0) :: (1,0) :: (2,0) :: (3,0) :: (4,0) :: (5,0) :: (6,0) :: (7,0) :: (8,0) :: (9,0) :: (10,0) :: (11,0) :: (13,0) :: (12,2) :: (14,0) :: (15,0) :: (16,0) :: (17,0) :: (18,2) :: []) #[true,true,true,true,true,true,true,true,true,true,true,true,true,true,true,true,true,true,true,false,false,false,false,false,false,false,false,false,false,false,false,false,false,false,false,false,false] rfl HT_ HW_ (by kernel_rfl) (fun _ _ _ _ _ h => h) (fun _ => hHeld) ?_ ?_
           rotate_left
           ·repeat (first | exact Chain.nil _ | (apply Chain.on;rfl;rfl;(focus intro w';go_simp;with_reducible rfl);(focus simp only [Act.put,List.setIfInBounds_toArray,List.set_cons_zero,List.set_cons_succ,i64_w,i32_w];rfl)) | (apply Chain.take;rfl;rfl;(focus rintro w' ⟨s0,s1,s2,s3,s4,s5⟩;go_simp;with_reducible rfl);(focus simp only [Act.put,List.setIfInBounds_toArray,List.set_cons_zero,List.set_cons_succ,i64_w,i32_w];rfl)))
           refine one_ (i:=19) (N:=some 82) #[true,true,true,true,true,true,true,true,true,true,true,true,true,true,true,true,true,true,true,true,false,false,false,false,false,false,false,false,false,false,false,false,false,false,false,false,false] rfl rfl (one_of HT_.out (by kernel_rfl)) (by decide) (fun K hK => ?_)
           refine goes_ Try.func49 (by kernel_rfl) rfl #[.int .i64 ((rd_T58 l1 x13_1).f0)] (by rfl) rfl rfl (by (try simp only [List.map_toArray,List.map_cons,List.map_nil]);first | done | rfl | (simp only [List.length_drop,List.length_take];rfl)) ?_
           with_reducible refine (ident_CheckId.calls ((rd_T58 l1 x13_1).f0) t328 _ A38.out).mono ?_
           rintro e w' ⟨rfl,⟨nd,rfl⟩⟩
           refine ⟨_,rfl,?_⟩
           refine hK.out _ _ ⟨(blk_cell BK324.out 0).trans rfl,(blk_cell BK324.out 1).trans rfl,(blk_cell BK324.out 2).trans rfl,(blk_cell BK324.out 3).trans rfl,(blk_cell BK324.out 4).trans rfl,(blk_cell BK324.out 5).trans rfl⟩ (fun hHeld => ?_)
           clear hK K
           refine norm_ (a':=?_) ?_ ?_
           rotate_left
           ·show Act.put _ (some 82) _ = _
            simp only [Act.put,List.setIfInBounds_toArray,List.set_cons_zero,List.set_cons_succ,i64_w,i32_w]
            rfl
           refine manyT_ (fuel:=0) (a':=?_) ((20,0) :: (21,0) :: (22,0) :: (23,1) :: (24,1) :: (25,1) :: (26,1) :: (27,1) :: (28,1) :: (29,1) :: (30,1) :: (31,1) :: (32,1) :: (33,1) :: (34,1) :: (35,1) :: (36,0) :: []) #[true,true,true,true,true,true,true,true,true,true,true,true,true,true,true,true,true,true,true,true,true,true,true,true,true,true,true,true,true,true,true,true,true,true,true,true,true] rfl HT_ (by kernel_rfl) (fun _ _ _ _ _ h => h) (fun h => absurd h (by decide)) ?_ ?_
           rotate_left
           ·repeat (first | exact Chain.nil _ | (apply Chain.on;rfl;rfl;(focus intro w';go_simp;with_reducible rfl);(focus simp only [Act.put,List.setIfInBounds_toArray,List.set_cons_zero,List.set_cons_succ,i64_w,i32_w];rfl)) | (apply Chain.off;rfl;rfl;(focus simp only [Act.put,List.setIfInBounds_toArray,List.set_cons_zero,List.set_cons_succ,i64_w,i32_w];rfl)))
           refine done_ (done_of HT_.out (by kernel_rfl)) ?_
           try go_wp2
           go_meet
           case rel => exact ⟨_,(true),(by first | rfl | (simp;done) | (simp [*];done)),H',⟨by have:=HK1.out;have:=HJ6.out;have:=HJ14.out;have:=HJ25.out;first | omega | exact Nat.le_refl _⟩,⟨by (with_reducible repeat (first | refine blk_drewN ?_ _ | refine blk_drew ?_ | refine blk_alloc ?_ _));exact BK324.out⟩,⟨by repeat (first | (with_reducible first | exact HB.out | apply below_alloc | apply pw_below_drewN | apply below_drew1 | refine below_set ?_ GE324.out) | exact HB.out)⟩⟩
          rw [if_pos c39] at H
          have c39b0:(t328 == 0) = true:=beq_iff_eq.mpr c39
          have c39b1:(t328 != 0) = false:=bne_eq_false_iff_eq.mpr c39
          clear c39
          by_cases c40:x13_1 > 0
          rotate_left
          ·rw [if_neg c40] at H
           have c40b0:decide (0 < x13_1) = false:=decide_eq_false c40
           clear c40
           have H':=Aside0.mk H
           clear H
           try go_wp2
           have n0_:=Aside0.mk (blk_drew BK324.out)
           have n1_:=Aside0.mk (below_drew1 HB.out)
           clear BK324
           clear HB
           have BK324:=n0_
           have HB:=n1_
           clear n0_ n1_
           refine start_ (n:=37) (S:=fun w' => w'.cell? ⟨gb324,0,none⟩ = some (.int .i64 ((rd_T58 l1 x13_1).f0)) ∧ w'.cell? ⟨gb324,1,none⟩ = some (.int .i64 ((rd_T58 l1 x13_1).f1)) ∧ w'.cell? ⟨gb324,2,none⟩ = some (.float .f64 ((rd_T58 l1 x13_1).f2)) ∧ w'.cell? ⟨gb324,3,none⟩ = some (.int .i64 ((rd_T58 l1 x13_1).f3)) ∧ w'.cell? ⟨gb324,4,none⟩ = some (.float .f64 ((rd_T58 l1 x13_1).f4)) ∧ w'.cell? ⟨gb324,5,none⟩ = some (.int .i64 ((rd_T58 l1 x13_1).f5))) (ds:=[]) #[false,false,false,false,false,false,false,false,false,false,false,false,false,false,false,false,false,false,false,false,false,false,false,false,false,false,false,false,false,false,false,false,false,false,false,false,false] (by kernel_rfl) rfl rfl ⟨(blk_cell BK324.out 0).trans rfl,(blk_cell BK324.out 1).trans rfl,(blk_cell BK324.out 2).trans rfl,(blk_cell BK324.out 3).trans rfl,(blk_cell BK324.out 4).trans rfl,(blk_cell BK324.out 5).trans rfl⟩ (fun hHeld => ?_);refine with_tabW landdv_may.tab8 landdv_may.bits8 (fun HT_ HW_ => ?_)
           generalize wc.drew = w45 at BK324 HB hHeld ⊢
           refine manyW_ (fuel:=18) (a':=?_) ((0,0) :: (1,0) :: (2,0) :: (3,0) :: (4,0) :: (5,0) :: (6,0) :: (7,0) :: (8,0) :: (9,0) :: (10,0) :: (11,0) :: (13,0) :: (12,2) :: (14,0) :: (15,0) :: (16,0) :: (17,0) :: (18,2) :: []) #[true,true,true,true,true,true,true,true,true,true,true,true,true,true,true,true,true,true,true,false,false,false,false,false,false,false,false,false,false,false,false,false,false,false,false,false,false] rfl HT_ HW_ (by kernel_rfl) (fun _ _ _ _ _ h => h) (fun _ => hHeld) ?_ ?_
           rotate_left
           ·repeat (first | exact Chain.nil _ | (apply Chain.on;rfl;rfl;(focus intro w';go_simp;with_reducible rfl);(focus simp only [Act.put,List.setIfInBounds_toArray,List.set_cons_zero,List.set_cons_succ,i64_w,i32_w];rfl)) | (apply Chain.take;rfl;rfl;(focus rintro w' ⟨s0,s1,s2,s3,s4,s5⟩;go_simp;with_reducible rfl);(focus simp only [Act.put,List.setIfInBounds_toArray,List.set_cons_zero,List.set_cons_succ,i64_w,i32_w];rfl)))
           refine one_ (i:=19) (N:=some 82) #[true,true,true,true,true,true,true,true,true,true,true,true,true,true,true,true,true,true,true,true,false,false,false,false,false,false,false,false,false,false,false,false,false,false,false,false,false] rfl rfl (one_of HT_.out (by kernel_rfl)) (by decide) (fun K hK => ?_)
           refine goes_ Try.func49 (by kernel_rfl) rfl #[.int .i64 ((rd_T58 l1 x13_1).f0)] (by rfl) rfl rfl (by (try simp only [List.map_toArray,List.map_cons,List.map_nil]);first | done | rfl | (simp only [List.length_drop,List.length_take];rfl)) ?_
           with_reducible refine (ident_CheckId.calls ((rd_T58 l1 x13_1).f0) t328 _ A38.out).mono ?_
           rintro e w' ⟨rfl,⟨nd,rfl⟩⟩
           refine ⟨_,rfl,?_⟩
           refine hK.out _ _ ⟨(blk_cell BK324.out 0).trans rfl,(blk_cell BK324.out 1).trans rfl,(blk_cell BK324.out 2).trans rfl,(blk_cell BK324.out 3).trans rfl,(blk_cell BK324.out 4).trans rfl,(blk_cell BK324.out 5).trans rfl⟩ (fun hHeld => ?_)
           clear hK K
           refine norm_ (a':=?_) ?_ ?_
           rotate_left
           ·show Act.put _ (some 82) _ = _
            simp only [Act.put,List.setIfInBounds_toArray,List.set_cons_zero,List.set_cons_succ,i64_w,i32_w]
            rfl
           refine manyT_ (fuel:=0) (a':=?_) ((20,0) :: (21,0) :: (22,0) :: (23,0) :: (24,0) :: (25,0) :: (26,1) :: (27,1) :: (28,1) :: (29,1) :: (30,1) :: (31,1) :: (32,1) :: (33,1) :: (34,1) :: (35,0) :: (36,0) :: []) #[true,true,true,true,true,true,true,true,true,true,true,true,true,true,true,true,true,true,true,true,true,true,true,true,true,true,true,true,true,true,true,true,true,true,true,true,true] rfl HT_ (by kernel_rfl) (fun _ _ _ _ _ h => h) (fun h => absurd h (by decide)) ?_ ?_
           rotate_left
           ·repeat (first | exact Chain.nil _ | (apply Chain.on;rfl;rfl;(focus intro w';go_simp;with_reducible rfl);(focus simp only [Act.put,List.setIfInBounds_toArray,List.set_cons_zero,List.set_cons_succ,i64_w,i32_w];rfl)) | (apply Chain.off;rfl;rfl;(focus simp only [Act.put,List.setIfInBounds_toArray,List.set_cons_zero,List.set_cons_succ,i64_w,i32_w];rfl)))
           refine done_ (done_of HT_.out (by kernel_rfl)) ?_
           try go_wp2
           go_meet
           case rel => exact ⟨_,(false),(by first | rfl | (simp;done) | (simp [*];done)),H',⟨by have:=HK1.out;have:=HJ6.out;have:=HJ14.out;have:=HJ25.out;first | omega | exact Nat.le_refl _⟩,⟨by (with_reducible repeat (first | refine blk_drewN ?_ _ | refine blk_drew ?_ | refine blk_alloc ?_ _));exact BK324.out⟩,⟨by repeat (first | (with_reducible first | exact HB.out | apply below_alloc | apply pw_below_drewN | apply below_drew1 | refine below_set ?_ GE324.out) | exact HB.out)⟩⟩
          rw [if_pos c40] at H
          have c40b0:decide (0 < x13_1) = true:=decide_eq_true c40
          clear c40
          obtain ⟨ji41,hji41⟩:∃ j_:Int,(wrap64 (x13_1 - 1)) = j_:=⟨_,rfl⟩
          replace H:(if 0 ≤ (ji41) then (if (ji41) < (l1.length:Int) then (landdv_may.j4 kj25 a0 l1 l1 (l1.length:Int) x13_1 (decide (((rd_T58 l1 x13_1).f0) ≤ ((rd_T58 l1 (ji41)).f0)))) else (none)) else (none)) = some r:=by first | (rw [hji41] at H;exact H) | (simp only [hji41] at H ⊢;exact H)
          (try rw [hji41] at A38)
          have hji41w:(IntKind.i64.wrap (x13_1 - 1)) = ji41:=(i64_w _).trans hji41
          by_cases c42:0 ≤ (ji41)
          rotate_left
          ·rw [if_neg c42] at H
           exact absurd H (by simp)
          rw [if_pos c42] at H
          have c42b0:decide (0 ≤ (ji41)) = true:=decide_eq_true c42
          clear c42
          by_cases c43:(ji41) < (l1.length:Int)
          rotate_left
          ·rw [if_neg c43] at H
           exact absurd H (by simp)
          rw [if_pos c43] at H
          have c43b0:decide ((ji41) < (l1.length:Int)) = true:=decide_eq_true c43
          clear c43
          have H':=Aside0.mk H
          clear H
          try go_wp2
          have n0_:=Aside0.mk (blk_drew BK324.out)
          have n1_:=Aside0.mk (below_drew1 HB.out)
          clear BK324
          clear HB
          have BK324:=n0_
          have HB:=n1_
          clear n0_ n1_
          have p329:0 ≤ ((ji41):Int):=of_decide_eq_true (by first | (with_reducible assumption) | assumption)
          have q329:(ji41) < (l1.length:Int):=of_decide_eq_true (by first | (with_reducible assumption) | assumption)
          obtain ⟨ad329,e329,hx329_0,hx329_1,hx329_2,hx329_3,hx329_4,hx329_5⟩:=at_T58 HR1.out (ji41) p329 q329
          have hw329_5:=hx329_5
          have hw329_4:=hx329_4
          have hw329_3:=hx329_3
          have hw329_2:=hx329_2
          have hw329_1:=hx329_1
          have hw329_0:=hx329_0
          obtain rfl:ad323 = ad329:=(by injection e329)
          replace hx329_0:=(HB.out.cell (World.block_lt_of_cell? w _ hx329_0)).trans hx329_0
          replace hx329_1:=(HB.out.cell (World.block_lt_of_cell? w _ hx329_1)).trans hx329_1
          replace hx329_2:=(HB.out.cell (World.block_lt_of_cell? w _ hx329_2)).trans hx329_2
          replace hx329_3:=(HB.out.cell (World.block_lt_of_cell? w _ hx329_3)).trans hx329_3
          replace hx329_4:=(HB.out.cell (World.block_lt_of_cell? w _ hx329_4)).trans hx329_4
          replace hx329_5:=(HB.out.cell (World.block_lt_of_cell? w _ hx329_5)).trans hx329_5
          replace p329:=eq_true p329
          replace q329:=eq_true q329
          refine start_ (n:=37) (S:=fun w' => w'.cell? ⟨gb324,0,none⟩ = some (.int .i64 ((rd_T58 l1 x13_1).f0)) ∧ w'.cell? ⟨gb324,1,none⟩ = some (.int .i64 ((rd_T58 l1 x13_1).f1)) ∧ w'.cell? ⟨gb324,2,none⟩ = some (.float .f64 ((rd_T58 l1 x13_1).f2)) ∧ w'.cell? ⟨gb324,3,none⟩ = some (.int .i64 ((rd_T58 l1 x13_1).f3)) ∧ w'.cell? ⟨gb324,4,none⟩ = some (.float .f64 ((rd_T58 l1 x13_1).f4)) ∧ w'.cell? ⟨gb324,5,none⟩ = some (.int .i64 ((rd_T58 l1 x13_1).f5)) ∧ w'.cell? (ad323.add (((ji41)).toNat * 6)) = some (.int .i64 ((rd_T58 l1 (ji41)).f0)) ∧ w'.cell? ⟨(ad323.add (((ji41)).toNat * 6)).block,(ad323.add (((ji41)).toNat * 6)).off + 1,none⟩ = some (.int .i64 ((rd_T58 l1 (ji41)).f1)) ∧ w'.cell? ⟨(ad323.add (((ji41)).toNat * 6)).block,(ad323.add (((ji41)).toNat * 6)).off + 2,none⟩ = some (.float .f64 ((rd_T58 l1 (ji41)).f2)) ∧ w'.cell? ⟨(ad323.add (((ji41)).toNat * 6)).block,(ad323.add (((ji41)).toNat * 6)).off + 3,none⟩ = some (.int .i64 ((rd_T58 l1 (ji41)).f3)) ∧ w'.cell? ⟨(ad323.add (((ji41)).toNat * 6)).block,(ad323.add (((ji41)).toNat * 6)).off + 4,none⟩ = some (.float .f64 ((rd_T58 l1 (ji41)).f4)) ∧ w'.cell? ⟨(ad323.add (((ji41)).toNat * 6)).block,(ad323.add (((ji41)).toNat * 6)).off + 5,none⟩ = some (.int .i64 ((rd_T58 l1 (ji41)).f5))) (ds:=[]) #[false,false,false,false,false,false,false,false,false,false,false,false,false,false,false,false,false,false,false,false,false,false,false,false,false,false,false,false,false,false,false,false,false,false,false,false,false] (by kernel_rfl) rfl rfl ⟨(blk_cell BK324.out 0).trans rfl,(blk_cell BK324.out 1).trans rfl,(blk_cell BK324.out 2).trans rfl,(blk_cell BK324.out 3).trans rfl,(blk_cell BK324.out 4).trans rfl,(blk_cell BK324.out 5).trans rfl,((HB.out.cell (World.block_lt_of_cell? w _ hw329_0)).trans hw329_0),((HB.out.cell (World.block_lt_of_cell? w _ hw329_1)).trans hw329_1),((HB.out.cell (World.block_lt_of_cell? w _ hw329_2)).trans hw329_2),((HB.out.cell (World.block_lt_of_cell? w _ hw329_3)).trans hw329_3),((HB.out.cell (World.block_lt_of_cell? w _ hw329_4)).trans hw329_4),((HB.out.cell (World.block_lt_of_cell? w _ hw329_5)).trans hw329_5)⟩ (fun hHeld => ?_);refine with_tabW landdv_may.tab8 landdv_may.bits8 (fun HT_ HW_ => ?_)
          generalize wc.drew = w44 at BK324 HB hx329_0 hx329_1 hx329_2 hx329_3 hx329_4 hx329_5 hHeld ⊢
          refine manyW_ (fuel:=18) (a':=?_) ((0,0) :: (1,0) :: (2,0) :: (3,0) :: (4,0) :: (5,0) :: (6,0) :: (7,0) :: (8,0) :: (9,0) :: (10,0) :: (11,0) :: (13,0) :: (12,2) :: (14,0) :: (15,0) :: (16,0) :: (17,0) :: (18,2) :: []) #[true,true,true,true,true,true,true,true,true,true,true,true,true,true,true,true,true,true,true,false,false,false,false,false,false,false,false,false,false,false,false,false,false,false,false,false,false] rfl HT_ HW_ (by kernel_rfl) (fun _ _ _ _ _ h => h) (fun _ => hHeld) ?_ ?_
          rotate_left
          ·repeat (first | exact Chain.nil _ | (apply Chain.on;rfl;rfl;(focus intro w';go_simp;with_reducible rfl);(focus simp only [Act.put,List.setIfInBounds_toArray,List.set_cons_zero,List.set_cons_succ,i64_w,i32_w];rfl)) | (apply Chain.take;rfl;rfl;(focus rintro w' ⟨s0,s1,s2,s3,s4,s5,s6,s7,s8,s9,s10,s11⟩;go_simp;with_reducible rfl);(focus simp only [Act.put,List.setIfInBounds_toArray,List.set_cons_zero,List.set_cons_succ,i64_w,i32_w];rfl)))
          refine one_ (i:=19) (N:=some 82) #[true,true,true,true,true,true,true,true,true,true,true,true,true,true,true,true,true,true,true,true,false,false,false,false,false,false,false,false,false,false,false,false,false,false,false,false,false] rfl rfl (one_of HT_.out (by kernel_rfl)) (by decide) (fun K hK => ?_)
          refine goes_ Try.func49 (by kernel_rfl) rfl #[.int .i64 ((rd_T58 l1 x13_1).f0)] (by rfl) rfl rfl (by (try simp only [List.map_toArray,List.map_cons,List.map_nil]);first | done | rfl | (simp only [List.length_drop,List.length_take];rfl)) ?_
          with_reducible refine (ident_CheckId.calls ((rd_T58 l1 x13_1).f0) t328 _ A38.out).mono ?_
          rintro e w' ⟨rfl,⟨nd,rfl⟩⟩
          refine ⟨_,rfl,?_⟩
          refine hK.out _ _ ⟨(blk_cell BK324.out 0).trans rfl,(blk_cell BK324.out 1).trans rfl,(blk_cell BK324.out 2).trans rfl,(blk_cell BK324.out 3).trans rfl,(blk_cell BK324.out 4).trans rfl,(blk_cell BK324.out 5).trans rfl,((HB.out.cell (World.block_lt_of_cell? w _ hw329_0)).trans hw329_0),((HB.out.cell (World.block_lt_of_cell? w _ hw329_1)).trans hw329_1),((HB.out.cell (World.block_lt_of_cell? w _ hw329_2)).trans hw329_2),((HB.out.cell (World.block_lt_of_cell? w _ hw329_3)).trans hw329_3),((HB.out.cell (World.block_lt_of_cell? w _ hw329_4)).trans hw329_4),((HB.out.cell (World.block_lt_of_cell? w _ hw329_5)).trans hw329_5)⟩ (fun hHeld => ?_)
          clear hK K
          refine norm_ (a':=?_) ?_ ?_
          rotate_left
          ·show Act.put _ (some 82) _ = _
           simp only [Act.put,List.setIfInBounds_toArray,List.set_cons_zero,List.set_cons_succ,i64_w,i32_w]
           rfl
          refine manyW_ (fuel:=0) (a':=?_) ((20,0) :: (21,0) :: (22,0) :: (23,0) :: (24,0) :: (25,0) :: (26,0) :: (28,0) :: (29,0) :: (30,0) :: (31,0) :: (32,0) :: (27,2) :: (33,2) :: (34,0) :: (35,0) :: (36,0) :: []) #[true,true,true,true,true,true,true,true,true,true,true,true,true,true,true,true,true,true,true,true,true,true,true,true,true,true,true,true,true,true,true,true,true,true,true,true,true] rfl HT_ HW_ (by kernel_rfl) (fun _ _ _ _ _ h => h) (fun _ => hHeld) ?_ ?_
          rotate_left
          ·repeat (first | exact Chain.nil _ | (apply Chain.on;rfl;rfl;(focus intro w';go_simp;with_reducible rfl);(focus simp only [Act.put,List.setIfInBounds_toArray,List.set_cons_zero,List.set_cons_succ,i64_w,i32_w];rfl)) | (apply Chain.take;rfl;rfl;(focus rintro w' ⟨s0,s1,s2,s3,s4,s5,s6,s7,s8,s9,s10,s11⟩;go_simp;with_reducible rfl);(focus simp only [Act.put,List.setIfInBounds_toArray,List.set_cons_zero,List.set_cons_succ,i64_w,i32_w];rfl)))
          refine done_ (done_of HT_.out (by kernel_rfl)) ?_
          try go_wp2
          go_meet
          case rel => exact ⟨_,(decide (((rd_T58 l1 x13_1).f0) ≤ ((rd_T58 l1 (ji41)).f0))),(by first | rfl | (simp;done) | (simp only [← hji41] <;> (first | rfl | simp)) | (simp [*];done)),H',⟨by have:=HK1.out;have:=HJ6.out;have:=HJ14.out;have:=HJ25.out;first | omega | exact Nat.le_refl _⟩,⟨by (with_reducible repeat (first | refine blk_drewN ?_ _ | refine blk_drew ?_ | refine blk_alloc ?_ _));exact BK324.out⟩,⟨by repeat (first | (with_reducible first | exact HB.out | apply below_alloc | apply pw_below_drewN | apply below_drew1 | refine below_set ?_ GE324.out) | exact HB.out)⟩⟩
         case rest =>
          clear HC32
          obtain ⟨kq,x99_31,rfl,HA,HJ31,BK324,HB⟩:=hcut
          cases kq with
          | zero => exact absurd HA.out (by simp [landdv_may.j4])
          | succ kj31 =>
           have H:=HA.out
           clear HA
           simp only [landdv_may.j4] at H
           by_cases c50:x99_31 = true
           ·subst c50
            have H1:(some false) = some r:=by rw [if_pos rfl] at H;exact H
            clear H
            have H:=H1
            clear H1
            obtain rfl:=Option.some.inj H
            go_wp2
            go_ret
            exact ⟨by first | rfl | (simp [errW_none,errW_some] <;> rfl) | (simp [*,errW_none,errW_some] <;> rfl),by repeat (first | (with_reducible first | exact HB.out | apply below_alloc | apply pw_below_drewN | apply below_drew1 | refine below_set ?_ GE324.out) | exact HB.out)⟩
           replace c50:=Bool.eq_false_iff.mpr c50
           subst c50
           have H1:(landdv_may.l0 kj31 a0 l1 l1 (l1.length:Int) (wrap64 (x13_1 + 1))) = some r:=by rw [if_neg (show ¬ (false = true) by decide)] at H;exact H
           clear H
           have H:=H1
           clear H1
           have H':=Aside0.mk H
           clear H
           go_wp2
           go_roundg kj31
           case measure => have:=HK1.out;have:=HJ6.out;have:=HJ14.out;have:=HJ25.out;have:=HJ31.out;omega
           case rel => exact ⟨(wrap64 (x13_1 + 1)),(by first | rfl | (simp;done) | (simp [*];done)),H',⟨by have:=HK1.out;have:=HJ6.out;have:=HJ14.out;have:=HJ25.out;have:=HJ31.out;omega⟩,⟨by repeat (first | (with_reducible first | exact HB.out | apply below_alloc | apply pw_below_drewN | apply below_drew1 | refine below_set ?_ GE324.out) | exact HB.out)⟩⟩
end Go.Proofs.Ytjcnmpkaiopihaa.PA
