/- Printed by a program of this session (wip/tools/patch_print.py and pr.py, over the kit's print): each Go function as a plain Lean function, and that the Go code comes to just its answers. Conditions: those that each theorem names. -/
import Derived.Test.YtjcnmpkaiopihaaZmMn
import Derived.Test.YtjcnmpkaiopihaaZmPAx0
import Derived.Test.YtjcnmpkaiopihaaZmPAx17
import Derived.Test.YtjcnmpkaiopihaaZmPAx26
import Derived.Test.YtjcnmpkaiopihaaZmHf
namespace Go.Proofs.Ytjcnmpkaiopihaa.PA
open Go.RowKit Go.Proofs.YtjcnmpkaiopihaaW.PrintWords Go.Proofs.YtjcnmpkaiopihaaW.PrintLast Go.Proofs.YtjcnmpkaiopihaaW.PrintMore
attribute [local go_sem] max2_int min2_int max_two min_two max_three min_three max_four min_four
set_option linter.unusedVariables false
set_option linter.unusedSimpArgs false
mutual
noncomputable def landdv_Check.l0:Nat → Int → List (S54) → List (S54) → Int → Int → Option (Int)
 | 0,_,_,_,_,_ => none
 | k + 1,x0,x1,x13,x14,x15 => if x15 < x14 then (if 0 ≤ x15 then (if x15 < (x13.length:Int) then (if ((rd_T54 x13 x15).f0) = x0 then (landdv_Check.j1 k x0 x1 x13 x14 x15 true) else ((ident_CheckId.f ((rd_T54 x13 x15).f0)).bind fun t493 => (if t493 = 0 then (if x15 > 0 then (if 0 ≤ (wrap64 (x15 - 1)) then (if (wrap64 (x15 - 1)) < (x1.length:Int) then (if ((rd_T54 x13 x15).f0) ≤ ((rd_T54 x1 (wrap64 (x15 - 1))).f0) then (landdv_Check.j1 k x0 x1 x13 x14 x15 true) else ((metric_Weight.f ((rd_T54 x13 x15).f1)).bind fun t495 => (if t495 = 0 then ((landdv_list.f ((rd_T54 x13 x15).f2)).bind fun t496 => (landdv_Check.j1 k x0 x1 x13 x14 x15 (!t496))) else (landdv_Check.j1 k x0 x1 x13 x14 x15 true)))) else (none)) else (none)) else ((metric_Weight.f ((rd_T54 x13 x15).f1)).bind fun t497 => (if t497 = 0 then ((landdv_list.f ((rd_T54 x13 x15).f2)).bind fun t498 => (landdv_Check.j1 k x0 x1 x13 x14 x15 (!t498))) else (landdv_Check.j1 k x0 x1 x13 x14 x15 true)))) else (landdv_Check.j1 k x0 x1 x13 x14 x15 true)))) else (none)) else (none)) else (some 0)
noncomputable def landdv_Check.j1:Nat → Int → List (S54) → List (S54) → Int → Int → Bool → Option (Int)
 | 0,_,_,_,_,_,_ => none
 | k + 1,x0,x1,x13,x14,x15,x56 => if x56 = true then (some 1) else (landdv_Check.l0 k x0 x1 x13 x14 (wrap64 (x15 + 1)))
end
noncomputable def landdv_Check.f (k:Nat) (a0:Int) (l1:List (S54)):Option (Int):=(ident_CheckId.f a0).bind fun t490 => (if t490 = 0 then (landdv_Check.l0 k a0 l1 l1 (l1.length:Int) 0) else (some t490))
noncomputable def landdv_Check.T7:Bool × List (List Nat × List Nat):=(true,[([],[]),([0],[0]),([],[]),([1,2],[1,2]),([3],[3]),([4],[4]),([5,4],[4,5]),([6,4,4],[4,6]),([7,4],[4,7]),([4,8],[4,8]),([9,7],[9]),([10],[10]),([11,10],[10,11]),([12,10,10],[10,12]),([13],[13]),([14,13],[13,14]),([13],[13]),([13],[13]),([17,13],[13,17]),([16,18,13],[13,16,18]),([19,13],[13,19]),([20,13],[13,20]),([15,21,13],[13,15,21]),([13,22,10],[10,13,22]),([10,23],[10,23]),([24,13],[24]),([25],[25]),([26,25],[25,26]),([27,25,25],[25,27]),([28,25],[25,28]),([25,29],[25,29]),([30,28],[30]),([31],[31]),([32,31],[31,32]),([33,31,31],[31,33]),([34,31],[31,34]),([31,35],[31,35])])
noncomputable def landdv_Check.B7:List Nat:=[0,1,0,7,15,31,63,127,255,511,1023,2047,4095,8191,16383,32767,16383,16383,147455,475135,999423,2047999,4194303,8388607,16777215,33554431,67108863,134217727,268435455,536870911,1073741823,2147483647,4294967295,8589934591,17179869183,34359738367,68719476735]
theorem landdv_Check.tab7:rtab .any (opsOf Try.f17 7) = landdv_Check.T7:=by kernel_rfl
theorem landdv_Check.bits7:waitsOk landdv_Check.T7.2 landdv_Check.B7 = true:=by kernel_rfl
set_option maxHeartbeats 8000000 in
set_option maxRecDepth 100000 in
theorem landdv_Check.calls (k:Nat) (a0:Int) (A1:Option Addr) (c1:Nat) (l1:List (S54)) (r:Int) (w:World) (hr1:Kd.C k54 w A1 l1.length l1) (hc1:l1.length ≤ c1) (h:landdv_Check.f k a0 l1 = some r) :
  Calls Try.prog 17 #[.int .i64 a0,.slice A1 l1.length c1] w fun e w' => e = .returned (.int .i64 r) ∧ Below w.heap.size w w':=by
 have hu54:=Try.underlying54
 have HR1:=Aside0.mk hr1
 have HC1:=Aside0.mk hc1
 clear hr1 hc1
 have HB:=Aside0.mk (Below.refl w.heap.size w)
 have H:((ident_CheckId.f a0).bind fun t490 => (if t490 = 0 then (landdv_Check.l0 k a0 l1 l1 (l1.length:Int) 0) else (some t490))) = some r:=h
 clear h
 replace H:=Option.bind_eq_some_iff.mp H
 obtain ⟨t490,A30,H⟩:=H
 replace H:(if t490 = 0 then (landdv_Check.l0 k a0 l1 l1 (l1.length:Int) 0) else (some t490)) = some r:=H
 have A3:=Aside0.mk A30
 clear A30
 by_cases c4:t490 = 0
 rotate_left
 ·rw [if_neg c4] at H
  have c4b0:(t490 == 0) = false:=beq_eq_false_iff_ne.mpr c4
  have c4b1:(t490 != 0) = true:=bne_iff_ne.mpr c4
  obtain rfl:=Option.some.inj H
  go_enter Try.func17,Try.ntmps17
  go_wp2_with (first | ((with_reducible refine gate_callee (f:=49) rfl ?_);refine goesL_ (some 9) rfl rfl Try.func49 (by kernel_rfl) rfl #[.int .i64 a0] rfl (by (try simp only [List.map_toArray,List.map_cons,List.map_nil]);first | done | rfl | (simp only [List.length_drop,List.length_take];rfl)) ?_;(with_reducible refine (ident_CheckId.calls a0 t490 _ A3.out).mono ?_);rintro e w' ⟨rfl,⟨nd,rfl⟩⟩;refine ⟨_,rfl,?_⟩))
  go_ret
  exact ⟨by first | rfl | (simp [errW_none,errW_some] <;> rfl) | (simp [*,errW_none,errW_some] <;> rfl),by repeat (first | (with_reducible first | exact HB.out | apply below_alloc | apply pw_below_drewN | apply below_drew1) | exact HB.out)⟩
 rw [if_pos c4] at H
 have c4b0:(t490 == 0) = true:=beq_iff_eq.mpr c4
 have c4b1:(t490 != 0) = false:=bne_eq_false_iff_eq.mpr c4
 clear c4
 have H':=Aside0.mk H
 clear H
 go_enter Try.func17,Try.ntmps17
 go_wp2_with (first | ((with_reducible refine gate_callee (f:=49) rfl ?_);refine goesL_ (some 9) rfl rfl Try.func49 (by kernel_rfl) rfl #[.int .i64 a0] rfl (by (try simp only [List.map_toArray,List.map_cons,List.map_nil]);first | done | rfl | (simp only [List.length_drop,List.length_take];rfl)) ?_;(with_reducible refine (ident_CheckId.calls a0 t490 _ A3.out).mono ?_);rintro e w' ⟨rfl,⟨nd,rfl⟩⟩;refine ⟨_,rfl,?_⟩))
 go_loopg [15] k (fun kq v15 w' => ∃ (x15_1:Int),v15 = .int .i64 x15_1 ∧ Aside0 (landdv_Check.l0 kq a0 l1 l1 (l1.length:Int) x15_1 = some r) ∧ Aside0 (kq ≤ k) ∧ Aside0 (Below w.heap.size w w'))
 case atStart => exact ⟨(0),(by first | rfl | (simp;done) | (simp [*];done)),H',⟨Nat.le_refl _⟩,⟨by repeat (first | (with_reducible first | exact HB.out | apply below_alloc | apply pw_below_drewN | apply below_drew1) | exact HB.out)⟩⟩
 case round =>
  clear H'
  obtain ⟨x15_1,rfl,HA,HK1,HB⟩:=hrel
  cases gk with
  | zero => exact absurd HA.out (by simp [landdv_Check.l0])
  | succ k1 =>
   have H:=HA.out
   clear HA
   simp only [landdv_Check.l0] at H
   by_cases c5:x15_1 < (l1.length:Int)
   rotate_left
   ·rw [if_neg c5] at H
    have c5b0:decide (x15_1 < (l1.length:Int)) = false:=decide_eq_false c5
    clear c5
    obtain rfl:=Option.some.inj H
    go_wp2
    go_ret
    exact ⟨by first | rfl | (simp [errW_none,errW_some] <;> rfl) | (simp [*,errW_none,errW_some] <;> rfl),by repeat (first | (with_reducible first | exact HB.out | apply below_alloc | apply pw_below_drewN | apply below_drew1) | exact HB.out)⟩
   rw [if_pos c5] at H
   have c5b0:decide (x15_1 < (l1.length:Int)) = true:=decide_eq_true c5
   clear c5
   by_cases c6:0 ≤ x15_1
   rotate_left
   ·rw [if_neg c6] at H
    exact absurd H (by simp)
   rw [if_pos c6] at H
   have c6b0:decide (0 ≤ x15_1) = true:=decide_eq_true c6
   clear c6
   by_cases c7:x15_1 < (l1.length:Int)
   rotate_left
   ·rw [if_neg c7] at H
    exact absurd H (by simp)
   rw [if_pos c7] at H
   have c7b0:decide (x15_1 < (l1.length:Int)) = true:=decide_eq_true c7
   clear c7
   have HC8:=Aside0.mk H
   clear H
   have p491:0 ≤ (x15_1:Int):=of_decide_eq_true (by first | (with_reducible assumption) | assumption)
   have q491:x15_1 < (l1.length:Int):=of_decide_eq_true (by first | (with_reducible assumption) | assumption)
   obtain ⟨ad491,A491_2,c491_2,e491,hx491_0,hx491_1,hx491_2,hl491_2,hi491_2⟩:=at_T54 HR1.out x15_1 p491 q491
   cases e491
   replace hx491_0:=(HB.out.cell (World.block_lt_of_cell? w _ hx491_0)).trans hx491_0
   replace hx491_1:=(HB.out.cell (World.block_lt_of_cell? w _ hx491_1)).trans hx491_1
   replace hx491_2:=(HB.out.cell (World.block_lt_of_cell? w _ hx491_2)).trans hx491_2
   have HR491_2:=Aside0.mk hi491_2
   have HC491_2:=Aside0.mk hl491_2
   clear hi491_2 hl491_2
   replace p491:=eq_true p491
   replace q491:=eq_true q491
   go_upto_region 7 with (first | ((with_reducible refine gate_dst (N:=7) rfl ?_);refine box_event ?hg (N:=7) ?hd (cs:=#[.int .i64 0,.float .f64 0,.slice none 0 0]) (t:=54) ?hr ?_;(case hd => rfl);(case hg => rfl);(case hr => first | (go_simp;done) | (go_simp;rfl));intro gb492 hg w9 hbox hb;have n0_:=Aside0.mk (below_step (by repeat (first | (with_reducible first | exact HB.out | apply below_alloc | apply pw_below_drewN | apply below_drew1) | exact HB.out)) hb);have n1_:=Aside0.mk (hbox);have n2_:=Aside0.mk ((by rw [hg];exact (below_size (by repeat (first | (with_reducible first | exact HB.out | apply below_alloc | apply pw_below_drewN | apply below_drew1) | exact HB.out))):w.heap.size ≤ gb492));have n3_:=Aside0.mk ((by rw [hg];exact (below_size (by repeat (first | (with_reducible first | exact HB.out | apply below_alloc | apply pw_below_drewN | apply below_drew1) | exact HB.out))):w.heap.size ≤ gb492));clear HB;have HB:=n0_;have BK492:=n1_;have GW492:=n2_;have GE492:=n3_;clear n0_ n1_ n2_ n3_;clear hb hbox hg;have hcz10_0:w9.cell? ⟨gb492,0,none⟩ = some (.int .i64 0):=(blk_cell BK492.out 0).trans rfl;have hcz10_1:w9.cell? ⟨gb492,1,none⟩ = some (.float .f64 0):=(blk_cell BK492.out 1).trans rfl;have hcz10_2:w9.cell? ⟨gb492,2,none⟩ = some (.slice none 0 0):=(blk_cell BK492.out 2).trans rfl;have hfz10_0:=blk_frozen BK492.out 0;have hfz10_1:=blk_frozen BK492.out 1;have hfz10_2:=blk_frozen BK492.out 2))
   (try simp only [Act.put,List.setIfInBounds_toArray,List.set_cons_zero,List.set_cons_succ])
   go_cut [56] (fun v56 wc => ∃ (kq:Nat) (x56_7:Bool),v56 = .bool x56_7 ∧ Aside0 (landdv_Check.j1 kq a0 l1 l1 (l1.length:Int) x15_1 x56_7 = some r) ∧ Aside0 (kq ≤ k1) ∧ Aside0 (wc.heap[gb492]? = some (.cells #[.int .i64 ((rd_T54 l1 x15_1).f0),.float .f64 ((rd_T54 l1 x15_1).f1),(.slice A491_2 ((rd_T54 l1 x15_1).f2).length c491_2)] 54 (0,0))) ∧ Aside0 (Below w.heap.size w wc))
   case first =>
    have H:=HC8.out
    clear HC8
    by_cases c11:((rd_T54 l1 x15_1).f0) = a0
    ·rw [if_pos c11] at H
     have c11b0:(((rd_T54 l1 x15_1).f0) == a0) = true:=beq_iff_eq.mpr c11
     have c11b1:(((rd_T54 l1 x15_1).f0) != a0) = false:=bne_eq_false_iff_eq.mpr c11
     clear c11
     (first | rw [c11b0] | (simp only [i64_w,i32_w];rw [c11b0]) | skip)
     have H':=Aside0.mk H
     clear H
     try go_wp2
     have n0_:Aside0 ((((w9.setCell ⟨gb492,0,none⟩ (.int .i64 ((rd_T54 l1 x15_1).f0))).setCell ⟨gb492,1,none⟩ (.float .f64 ((rd_T54 l1 x15_1).f1))).setCell ⟨gb492,2,none⟩ (.slice A491_2 ((rd_T54 l1 x15_1).f2).length c491_2)).heap[gb492]? = some (.cells #[.int .i64 ((rd_T54 l1 x15_1).f0),.float .f64 ((rd_T54 l1 x15_1).f1),.slice A491_2 ((rd_T54 l1 x15_1).f2).length c491_2] 54 (0,0))):=⟨by (with_reducible repeat (first | refine blk_drewN ?_ _ | refine blk_drew ?_ | refine blk_alloc ?_ _));refine blk_put (cs:=#[.int .i64 ((rd_T54 l1 x15_1).f0),.float .f64 ((rd_T54 l1 x15_1).f1),.slice none 0 0]) ?_ 2 _ rfl;(with_reducible repeat (first | refine blk_drewN ?_ _ | refine blk_drew ?_ | refine blk_alloc ?_ _));refine blk_put (cs:=#[.int .i64 ((rd_T54 l1 x15_1).f0),.float .f64 0,.slice none 0 0]) ?_ 1 _ rfl;(with_reducible repeat (first | refine blk_drewN ?_ _ | refine blk_drew ?_ | refine blk_alloc ?_ _));refine blk_put (cs:=#[.int .i64 0,.float .f64 0,.slice none 0 0]) ?_ 0 _ rfl;(with_reducible repeat (first | refine blk_drewN ?_ _ | refine blk_drew ?_ | refine blk_alloc ?_ _));exact BK492.out⟩
     have n1_:Aside0 (Below w.heap.size w (((w9.setCell ⟨gb492,0,none⟩ (.int .i64 ((rd_T54 l1 x15_1).f0))).setCell ⟨gb492,1,none⟩ (.float .f64 ((rd_T54 l1 x15_1).f1))).setCell ⟨gb492,2,none⟩ (.slice A491_2 ((rd_T54 l1 x15_1).f2).length c491_2))):=⟨by repeat (first | (with_reducible first | exact HB.out | apply below_alloc | apply pw_below_drewN | apply below_drew1 | refine below_set ?_ GE492.out) | exact HB.out)⟩
     (try clear BK492)
     (try clear HB)
     generalize (((w9.setCell ⟨gb492,0,none⟩ (.int .i64 ((rd_T54 l1 x15_1).f0))).setCell ⟨gb492,1,none⟩ (.float .f64 ((rd_T54 l1 x15_1).f1))).setCell ⟨gb492,2,none⟩ (.slice A491_2 ((rd_T54 l1 x15_1).f2).length c491_2)) = w12 at n0_ n1_ ⊢
     have BK492:=n0_
     have HB:=n1_
     clear n0_ n1_
     have n0_:=Aside0.mk (blk_drew BK492.out)
     have n1_:=Aside0.mk (below_drew1 HB.out)
     clear BK492
     clear HB
     have BK492:=n0_
     have HB:=n1_
     clear n0_ n1_
     refine start_ (n:=37) (S:=fun w' => w'.cell? ⟨gb492,0,none⟩ = some (.int .i64 ((rd_T54 l1 x15_1).f0)) ∧ w'.cell? ⟨gb492,1,none⟩ = some (.float .f64 ((rd_T54 l1 x15_1).f1)) ∧ w'.cell? ⟨gb492,2,none⟩ = some (.slice A491_2 ((rd_T54 l1 x15_1).f2).length c491_2)) (ds:=[]) #[false,false,false,false,false,false,false,false,false,false,false,false,false,false,false,false,false,false,false,false,false,false,false,false,false,false,false,false,false,false,false,false,false,false,false,false,false] (by kernel_rfl) rfl rfl ⟨(blk_cell BK492.out 0).trans rfl,(blk_cell BK492.out 1).trans rfl,(blk_cell BK492.out 2).trans rfl⟩ (fun hHeld => ?_);refine with_tabW landdv_Check.tab7 landdv_Check.bits7 (fun HT_ HW_ => ?_)
     generalize w12.drew = w13 at BK492 HB hHeld ⊢
     refine manyW_ (fuel:=0) (a':=?_) ((0,0) :: (2,0) :: (1,2) :: (3,0) :: (4,0) :: (5,1) :: (6,1) :: (7,1) :: (8,1) :: (9,0) :: (10,0) :: (11,1) :: (12,1) :: (13,1) :: (14,1) :: (15,1) :: (16,1) :: (17,1) :: (18,1) :: (19,1) :: (20,1) :: (21,1) :: (22,1) :: (23,1) :: (24,0) :: (25,0) :: (26,1) :: (27,1) :: (28,1) :: (29,1) :: (30,0) :: (31,0) :: (32,1) :: (33,1) :: (34,1) :: (35,1) :: (36,0) :: []) #[true,true,true,true,true,true,true,true,true,true,true,true,true,true,true,true,true,true,true,true,true,true,true,true,true,true,true,true,true,true,true,true,true,true,true,true,true] rfl HT_ HW_ (by kernel_rfl) (fun _ _ _ _ _ h => h) (fun _ => hHeld) ?_ ?_
     rotate_left
     ·repeat (first | exact Chain.nil _ | (apply Chain.on;rfl;rfl;(focus intro w';go_simp;with_reducible rfl);(focus simp only [Act.put,List.setIfInBounds_toArray,List.set_cons_zero,List.set_cons_succ,i64_w,i32_w];rfl)) | (apply Chain.take;rfl;rfl;(focus rintro w' ⟨s0,s1,s2⟩;go_simp;with_reducible rfl);(focus simp only [Act.put,List.setIfInBounds_toArray,List.set_cons_zero,List.set_cons_succ,i64_w,i32_w];rfl)) | (apply Chain.off;rfl;rfl;(focus simp only [Act.put,List.setIfInBounds_toArray,List.set_cons_zero,List.set_cons_succ,i64_w,i32_w];rfl)))
     refine done_ (done_of HT_.out (by kernel_rfl)) ?_
     try go_wp2
     go_meet
     case rel => exact ⟨_,(true),(by first | rfl | (simp;done) | (simp [*];done)),H',⟨by have:=HK1.out;first | omega | exact Nat.le_refl _⟩,⟨by (with_reducible repeat (first | refine blk_drewN ?_ _ | refine blk_drew ?_ | refine blk_alloc ?_ _));exact BK492.out⟩,⟨by repeat (first | (with_reducible first | exact HB.out | apply below_alloc | apply pw_below_drewN | apply below_drew1 | refine below_set ?_ GE492.out) | exact HB.out)⟩⟩
    rw [if_neg c11] at H
    have c11b0:(((rd_T54 l1 x15_1).f0) == a0) = false:=beq_eq_false_iff_ne.mpr c11
    have c11b1:(((rd_T54 l1 x15_1).f0) != a0) = true:=bne_iff_ne.mpr c11
    (first | rw [c11b0] | (simp only [i64_w,i32_w];rw [c11b0]) | skip)
    replace H:=Option.bind_eq_some_iff.mp H
    obtain ⟨t493,A140,H⟩:=H
    replace H:(if t493 = 0 then (if x15_1 > 0 then (if 0 ≤ (wrap64 (x15_1 - 1)) then (if (wrap64 (x15_1 - 1)) < (l1.length:Int) then (if ((rd_T54 l1 x15_1).f0) ≤ ((rd_T54 l1 (wrap64 (x15_1 - 1))).f0) then (landdv_Check.j1 k1 a0 l1 l1 (l1.length:Int) x15_1 true) else ((metric_Weight.f ((rd_T54 l1 x15_1).f1)).bind fun t495 => (if t495 = 0 then ((landdv_list.f ((rd_T54 l1 x15_1).f2)).bind fun t496 => (landdv_Check.j1 k1 a0 l1 l1 (l1.length:Int) x15_1 (!t496))) else (landdv_Check.j1 k1 a0 l1 l1 (l1.length:Int) x15_1 true)))) else (none)) else (none)) else ((metric_Weight.f ((rd_T54 l1 x15_1).f1)).bind fun t497 => (if t497 = 0 then ((landdv_list.f ((rd_T54 l1 x15_1).f2)).bind fun t498 => (landdv_Check.j1 k1 a0 l1 l1 (l1.length:Int) x15_1 (!t498))) else (landdv_Check.j1 k1 a0 l1 l1 (l1.length:Int) x15_1 true)))) else (landdv_Check.j1 k1 a0 l1 l1 (l1.length:Int) x15_1 true)) = some r:=H
    have A14:=Aside0.mk A140
    clear A140
    by_cases c15:t493 = 0
    rotate_left
    ·rw [if_neg c15] at H
     have c15b0:(t493 == 0) = false:=beq_eq_false_iff_ne.mpr c15
     have c15b1:(t493 != 0) = true:=bne_iff_ne.mpr c15
     have H':=Aside0.mk H
     clear H
     try go_wp2
     have n0_:Aside0 ((((w9.setCell ⟨gb492,0,none⟩ (.int .i64 ((rd_T54 l1 x15_1).f0))).setCell ⟨gb492,1,none⟩ (.float .f64 ((rd_T54 l1 x15_1).f1))).setCell ⟨gb492,2,none⟩ (.slice A491_2 ((rd_T54 l1 x15_1).f2).length c491_2)).heap[gb492]? = some (.cells #[.int .i64 ((rd_T54 l1 x15_1).f0),.float .f64 ((rd_T54 l1 x15_1).f1),.slice A491_2 ((rd_T54 l1 x15_1).f2).length c491_2] 54 (0,0))):=⟨by (with_reducible repeat (first | refine blk_drewN ?_ _ | refine blk_drew ?_ | refine blk_alloc ?_ _));refine blk_put (cs:=#[.int .i64 ((rd_T54 l1 x15_1).f0),.float .f64 ((rd_T54 l1 x15_1).f1),.slice none 0 0]) ?_ 2 _ rfl;(with_reducible repeat (first | refine blk_drewN ?_ _ | refine blk_drew ?_ | refine blk_alloc ?_ _));refine blk_put (cs:=#[.int .i64 ((rd_T54 l1 x15_1).f0),.float .f64 0,.slice none 0 0]) ?_ 1 _ rfl;(with_reducible repeat (first | refine blk_drewN ?_ _ | refine blk_drew ?_ | refine blk_alloc ?_ _));refine blk_put (cs:=#[.int .i64 0,.float .f64 0,.slice none 0 0]) ?_ 0 _ rfl;(with_reducible repeat (first | refine blk_drewN ?_ _ | refine blk_drew ?_ | refine blk_alloc ?_ _));exact BK492.out⟩
     have n1_:Aside0 (Below w.heap.size w (((w9.setCell ⟨gb492,0,none⟩ (.int .i64 ((rd_T54 l1 x15_1).f0))).setCell ⟨gb492,1,none⟩ (.float .f64 ((rd_T54 l1 x15_1).f1))).setCell ⟨gb492,2,none⟩ (.slice A491_2 ((rd_T54 l1 x15_1).f2).length c491_2))):=⟨by repeat (first | (with_reducible first | exact HB.out | apply below_alloc | apply pw_below_drewN | apply below_drew1 | refine below_set ?_ GE492.out) | exact HB.out)⟩
     (try clear BK492)
     (try clear HB)
     generalize (((w9.setCell ⟨gb492,0,none⟩ (.int .i64 ((rd_T54 l1 x15_1).f0))).setCell ⟨gb492,1,none⟩ (.float .f64 ((rd_T54 l1 x15_1).f1))).setCell ⟨gb492,2,none⟩ (.slice A491_2 ((rd_T54 l1 x15_1).f2).length c491_2)) = w39 at n0_ n1_ ⊢
     have BK492:=n0_
     have HB:=n1_
     clear n0_ n1_
     have n0_:=Aside0.mk (blk_drew BK492.out)
     have n1_:=Aside0.mk (below_drew1 HB.out)
     clear BK492
     clear HB
     have BK492:=n0_
     have HB:=n1_
     clear n0_ n1_
     refine start_ (n:=37) (S:=fun w' => w'.cell? ⟨gb492,0,none⟩ = some (.int .i64 ((rd_T54 l1 x15_1).f0)) ∧ w'.cell? ⟨gb492,1,none⟩ = some (.float .f64 ((rd_T54 l1 x15_1).f1)) ∧ w'.cell? ⟨gb492,2,none⟩ = some (.slice A491_2 ((rd_T54 l1 x15_1).f2).length c491_2)) (ds:=[]) #[false,false,false,false,false,false,false,false,false,false,false,false,false,false,false,false,false,false,false,false,false,false,false,false,false,false,false,false,false,false,false,false,false,false,false,false,false] (by kernel_rfl) rfl rfl ⟨(blk_cell BK492.out 0).trans rfl,(blk_cell BK492.out 1).trans rfl,(blk_cell BK492.out 2).trans rfl⟩ (fun hHeld => ?_);refine with_tabW landdv_Check.tab7 landdv_Check.bits7 (fun HT_ HW_ => ?_)
     generalize w39.drew = w40 at BK492 HB hHeld ⊢
     refine manyW_ (fuel:=30) (a':=?_) ((0,0) :: (2,0) :: (1,2) :: (3,0) :: (4,0) :: (5,0) :: (6,2) :: []) #[true,true,true,true,true,true,true,false,false,false,false,false,false,false,false,false,false,false,false,false,false,false,false,false,false,false,false,false,false,false,false,false,false,false,false,false,false] rfl HT_ HW_ (by kernel_rfl) (fun _ _ _ _ _ h => h) (fun _ => hHeld) ?_ ?_
     rotate_left
     ·repeat (first | exact Chain.nil _ | (apply Chain.on;rfl;rfl;(focus intro w';go_simp;with_reducible rfl);(focus simp only [Act.put,List.setIfInBounds_toArray,List.set_cons_zero,List.set_cons_succ,i64_w,i32_w];rfl)) | (apply Chain.take;rfl;rfl;(focus rintro w' ⟨s0,s1,s2⟩;go_simp;with_reducible rfl);(focus simp only [Act.put,List.setIfInBounds_toArray,List.set_cons_zero,List.set_cons_succ,i64_w,i32_w];rfl)))
     refine one_ (i:=7) (N:=some 27) #[true,true,true,true,true,true,true,true,false,false,false,false,false,false,false,false,false,false,false,false,false,false,false,false,false,false,false,false,false,false,false,false,false,false,false,false,false] rfl rfl (one_of HT_.out (by kernel_rfl)) (by decide) (fun K hK => ?_)
     refine goes_ Try.func49 (by kernel_rfl) rfl #[.int .i64 ((rd_T54 l1 x15_1).f0)] (by rfl) rfl rfl (by (try simp only [List.map_toArray,List.map_cons,List.map_nil]);first | done | rfl | (simp only [List.length_drop,List.length_take];rfl)) ?_
     with_reducible refine (ident_CheckId.calls ((rd_T54 l1 x15_1).f0) t493 _ A14.out).mono ?_
     rintro e w' ⟨rfl,⟨nd,rfl⟩⟩
     refine ⟨_,rfl,?_⟩
     refine hK.out _ _ ⟨(blk_cell BK492.out 0).trans rfl,(blk_cell BK492.out 1).trans rfl,(blk_cell BK492.out 2).trans rfl⟩ (fun hHeld => ?_)
     clear hK K
     refine norm_ (a':=?_) ?_ ?_
     rotate_left
     ·show Act.put _ (some 27) _ = _
      simp only [Act.put,List.setIfInBounds_toArray,List.set_cons_zero,List.set_cons_succ,i64_w,i32_w]
      rfl
     refine manyT_ (fuel:=0) (a':=?_) ((8,0) :: (9,0) :: (10,0) :: (11,1) :: (12,1) :: (13,1) :: (14,1) :: (15,1) :: (16,1) :: (17,1) :: (18,1) :: (19,1) :: (20,1) :: (21,1) :: (22,1) :: (23,1) :: (24,0) :: (25,0) :: (26,1) :: (27,1) :: (28,1) :: (29,1) :: (30,0) :: (31,0) :: (32,1) :: (33,1) :: (34,1) :: (35,1) :: (36,0) :: []) #[true,true,true,true,true,true,true,true,true,true,true,true,true,true,true,true,true,true,true,true,true,true,true,true,true,true,true,true,true,true,true,true,true,true,true,true,true] rfl HT_ (by kernel_rfl) (fun _ _ _ _ _ h => h) (fun h => absurd h (by decide)) ?_ ?_
     rotate_left
     ·repeat (first | exact Chain.nil _ | (apply Chain.on;rfl;rfl;(focus intro w';go_simp;with_reducible rfl);(focus simp only [Act.put,List.setIfInBounds_toArray,List.set_cons_zero,List.set_cons_succ,i64_w,i32_w];rfl)) | (apply Chain.off;rfl;rfl;(focus simp only [Act.put,List.setIfInBounds_toArray,List.set_cons_zero,List.set_cons_succ,i64_w,i32_w];rfl)))
     refine done_ (done_of HT_.out (by kernel_rfl)) ?_
     try go_wp2
     go_meet
     case rel => exact ⟨_,(true),(by first | rfl | (simp;done) | (simp [*];done)),H',⟨by have:=HK1.out;first | omega | exact Nat.le_refl _⟩,⟨by (with_reducible repeat (first | refine blk_drewN ?_ _ | refine blk_drew ?_ | refine blk_alloc ?_ _));exact BK492.out⟩,⟨by repeat (first | (with_reducible first | exact HB.out | apply below_alloc | apply pw_below_drewN | apply below_drew1 | refine below_set ?_ GE492.out) | exact HB.out)⟩⟩
    rw [if_pos c15] at H
    have c15b0:(t493 == 0) = true:=beq_iff_eq.mpr c15
    have c15b1:(t493 != 0) = false:=bne_eq_false_iff_eq.mpr c15
    clear c15
    by_cases c16:x15_1 > 0
    rotate_left
    ·rw [if_neg c16] at H
     have c16b0:decide (0 < x15_1) = false:=decide_eq_false c16
     clear c16
     replace H:=Option.bind_eq_some_iff.mp H
     obtain ⟨t497,A310,H⟩:=H
     replace H:(if t497 = 0 then ((landdv_list.f ((rd_T54 l1 x15_1).f2)).bind fun t498 => (landdv_Check.j1 k1 a0 l1 l1 (l1.length:Int) x15_1 (!t498))) else (landdv_Check.j1 k1 a0 l1 l1 (l1.length:Int) x15_1 true)) = some r:=H
     have A31:=Aside0.mk A310
     clear A310
     by_cases c32:t497 = 0
     rotate_left
     ·rw [if_neg c32] at H
      have c32b0:(t497 == 0) = false:=beq_eq_false_iff_ne.mpr c32
      have c32b1:(t497 != 0) = true:=bne_iff_ne.mpr c32
      have H':=Aside0.mk H
      clear H
      try go_wp2
      have n0_:Aside0 ((((w9.setCell ⟨gb492,0,none⟩ (.int .i64 ((rd_T54 l1 x15_1).f0))).setCell ⟨gb492,1,none⟩ (.float .f64 ((rd_T54 l1 x15_1).f1))).setCell ⟨gb492,2,none⟩ (.slice A491_2 ((rd_T54 l1 x15_1).f2).length c491_2)).heap[gb492]? = some (.cells #[.int .i64 ((rd_T54 l1 x15_1).f0),.float .f64 ((rd_T54 l1 x15_1).f1),.slice A491_2 ((rd_T54 l1 x15_1).f2).length c491_2] 54 (0,0))):=⟨by (with_reducible repeat (first | refine blk_drewN ?_ _ | refine blk_drew ?_ | refine blk_alloc ?_ _));refine blk_put (cs:=#[.int .i64 ((rd_T54 l1 x15_1).f0),.float .f64 ((rd_T54 l1 x15_1).f1),.slice none 0 0]) ?_ 2 _ rfl;(with_reducible repeat (first | refine blk_drewN ?_ _ | refine blk_drew ?_ | refine blk_alloc ?_ _));refine blk_put (cs:=#[.int .i64 ((rd_T54 l1 x15_1).f0),.float .f64 0,.slice none 0 0]) ?_ 1 _ rfl;(with_reducible repeat (first | refine blk_drewN ?_ _ | refine blk_drew ?_ | refine blk_alloc ?_ _));refine blk_put (cs:=#[.int .i64 0,.float .f64 0,.slice none 0 0]) ?_ 0 _ rfl;(with_reducible repeat (first | refine blk_drewN ?_ _ | refine blk_drew ?_ | refine blk_alloc ?_ _));exact BK492.out⟩
      have n1_:Aside0 (Below w.heap.size w (((w9.setCell ⟨gb492,0,none⟩ (.int .i64 ((rd_T54 l1 x15_1).f0))).setCell ⟨gb492,1,none⟩ (.float .f64 ((rd_T54 l1 x15_1).f1))).setCell ⟨gb492,2,none⟩ (.slice A491_2 ((rd_T54 l1 x15_1).f2).length c491_2))):=⟨by repeat (first | (with_reducible first | exact HB.out | apply below_alloc | apply pw_below_drewN | apply below_drew1 | refine below_set ?_ GE492.out) | exact HB.out)⟩
      (try clear BK492)
      (try clear HB)
      generalize (((w9.setCell ⟨gb492,0,none⟩ (.int .i64 ((rd_T54 l1 x15_1).f0))).setCell ⟨gb492,1,none⟩ (.float .f64 ((rd_T54 l1 x15_1).f1))).setCell ⟨gb492,2,none⟩ (.slice A491_2 ((rd_T54 l1 x15_1).f2).length c491_2)) = w37 at n0_ n1_ ⊢
      have BK492:=n0_
      have HB:=n1_
      clear n0_ n1_
      have n0_:=Aside0.mk (blk_drew BK492.out)
      have n1_:=Aside0.mk (below_drew1 HB.out)
      clear BK492
      clear HB
      have BK492:=n0_
      have HB:=n1_
      clear n0_ n1_
      refine start_ (n:=37) (S:=fun w' => w'.cell? ⟨gb492,0,none⟩ = some (.int .i64 ((rd_T54 l1 x15_1).f0)) ∧ w'.cell? ⟨gb492,1,none⟩ = some (.float .f64 ((rd_T54 l1 x15_1).f1)) ∧ w'.cell? ⟨gb492,2,none⟩ = some (.slice A491_2 ((rd_T54 l1 x15_1).f2).length c491_2)) (ds:=[]) #[false,false,false,false,false,false,false,false,false,false,false,false,false,false,false,false,false,false,false,false,false,false,false,false,false,false,false,false,false,false,false,false,false,false,false,false,false] (by kernel_rfl) rfl rfl ⟨(blk_cell BK492.out 0).trans rfl,(blk_cell BK492.out 1).trans rfl,(blk_cell BK492.out 2).trans rfl⟩ (fun hHeld => ?_);refine with_tabW landdv_Check.tab7 landdv_Check.bits7 (fun HT_ HW_ => ?_)
      generalize w37.drew = w38 at BK492 HB hHeld ⊢
      refine manyW_ (fuel:=30) (a':=?_) ((0,0) :: (2,0) :: (1,2) :: (3,0) :: (4,0) :: (5,0) :: (6,2) :: []) #[true,true,true,true,true,true,true,false,false,false,false,false,false,false,false,false,false,false,false,false,false,false,false,false,false,false,false,false,false,false,false,false,false,false,false,false,false] rfl HT_ HW_ (by kernel_rfl) (fun _ _ _ _ _ h => h) (fun _ => hHeld) ?_ ?_
      rotate_left
      ·repeat (first | exact Chain.nil _ | (apply Chain.on;rfl;rfl;(focus intro w';go_simp;with_reducible rfl);(focus simp only [Act.put,List.setIfInBounds_toArray,List.set_cons_zero,List.set_cons_succ,i64_w,i32_w];rfl)) | (apply Chain.take;rfl;rfl;(focus rintro w' ⟨s0,s1,s2⟩;go_simp;with_reducible rfl);(focus simp only [Act.put,List.setIfInBounds_toArray,List.set_cons_zero,List.set_cons_succ,i64_w,i32_w];rfl)))
      refine one_ (i:=7) (N:=some 27) #[true,true,true,true,true,true,true,true,false,false,false,false,false,false,false,false,false,false,false,false,false,false,false,false,false,false,false,false,false,false,false,false,false,false,false,false,false] rfl rfl (one_of HT_.out (by kernel_rfl)) (by decide) (fun K hK => ?_)
      refine goes_ Try.func49 (by kernel_rfl) rfl #[.int .i64 ((rd_T54 l1 x15_1).f0)] (by rfl) rfl rfl (by (try simp only [List.map_toArray,List.map_cons,List.map_nil]);first | done | rfl | (simp only [List.length_drop,List.length_take];rfl)) ?_
      with_reducible refine (ident_CheckId.calls ((rd_T54 l1 x15_1).f0) t493 _ A14.out).mono ?_
      rintro e w' ⟨rfl,⟨nd,rfl⟩⟩
      refine ⟨_,rfl,?_⟩
      refine hK.out _ _ ⟨(blk_cell BK492.out 0).trans rfl,(blk_cell BK492.out 1).trans rfl,(blk_cell BK492.out 2).trans rfl⟩ (fun hHeld => ?_)
      clear hK K
      refine norm_ (a':=?_) ?_ ?_
      rotate_left
      ·show Act.put _ (some 27) _ = _
       simp only [Act.put,List.setIfInBounds_toArray,List.set_cons_zero,List.set_cons_succ,i64_w,i32_w]
       rfl
      refine manyW_ (fuel:=9) (a':=?_) ((8,0) :: (9,0) :: (10,0) :: (11,0) :: (12,0) :: (13,0) :: (14,1) :: (15,1) :: (16,1) :: (17,1) :: (18,1) :: (19,1) :: (20,1) :: (21,1) :: (22,1) :: (23,0) :: (24,0) :: (25,0) :: (26,0) :: (27,2) :: []) #[true,true,true,true,true,true,true,true,true,true,true,true,true,true,true,true,true,true,true,true,true,true,true,true,true,true,true,true,false,false,false,false,false,false,false,false,false] rfl HT_ HW_ (by kernel_rfl) (fun _ _ _ _ _ h => h) (fun _ => hHeld) ?_ ?_
      rotate_left
      ·repeat (first | exact Chain.nil _ | (apply Chain.on;rfl;rfl;(focus intro w';go_simp;with_reducible rfl);(focus simp only [Act.put,List.setIfInBounds_toArray,List.set_cons_zero,List.set_cons_succ,i64_w,i32_w];rfl)) | (apply Chain.take;rfl;rfl;(focus rintro w' ⟨s0,s1,s2⟩;go_simp;with_reducible rfl);(focus simp only [Act.put,List.setIfInBounds_toArray,List.set_cons_zero,List.set_cons_succ,i64_w,i32_w];rfl)) | (apply Chain.off;rfl;rfl;(focus simp only [Act.put,List.setIfInBounds_toArray,List.set_cons_zero,List.set_cons_succ,i64_w,i32_w];rfl)))
      refine one_ (i:=28) (N:=some 48) #[true,true,true,true,true,true,true,true,true,true,true,true,true,true,true,true,true,true,true,true,true,true,true,true,true,true,true,true,true,false,false,false,false,false,false,false,false] rfl rfl (one_of HT_.out (by kernel_rfl)) (by decide) (fun K hK => ?_)
      refine goes_ Try.func50 (by kernel_rfl) rfl #[.float .f64 ((rd_T54 l1 x15_1).f1)] (by rfl) rfl rfl (by (try simp only [List.map_toArray,List.map_cons,List.map_nil]);first | done | rfl | (simp only [List.length_drop,List.length_take];rfl)) ?_
      with_reducible refine (metric_Weight.calls ((rd_T54 l1 x15_1).f1) t497 _ A31.out).mono ?_
      rintro e w' ⟨rfl,⟨nd,rfl⟩⟩
      refine ⟨_,rfl,?_⟩
      refine hK.out _ _ ⟨(blk_cell BK492.out 0).trans rfl,(blk_cell BK492.out 1).trans rfl,(blk_cell BK492.out 2).trans rfl⟩ (fun hHeld => ?_)
      clear hK K
      refine norm_ (a':=?_) ?_ ?_
      rotate_left
      ·show Act.put _ (some 48) _ = _
       simp only [Act.put,List.setIfInBounds_toArray,List.set_cons_zero,List.set_cons_succ,i64_w,i32_w]
       rfl
      refine manyT_ (fuel:=0) (a':=?_) ((29,0) :: (30,0) :: (31,0) :: (32,1) :: (33,1) :: (34,1) :: (35,1) :: (36,0) :: []) #[true,true,true,true,true,true,true,true,true,true,true,true,true,true,true,true,true,true,true,true,true,true,true,true,true,true,true,true,true,true,true,true,true,true,true,true,true] rfl HT_ (by kernel_rfl) (fun _ _ _ _ _ h => h) (fun h => absurd h (by decide)) ?_ ?_
      rotate_left
      ·repeat (first | exact Chain.nil _ | (apply Chain.on;rfl;rfl;(focus intro w';go_simp;with_reducible rfl);(focus simp only [Act.put,List.setIfInBounds_toArray,List.set_cons_zero,List.set_cons_succ,i64_w,i32_w];rfl)) | (apply Chain.off;rfl;rfl;(focus simp only [Act.put,List.setIfInBounds_toArray,List.set_cons_zero,List.set_cons_succ,i64_w,i32_w];rfl)))
      refine done_ (done_of HT_.out (by kernel_rfl)) ?_
      try go_wp2
      go_meet
      case rel => exact ⟨_,(true),(by first | rfl | (simp;done) | (simp [*];done)),H',⟨by have:=HK1.out;first | omega | exact Nat.le_refl _⟩,⟨by (with_reducible repeat (first | refine blk_drewN ?_ _ | refine blk_drew ?_ | refine blk_alloc ?_ _));exact BK492.out⟩,⟨by repeat (first | (with_reducible first | exact HB.out | apply below_alloc | apply pw_below_drewN | apply below_drew1 | refine below_set ?_ GE492.out) | exact HB.out)⟩⟩
     rw [if_pos c32] at H
     have c32b0:(t497 == 0) = true:=beq_iff_eq.mpr c32
     have c32b1:(t497 != 0) = false:=bne_eq_false_iff_eq.mpr c32
     clear c32
     replace H:=Option.bind_eq_some_iff.mp H
     obtain ⟨t498,A330,H⟩:=H
     replace H:(landdv_Check.j1 k1 a0 l1 l1 (l1.length:Int) x15_1 (!t498)) = some r:=H
     have A33:=Aside0.mk A330
     clear A330
     have H':=Aside0.mk H
     clear H
     try go_wp2
     have n0_:Aside0 ((((w9.setCell ⟨gb492,0,none⟩ (.int .i64 ((rd_T54 l1 x15_1).f0))).setCell ⟨gb492,1,none⟩ (.float .f64 ((rd_T54 l1 x15_1).f1))).setCell ⟨gb492,2,none⟩ (.slice A491_2 ((rd_T54 l1 x15_1).f2).length c491_2)).heap[gb492]? = some (.cells #[.int .i64 ((rd_T54 l1 x15_1).f0),.float .f64 ((rd_T54 l1 x15_1).f1),.slice A491_2 ((rd_T54 l1 x15_1).f2).length c491_2] 54 (0,0))):=⟨by (with_reducible repeat (first | refine blk_drewN ?_ _ | refine blk_drew ?_ | refine blk_alloc ?_ _));refine blk_put (cs:=#[.int .i64 ((rd_T54 l1 x15_1).f0),.float .f64 ((rd_T54 l1 x15_1).f1),.slice none 0 0]) ?_ 2 _ rfl;(with_reducible repeat (first | refine blk_drewN ?_ _ | refine blk_drew ?_ | refine blk_alloc ?_ _));refine blk_put (cs:=#[.int .i64 ((rd_T54 l1 x15_1).f0),.float .f64 0,.slice none 0 0]) ?_ 1 _ rfl;(with_reducible repeat (first | refine blk_drewN ?_ _ | refine blk_drew ?_ | refine blk_alloc ?_ _));refine blk_put (cs:=#[.int .i64 0,.float .f64 0,.slice none 0 0]) ?_ 0 _ rfl;(with_reducible repeat (first | refine blk_drewN ?_ _ | refine blk_drew ?_ | refine blk_alloc ?_ _));exact BK492.out⟩
     have n1_:Aside0 (Below w.heap.size w (((w9.setCell ⟨gb492,0,none⟩ (.int .i64 ((rd_T54 l1 x15_1).f0))).setCell ⟨gb492,1,none⟩ (.float .f64 ((rd_T54 l1 x15_1).f1))).setCell ⟨gb492,2,none⟩ (.slice A491_2 ((rd_T54 l1 x15_1).f2).length c491_2))):=⟨by repeat (first | (with_reducible first | exact HB.out | apply below_alloc | apply pw_below_drewN | apply below_drew1 | refine below_set ?_ GE492.out) | exact HB.out)⟩
     (try clear BK492)
     (try clear HB)
     generalize (((w9.setCell ⟨gb492,0,none⟩ (.int .i64 ((rd_T54 l1 x15_1).f0))).setCell ⟨gb492,1,none⟩ (.float .f64 ((rd_T54 l1 x15_1).f1))).setCell ⟨gb492,2,none⟩ (.slice A491_2 ((rd_T54 l1 x15_1).f2).length c491_2)) = w34 at n0_ n1_ ⊢
     have BK492:=n0_
     have HB:=n1_
     clear n0_ n1_
     have n0_:=Aside0.mk (blk_drew BK492.out)
     have n1_:=Aside0.mk (below_drew1 HB.out)
     clear BK492
     clear HB
     have BK492:=n0_
     have HB:=n1_
     clear n0_ n1_
     refine start_ (n:=37) (S:=fun w' => w'.cell? ⟨gb492,0,none⟩ = some (.int .i64 ((rd_T54 l1 x15_1).f0)) ∧ w'.cell? ⟨gb492,1,none⟩ = some (.float .f64 ((rd_T54 l1 x15_1).f1)) ∧ w'.cell? ⟨gb492,2,none⟩ = some (.slice A491_2 ((rd_T54 l1 x15_1).f2).length c491_2)) (ds:=[]) #[false,false,false,false,false,false,false,false,false,false,false,false,false,false,false,false,false,false,false,false,false,false,false,false,false,false,false,false,false,false,false,false,false,false,false,false,false] (by kernel_rfl) rfl rfl ⟨(blk_cell BK492.out 0).trans rfl,(blk_cell BK492.out 1).trans rfl,(blk_cell BK492.out 2).trans rfl⟩ (fun hHeld => ?_);refine with_tabW landdv_Check.tab7 landdv_Check.bits7 (fun HT_ HW_ => ?_)
     generalize w34.drew = w35 at BK492 HB hHeld ⊢
     refine manyW_ (fuel:=30) (a':=?_) ((0,0) :: (2,0) :: (1,2) :: (3,0) :: (4,0) :: (5,0) :: (6,2) :: []) #[true,true,true,true,true,true,true,false,false,false,false,false,false,false,false,false,false,false,false,false,false,false,false,false,false,false,false,false,false,false,false,false,false,false,false,false,false] rfl HT_ HW_ (by kernel_rfl) (fun _ _ _ _ _ h => h) (fun _ => hHeld) ?_ ?_
     rotate_left
     ·repeat (first | exact Chain.nil _ | (apply Chain.on;rfl;rfl;(focus intro w';go_simp;with_reducible rfl);(focus simp only [Act.put,List.setIfInBounds_toArray,List.set_cons_zero,List.set_cons_succ,i64_w,i32_w];rfl)) | (apply Chain.take;rfl;rfl;(focus rintro w' ⟨s0,s1,s2⟩;go_simp;with_reducible rfl);(focus simp only [Act.put,List.setIfInBounds_toArray,List.set_cons_zero,List.set_cons_succ,i64_w,i32_w];rfl)))
     refine one_ (i:=7) (N:=some 27) #[true,true,true,true,true,true,true,true,false,false,false,false,false,false,false,false,false,false,false,false,false,false,false,false,false,false,false,false,false,false,false,false,false,false,false,false,false] rfl rfl (one_of HT_.out (by kernel_rfl)) (by decide) (fun K hK => ?_)
     refine goes_ Try.func49 (by kernel_rfl) rfl #[.int .i64 ((rd_T54 l1 x15_1).f0)] (by rfl) rfl rfl (by (try simp only [List.map_toArray,List.map_cons,List.map_nil]);first | done | rfl | (simp only [List.length_drop,List.length_take];rfl)) ?_
     with_reducible refine (ident_CheckId.calls ((rd_T54 l1 x15_1).f0) t493 _ A14.out).mono ?_
     rintro e w' ⟨rfl,⟨nd,rfl⟩⟩
     refine ⟨_,rfl,?_⟩
     refine hK.out _ _ ⟨(blk_cell BK492.out 0).trans rfl,(blk_cell BK492.out 1).trans rfl,(blk_cell BK492.out 2).trans rfl⟩ (fun hHeld => ?_)
     clear hK K
     refine norm_ (a':=?_) ?_ ?_
     rotate_left
     ·show Act.put _ (some 27) _ = _
      simp only [Act.put,List.setIfInBounds_toArray,List.set_cons_zero,List.set_cons_succ,i64_w,i32_w]
      rfl
     refine manyW_ (fuel:=9) (a':=?_) ((8,0) :: (9,0) :: (10,0) :: (11,0) :: (12,0) :: (13,0) :: (14,1) :: (15,1) :: (16,1) :: (17,1) :: (18,1) :: (19,1) :: (20,1) :: (21,1) :: (22,1) :: (23,0) :: (24,0) :: (25,0) :: (26,0) :: (27,2) :: []) #[true,true,true,true,true,true,true,true,true,true,true,true,true,true,true,true,true,true,true,true,true,true,true,true,true,true,true,true,false,false,false,false,false,false,false,false,false] rfl HT_ HW_ (by kernel_rfl) (fun _ _ _ _ _ h => h) (fun _ => hHeld) ?_ ?_
     rotate_left
     ·repeat (first | exact Chain.nil _ | (apply Chain.on;rfl;rfl;(focus intro w';go_simp;with_reducible rfl);(focus simp only [Act.put,List.setIfInBounds_toArray,List.set_cons_zero,List.set_cons_succ,i64_w,i32_w];rfl)) | (apply Chain.take;rfl;rfl;(focus rintro w' ⟨s0,s1,s2⟩;go_simp;with_reducible rfl);(focus simp only [Act.put,List.setIfInBounds_toArray,List.set_cons_zero,List.set_cons_succ,i64_w,i32_w];rfl)) | (apply Chain.off;rfl;rfl;(focus simp only [Act.put,List.setIfInBounds_toArray,List.set_cons_zero,List.set_cons_succ,i64_w,i32_w];rfl)))
     refine one_ (i:=28) (N:=some 48) #[true,true,true,true,true,true,true,true,true,true,true,true,true,true,true,true,true,true,true,true,true,true,true,true,true,true,true,true,true,false,false,false,false,false,false,false,false] rfl rfl (one_of HT_.out (by kernel_rfl)) (by decide) (fun K hK => ?_)
     refine goes_ Try.func50 (by kernel_rfl) rfl #[.float .f64 ((rd_T54 l1 x15_1).f1)] (by rfl) rfl rfl (by (try simp only [List.map_toArray,List.map_cons,List.map_nil]);first | done | rfl | (simp only [List.length_drop,List.length_take];rfl)) ?_
     with_reducible refine (metric_Weight.calls ((rd_T54 l1 x15_1).f1) t497 _ A31.out).mono ?_
     rintro e w' ⟨rfl,⟨nd,rfl⟩⟩
     refine ⟨_,rfl,?_⟩
     refine hK.out _ _ ⟨(blk_cell BK492.out 0).trans rfl,(blk_cell BK492.out 1).trans rfl,(blk_cell BK492.out 2).trans rfl⟩ (fun hHeld => ?_)
     clear hK K
     refine norm_ (a':=?_) ?_ ?_
     rotate_left
     ·show Act.put _ (some 48) _ = _
      simp only [Act.put,List.setIfInBounds_toArray,List.set_cons_zero,List.set_cons_succ,i64_w,i32_w]
      rfl
     refine manyW_ (fuel:=3) (a':=?_) ((29,0) :: (30,0) :: (31,0) :: (32,0) :: (33,2) :: []) #[true,true,true,true,true,true,true,true,true,true,true,true,true,true,true,true,true,true,true,true,true,true,true,true,true,true,true,true,true,true,true,true,true,true,false,false,false] rfl HT_ HW_ (by kernel_rfl) (fun _ _ _ _ _ h => h) (fun _ => hHeld) ?_ ?_
     rotate_left
     ·repeat (first | exact Chain.nil _ | (apply Chain.on;rfl;rfl;(focus intro w';go_simp;with_reducible rfl);(focus simp only [Act.put,List.setIfInBounds_toArray,List.set_cons_zero,List.set_cons_succ,i64_w,i32_w];rfl)) | (apply Chain.take;rfl;rfl;(focus rintro w' ⟨s0,s1,s2⟩;go_simp;with_reducible rfl);(focus simp only [Act.put,List.setIfInBounds_toArray,List.set_cons_zero,List.set_cons_succ,i64_w,i32_w];rfl)))
     refine one_ (i:=34) (N:=some 54) #[true,true,true,true,true,true,true,true,true,true,true,true,true,true,true,true,true,true,true,true,true,true,true,true,true,true,true,true,true,true,true,true,true,true,true,false,false] rfl rfl (one_of HT_.out (by kernel_rfl)) (by decide) (fun K hK => ?_)
     refine goes_ Try.func51 (by kernel_rfl) rfl #[.slice A491_2 ((rd_T54 l1 x15_1).f2).length c491_2] (by rfl) rfl rfl (by (try simp only [List.map_toArray,List.map_cons,List.map_nil]);first | done | rfl | (simp only [List.length_drop,List.length_take];rfl)) ?_
     with_reducible refine (landdv_list.calls _ _ ((rd_T54 l1 x15_1).f2) t498 _ ?side1 ?side2 A33.out).mono ?_
     (case side1 => repeat (first | exact (Kd.C_below HR491_2.out (by repeat (first | (with_reducible first | exact HB.out | apply below_alloc | apply pw_below_drewN | apply below_drew1 | refine below_set ?_ GE492.out) | exact HB.out))) | (with_reducible refine Kd.C_alloc ?_ _) | (with_reducible refine Kd.C_drewN ?_ _) | (with_reducible refine Kd.C_drew ?_)))
     (case side2 => exact HC491_2.out)
     rintro e w36 ⟨rfl,hb⟩
     refine ⟨_,rfl,?_⟩
     have n0_:=Aside0.mk (blk_below (g:=gb492) (o:=.cells #[.int .i64 ((rd_T54 l1 x15_1).f0),.float .f64 ((rd_T54 l1 x15_1).f1),.slice A491_2 ((rd_T54 l1 x15_1).f2).length c491_2] 54 (0,0)) (by (with_reducible repeat (first | refine blk_drewN ?_ _ | refine blk_drew ?_ | refine blk_alloc ?_ _));exact BK492.out) hb)
     have n1_:=Aside0.mk (below_step (by repeat (first | (with_reducible first | exact HB.out | apply below_alloc | apply pw_below_drewN | apply below_drew1 | refine below_set ?_ GE492.out) | exact HB.out)) hb)
     clear BK492
     clear HB
     have BK492:=n0_
     have HB:=n1_
     clear n0_ n1_
     (try clear hb)
     (try clear hb2)
     (try clear hk)
     (try clear hi)
     refine hK.out _ _ ⟨(blk_cell BK492.out 0).trans rfl,(blk_cell BK492.out 1).trans rfl,(blk_cell BK492.out 2).trans rfl⟩ (fun hHeld => ?_)
     clear hK K
     refine norm_ (a':=?_) ?_ ?_
     rotate_left
     ·show Act.put _ (some 54) _ = _
      simp only [Act.put,List.setIfInBounds_toArray,List.set_cons_zero,List.set_cons_succ,i64_w,i32_w]
      rfl
     refine manyT_ (fuel:=0) (a':=?_) ((35,0) :: (36,0) :: []) #[true,true,true,true,true,true,true,true,true,true,true,true,true,true,true,true,true,true,true,true,true,true,true,true,true,true,true,true,true,true,true,true,true,true,true,true,true] rfl HT_ (by kernel_rfl) (fun _ _ _ _ _ h => h) (fun h => absurd h (by decide)) ?_ ?_
     rotate_left
     ·repeat (first | exact Chain.nil _ | (apply Chain.on;rfl;rfl;(focus intro w';go_simp;with_reducible rfl);(focus simp only [Act.put,List.setIfInBounds_toArray,List.set_cons_zero,List.set_cons_succ,i64_w,i32_w];rfl)))
     refine done_ (done_of HT_.out (by kernel_rfl)) ?_
     try go_wp2
     go_meet
     case rel => exact ⟨_,(!t498),(by first | rfl | (simp;done) | (simp [*];done)),H',⟨by have:=HK1.out;first | omega | exact Nat.le_refl _⟩,⟨by (with_reducible repeat (first | refine blk_drewN ?_ _ | refine blk_drew ?_ | refine blk_alloc ?_ _));exact BK492.out⟩,⟨by repeat (first | (with_reducible first | exact HB.out | apply below_alloc | apply pw_below_drewN | apply below_drew1 | refine below_set ?_ GE492.out) | exact HB.out)⟩⟩
    rw [if_pos c16] at H
    have c16b0:decide (0 < x15_1) = true:=decide_eq_true c16
    clear c16
    obtain ⟨ji17,hji17⟩:∃ j_:Int,(wrap64 (x15_1 - 1)) = j_:=⟨_,rfl⟩
    replace H:(if 0 ≤ (ji17) then (if (ji17) < (l1.length:Int) then (if ((rd_T54 l1 x15_1).f0) ≤ ((rd_T54 l1 (ji17)).f0) then (landdv_Check.j1 k1 a0 l1 l1 (l1.length:Int) x15_1 true) else ((metric_Weight.f ((rd_T54 l1 x15_1).f1)).bind fun t495 => (if t495 = 0 then ((landdv_list.f ((rd_T54 l1 x15_1).f2)).bind fun t496 => (landdv_Check.j1 k1 a0 l1 l1 (l1.length:Int) x15_1 (!t496))) else (landdv_Check.j1 k1 a0 l1 l1 (l1.length:Int) x15_1 true)))) else (none)) else (none)) = some r:=by first | (rw [hji17] at H;exact H) | (simp only [hji17] at H ⊢;exact H)
    (try rw [hji17] at A14)
    have hji17w:(IntKind.i64.wrap (x15_1 - 1)) = ji17:=(i64_w _).trans hji17
    by_cases c18:0 ≤ (ji17)
    rotate_left
    ·rw [if_neg c18] at H
     exact absurd H (by simp)
    rw [if_pos c18] at H
    have c18b0:decide (0 ≤ (ji17)) = true:=decide_eq_true c18
    clear c18
    by_cases c19:(ji17) < (l1.length:Int)
    rotate_left
    ·rw [if_neg c19] at H
     exact absurd H (by simp)
    rw [if_pos c19] at H
    have c19b0:decide ((ji17) < (l1.length:Int)) = true:=decide_eq_true c19
    clear c19
    by_cases c20:((rd_T54 l1 x15_1).f0) ≤ ((rd_T54 l1 (ji17)).f0)
    ·rw [if_pos c20] at H
     have c20b0:decide (((rd_T54 l1 x15_1).f0) ≤ ((rd_T54 l1 (ji17)).f0)) = true:=decide_eq_true c20
     clear c20
     have H':=Aside0.mk H
     clear H
     try go_wp2
     have n0_:Aside0 ((((w9.setCell ⟨gb492,0,none⟩ (.int .i64 ((rd_T54 l1 x15_1).f0))).setCell ⟨gb492,1,none⟩ (.float .f64 ((rd_T54 l1 x15_1).f1))).setCell ⟨gb492,2,none⟩ (.slice A491_2 ((rd_T54 l1 x15_1).f2).length c491_2)).heap[gb492]? = some (.cells #[.int .i64 ((rd_T54 l1 x15_1).f0),.float .f64 ((rd_T54 l1 x15_1).f1),.slice A491_2 ((rd_T54 l1 x15_1).f2).length c491_2] 54 (0,0))):=⟨by (with_reducible repeat (first | refine blk_drewN ?_ _ | refine blk_drew ?_ | refine blk_alloc ?_ _));refine blk_put (cs:=#[.int .i64 ((rd_T54 l1 x15_1).f0),.float .f64 ((rd_T54 l1 x15_1).f1),.slice none 0 0]) ?_ 2 _ rfl;(with_reducible repeat (first | refine blk_drewN ?_ _ | refine blk_drew ?_ | refine blk_alloc ?_ _));refine blk_put (cs:=#[.int .i64 ((rd_T54 l1 x15_1).f0),.float .f64 0,.slice none 0 0]) ?_ 1 _ rfl;(with_reducible repeat (first | refine blk_drewN ?_ _ | refine blk_drew ?_ | refine blk_alloc ?_ _));refine blk_put (cs:=#[.int .i64 0,.float .f64 0,.slice none 0 0]) ?_ 0 _ rfl;(with_reducible repeat (first | refine blk_drewN ?_ _ | refine blk_drew ?_ | refine blk_alloc ?_ _));exact BK492.out⟩
     have n1_:Aside0 (Below w.heap.size w (((w9.setCell ⟨gb492,0,none⟩ (.int .i64 ((rd_T54 l1 x15_1).f0))).setCell ⟨gb492,1,none⟩ (.float .f64 ((rd_T54 l1 x15_1).f1))).setCell ⟨gb492,2,none⟩ (.slice A491_2 ((rd_T54 l1 x15_1).f2).length c491_2))):=⟨by repeat (first | (with_reducible first | exact HB.out | apply below_alloc | apply pw_below_drewN | apply below_drew1 | refine below_set ?_ GE492.out) | exact HB.out)⟩
     (try clear BK492)
     (try clear HB)
     generalize (((w9.setCell ⟨gb492,0,none⟩ (.int .i64 ((rd_T54 l1 x15_1).f0))).setCell ⟨gb492,1,none⟩ (.float .f64 ((rd_T54 l1 x15_1).f1))).setCell ⟨gb492,2,none⟩ (.slice A491_2 ((rd_T54 l1 x15_1).f2).length c491_2)) = w21 at n0_ n1_ ⊢
     have BK492:=n0_
     have HB:=n1_
     clear n0_ n1_
     have n0_:=Aside0.mk (blk_drew BK492.out)
     have n1_:=Aside0.mk (below_drew1 HB.out)
     clear BK492
     clear HB
     have BK492:=n0_
     have HB:=n1_
     clear n0_ n1_
     have p494:0 ≤ ((ji17):Int):=of_decide_eq_true (by first | (with_reducible assumption) | assumption)
     have q494:(ji17) < (l1.length:Int):=of_decide_eq_true (by first | (with_reducible assumption) | assumption)
     obtain ⟨ad494,A494_2,c494_2,e494,hx494_0,hx494_1,hx494_2,hl494_2,hi494_2⟩:=at_T54 HR1.out (ji17) p494 q494
     have hw494_2:=hx494_2
     have hw494_1:=hx494_1
     have hw494_0:=hx494_0
     obtain rfl:ad491 = ad494:=(by injection e494)
     replace hx494_0:=(HB.out.cell (World.block_lt_of_cell? w _ hx494_0)).trans hx494_0
     replace hx494_1:=(HB.out.cell (World.block_lt_of_cell? w _ hx494_1)).trans hx494_1
     replace hx494_2:=(HB.out.cell (World.block_lt_of_cell? w _ hx494_2)).trans hx494_2
     have HR494_2:=Aside0.mk hi494_2
     have HC494_2:=Aside0.mk hl494_2
     clear hi494_2 hl494_2
     replace p494:=eq_true p494
     replace q494:=eq_true q494
     refine start_ (n:=37) (S:=fun w' => w'.cell? ⟨gb492,0,none⟩ = some (.int .i64 ((rd_T54 l1 x15_1).f0)) ∧ w'.cell? ⟨gb492,1,none⟩ = some (.float .f64 ((rd_T54 l1 x15_1).f1)) ∧ w'.cell? ⟨gb492,2,none⟩ = some (.slice A491_2 ((rd_T54 l1 x15_1).f2).length c491_2) ∧ w'.cell? (ad491.add (((ji17)).toNat * 3)) = some (.int .i64 ((rd_T54 l1 (ji17)).f0)) ∧ w'.cell? ⟨(ad491.add (((ji17)).toNat * 3)).block,(ad491.add (((ji17)).toNat * 3)).off + 1,none⟩ = some (.float .f64 ((rd_T54 l1 (ji17)).f1)) ∧ w'.cell? ⟨(ad491.add (((ji17)).toNat * 3)).block,(ad491.add (((ji17)).toNat * 3)).off + 2,none⟩ = some (.slice A494_2 ((rd_T54 l1 (ji17)).f2).length c494_2)) (ds:=[]) #[false,false,false,false,false,false,false,false,false,false,false,false,false,false,false,false,false,false,false,false,false,false,false,false,false,false,false,false,false,false,false,false,false,false,false,false,false] (by kernel_rfl) rfl rfl ⟨(blk_cell BK492.out 0).trans rfl,(blk_cell BK492.out 1).trans rfl,(blk_cell BK492.out 2).trans rfl,((HB.out.cell (World.block_lt_of_cell? w _ hw494_0)).trans hw494_0),((HB.out.cell (World.block_lt_of_cell? w _ hw494_1)).trans hw494_1),((HB.out.cell (World.block_lt_of_cell? w _ hw494_2)).trans hw494_2)⟩ (fun hHeld => ?_);refine with_tabW landdv_Check.tab7 landdv_Check.bits7 (fun HT_ HW_ => ?_)
     generalize w21.drew = w22 at BK492 HB HR494_2 hx494_0 hx494_1 hx494_2 hHeld ⊢
     refine manyW_ (fuel:=30) (a':=?_) ((0,0) :: (2,0) :: (1,2) :: (3,0) :: (4,0) :: (5,0) :: (6,2) :: []) #[true,true,true,true,true,true,true,false,false,false,false,false,false,false,false,false,false,false,false,false,false,false,false,false,false,false,false,false,false,false,false,false,false,false,false,false,false] rfl HT_ HW_ (by kernel_rfl) (fun _ _ _ _ _ h => h) (fun _ => hHeld) ?_ ?_
     rotate_left
     ·repeat (first | exact Chain.nil _ | (apply Chain.on;rfl;rfl;(focus intro w';go_simp;with_reducible rfl);(focus simp only [Act.put,List.setIfInBounds_toArray,List.set_cons_zero,List.set_cons_succ,i64_w,i32_w];rfl)) | (apply Chain.take;rfl;rfl;(focus rintro w' ⟨s0,s1,s2,s3,s4,s5⟩;go_simp;with_reducible rfl);(focus simp only [Act.put,List.setIfInBounds_toArray,List.set_cons_zero,List.set_cons_succ,i64_w,i32_w];rfl)))
     refine one_ (i:=7) (N:=some 27) #[true,true,true,true,true,true,true,true,false,false,false,false,false,false,false,false,false,false,false,false,false,false,false,false,false,false,false,false,false,false,false,false,false,false,false,false,false] rfl rfl (one_of HT_.out (by kernel_rfl)) (by decide) (fun K hK => ?_)
     refine goes_ Try.func49 (by kernel_rfl) rfl #[.int .i64 ((rd_T54 l1 x15_1).f0)] (by rfl) rfl rfl (by (try simp only [List.map_toArray,List.map_cons,List.map_nil]);first | done | rfl | (simp only [List.length_drop,List.length_take];rfl)) ?_
     with_reducible refine (ident_CheckId.calls ((rd_T54 l1 x15_1).f0) t493 _ A14.out).mono ?_
     rintro e w' ⟨rfl,⟨nd,rfl⟩⟩
     refine ⟨_,rfl,?_⟩
     refine hK.out _ _ ⟨(blk_cell BK492.out 0).trans rfl,(blk_cell BK492.out 1).trans rfl,(blk_cell BK492.out 2).trans rfl,((HB.out.cell (World.block_lt_of_cell? w _ hw494_0)).trans hw494_0),((HB.out.cell (World.block_lt_of_cell? w _ hw494_1)).trans hw494_1),((HB.out.cell (World.block_lt_of_cell? w _ hw494_2)).trans hw494_2)⟩ (fun hHeld => ?_)
     clear hK K
     refine norm_ (a':=?_) ?_ ?_
     rotate_left
     ·show Act.put _ (some 27) _ = _
      simp only [Act.put,List.setIfInBounds_toArray,List.set_cons_zero,List.set_cons_succ,i64_w,i32_w]
      rfl
     refine manyW_ (fuel:=0) (a':=?_) ((8,0) :: (9,0) :: (10,0) :: (11,0) :: (12,0) :: (13,0) :: (14,0) :: (16,0) :: (17,0) :: (18,0) :: (19,0) :: (20,0) :: (15,2) :: (21,2) :: (22,0) :: (23,0) :: (24,0) :: (25,0) :: (26,1) :: (27,1) :: (28,1) :: (29,1) :: (30,0) :: (31,0) :: (32,1) :: (33,1) :: (34,1) :: (35,1) :: (36,0) :: []) #[true,true,true,true,true,true,true,true,true,true,true,true,true,true,true,true,true,true,true,true,true,true,true,true,true,true,true,true,true,true,true,true,true,true,true,true,true] rfl HT_ HW_ (by kernel_rfl) (fun _ _ _ _ _ h => h) (fun _ => hHeld) ?_ ?_
     rotate_left
     ·repeat (first | exact Chain.nil _ | (apply Chain.on;rfl;rfl;(focus intro w';go_simp;with_reducible rfl);(focus simp only [Act.put,List.setIfInBounds_toArray,List.set_cons_zero,List.set_cons_succ,i64_w,i32_w];rfl)) | (apply Chain.take;rfl;rfl;(focus rintro w' ⟨s0,s1,s2,s3,s4,s5⟩;go_simp;with_reducible rfl);(focus simp only [Act.put,List.setIfInBounds_toArray,List.set_cons_zero,List.set_cons_succ,i64_w,i32_w];rfl)) | (apply Chain.off;rfl;rfl;(focus simp only [Act.put,List.setIfInBounds_toArray,List.set_cons_zero,List.set_cons_succ,i64_w,i32_w];rfl)))
     refine done_ (done_of HT_.out (by kernel_rfl)) ?_
     try go_wp2
     go_meet
     case rel => exact ⟨_,(true),(by first | rfl | (simp;done) | (simp [*];done)),H',⟨by have:=HK1.out;first | omega | exact Nat.le_refl _⟩,⟨by (with_reducible repeat (first | refine blk_drewN ?_ _ | refine blk_drew ?_ | refine blk_alloc ?_ _));exact BK492.out⟩,⟨by repeat (first | (with_reducible first | exact HB.out | apply below_alloc | apply pw_below_drewN | apply below_drew1 | refine below_set ?_ GE492.out) | exact HB.out)⟩⟩
    rw [if_neg c20] at H
    have c20b0:decide (((rd_T54 l1 x15_1).f0) ≤ ((rd_T54 l1 (ji17)).f0)) = false:=decide_eq_false c20
    clear c20
    replace H:=Option.bind_eq_some_iff.mp H
    obtain ⟨t495,A230,H⟩:=H
    replace H:(if t495 = 0 then ((landdv_list.f ((rd_T54 l1 x15_1).f2)).bind fun t496 => (landdv_Check.j1 k1 a0 l1 l1 (l1.length:Int) x15_1 (!t496))) else (landdv_Check.j1 k1 a0 l1 l1 (l1.length:Int) x15_1 true)) = some r:=H
    have A23:=Aside0.mk A230
    clear A230
    by_cases c24:t495 = 0
    rotate_left
    ·rw [if_neg c24] at H
     have c24b0:(t495 == 0) = false:=beq_eq_false_iff_ne.mpr c24
     have c24b1:(t495 != 0) = true:=bne_iff_ne.mpr c24
     have H':=Aside0.mk H
     clear H
     try go_wp2
     have n0_:Aside0 ((((w9.setCell ⟨gb492,0,none⟩ (.int .i64 ((rd_T54 l1 x15_1).f0))).setCell ⟨gb492,1,none⟩ (.float .f64 ((rd_T54 l1 x15_1).f1))).setCell ⟨gb492,2,none⟩ (.slice A491_2 ((rd_T54 l1 x15_1).f2).length c491_2)).heap[gb492]? = some (.cells #[.int .i64 ((rd_T54 l1 x15_1).f0),.float .f64 ((rd_T54 l1 x15_1).f1),.slice A491_2 ((rd_T54 l1 x15_1).f2).length c491_2] 54 (0,0))):=⟨by (with_reducible repeat (first | refine blk_drewN ?_ _ | refine blk_drew ?_ | refine blk_alloc ?_ _));refine blk_put (cs:=#[.int .i64 ((rd_T54 l1 x15_1).f0),.float .f64 ((rd_T54 l1 x15_1).f1),.slice none 0 0]) ?_ 2 _ rfl;(with_reducible repeat (first | refine blk_drewN ?_ _ | refine blk_drew ?_ | refine blk_alloc ?_ _));refine blk_put (cs:=#[.int .i64 ((rd_T54 l1 x15_1).f0),.float .f64 0,.slice none 0 0]) ?_ 1 _ rfl;(with_reducible repeat (first | refine blk_drewN ?_ _ | refine blk_drew ?_ | refine blk_alloc ?_ _));refine blk_put (cs:=#[.int .i64 0,.float .f64 0,.slice none 0 0]) ?_ 0 _ rfl;(with_reducible repeat (first | refine blk_drewN ?_ _ | refine blk_drew ?_ | refine blk_alloc ?_ _));exact BK492.out⟩
     have n1_:Aside0 (Below w.heap.size w (((w9.setCell ⟨gb492,0,none⟩ (.int .i64 ((rd_T54 l1 x15_1).f0))).setCell ⟨gb492,1,none⟩ (.float .f64 ((rd_T54 l1 x15_1).f1))).setCell ⟨gb492,2,none⟩ (.slice A491_2 ((rd_T54 l1 x15_1).f2).length c491_2))):=⟨by repeat (first | (with_reducible first | exact HB.out | apply below_alloc | apply pw_below_drewN | apply below_drew1 | refine below_set ?_ GE492.out) | exact HB.out)⟩
     (try clear BK492)
     (try clear HB)
     generalize (((w9.setCell ⟨gb492,0,none⟩ (.int .i64 ((rd_T54 l1 x15_1).f0))).setCell ⟨gb492,1,none⟩ (.float .f64 ((rd_T54 l1 x15_1).f1))).setCell ⟨gb492,2,none⟩ (.slice A491_2 ((rd_T54 l1 x15_1).f2).length c491_2)) = w29 at n0_ n1_ ⊢
     have BK492:=n0_
     have HB:=n1_
     clear n0_ n1_
     have n0_:=Aside0.mk (blk_drew BK492.out)
     have n1_:=Aside0.mk (below_drew1 HB.out)
     clear BK492
     clear HB
     have BK492:=n0_
     have HB:=n1_
     clear n0_ n1_
     have p494:0 ≤ ((ji17):Int):=of_decide_eq_true (by first | (with_reducible assumption) | assumption)
     have q494:(ji17) < (l1.length:Int):=of_decide_eq_true (by first | (with_reducible assumption) | assumption)
     obtain ⟨ad494,A494_2,c494_2,e494,hx494_0,hx494_1,hx494_2,hl494_2,hi494_2⟩:=at_T54 HR1.out (ji17) p494 q494
     have hw494_2:=hx494_2
     have hw494_1:=hx494_1
     have hw494_0:=hx494_0
     obtain rfl:ad491 = ad494:=(by injection e494)
     replace hx494_0:=(HB.out.cell (World.block_lt_of_cell? w _ hx494_0)).trans hx494_0
     replace hx494_1:=(HB.out.cell (World.block_lt_of_cell? w _ hx494_1)).trans hx494_1
     replace hx494_2:=(HB.out.cell (World.block_lt_of_cell? w _ hx494_2)).trans hx494_2
     have HR494_2:=Aside0.mk hi494_2
     have HC494_2:=Aside0.mk hl494_2
     clear hi494_2 hl494_2
     replace p494:=eq_true p494
     replace q494:=eq_true q494
     refine start_ (n:=37) (S:=fun w' => w'.cell? ⟨gb492,0,none⟩ = some (.int .i64 ((rd_T54 l1 x15_1).f0)) ∧ w'.cell? ⟨gb492,1,none⟩ = some (.float .f64 ((rd_T54 l1 x15_1).f1)) ∧ w'.cell? ⟨gb492,2,none⟩ = some (.slice A491_2 ((rd_T54 l1 x15_1).f2).length c491_2) ∧ w'.cell? (ad491.add (((ji17)).toNat * 3)) = some (.int .i64 ((rd_T54 l1 (ji17)).f0)) ∧ w'.cell? ⟨(ad491.add (((ji17)).toNat * 3)).block,(ad491.add (((ji17)).toNat * 3)).off + 1,none⟩ = some (.float .f64 ((rd_T54 l1 (ji17)).f1)) ∧ w'.cell? ⟨(ad491.add (((ji17)).toNat * 3)).block,(ad491.add (((ji17)).toNat * 3)).off + 2,none⟩ = some (.slice A494_2 ((rd_T54 l1 (ji17)).f2).length c494_2)) (ds:=[]) #[false,false,false,false,false,false,false,false,false,false,false,false,false,false,false,false,false,false,false,false,false,false,false,false,false,false,false,false,false,false,false,false,false,false,false,false,false] (by kernel_rfl) rfl rfl ⟨(blk_cell BK492.out 0).trans rfl,(blk_cell BK492.out 1).trans rfl,(blk_cell BK492.out 2).trans rfl,((HB.out.cell (World.block_lt_of_cell? w _ hw494_0)).trans hw494_0),((HB.out.cell (World.block_lt_of_cell? w _ hw494_1)).trans hw494_1),((HB.out.cell (World.block_lt_of_cell? w _ hw494_2)).trans hw494_2)⟩ (fun hHeld => ?_);refine with_tabW landdv_Check.tab7 landdv_Check.bits7 (fun HT_ HW_ => ?_)
     generalize w29.drew = w30 at BK492 HB HR494_2 hx494_0 hx494_1 hx494_2 hHeld ⊢
     refine manyW_ (fuel:=30) (a':=?_) ((0,0) :: (2,0) :: (1,2) :: (3,0) :: (4,0) :: (5,0) :: (6,2) :: []) #[true,true,true,true,true,true,true,false,false,false,false,false,false,false,false,false,false,false,false,false,false,false,false,false,false,false,false,false,false,false,false,false,false,false,false,false,false] rfl HT_ HW_ (by kernel_rfl) (fun _ _ _ _ _ h => h) (fun _ => hHeld) ?_ ?_
     rotate_left
     ·repeat (first | exact Chain.nil _ | (apply Chain.on;rfl;rfl;(focus intro w';go_simp;with_reducible rfl);(focus simp only [Act.put,List.setIfInBounds_toArray,List.set_cons_zero,List.set_cons_succ,i64_w,i32_w];rfl)) | (apply Chain.take;rfl;rfl;(focus rintro w' ⟨s0,s1,s2,s3,s4,s5⟩;go_simp;with_reducible rfl);(focus simp only [Act.put,List.setIfInBounds_toArray,List.set_cons_zero,List.set_cons_succ,i64_w,i32_w];rfl)))
     refine one_ (i:=7) (N:=some 27) #[true,true,true,true,true,true,true,true,false,false,false,false,false,false,false,false,false,false,false,false,false,false,false,false,false,false,false,false,false,false,false,false,false,false,false,false,false] rfl rfl (one_of HT_.out (by kernel_rfl)) (by decide) (fun K hK => ?_)
     refine goes_ Try.func49 (by kernel_rfl) rfl #[.int .i64 ((rd_T54 l1 x15_1).f0)] (by rfl) rfl rfl (by (try simp only [List.map_toArray,List.map_cons,List.map_nil]);first | done | rfl | (simp only [List.length_drop,List.length_take];rfl)) ?_
     with_reducible refine (ident_CheckId.calls ((rd_T54 l1 x15_1).f0) t493 _ A14.out).mono ?_
     rintro e w' ⟨rfl,⟨nd,rfl⟩⟩
     refine ⟨_,rfl,?_⟩
     refine hK.out _ _ ⟨(blk_cell BK492.out 0).trans rfl,(blk_cell BK492.out 1).trans rfl,(blk_cell BK492.out 2).trans rfl,((HB.out.cell (World.block_lt_of_cell? w _ hw494_0)).trans hw494_0),((HB.out.cell (World.block_lt_of_cell? w _ hw494_1)).trans hw494_1),((HB.out.cell (World.block_lt_of_cell? w _ hw494_2)).trans hw494_2)⟩ (fun hHeld => ?_)
     clear hK K
     refine norm_ (a':=?_) ?_ ?_
     rotate_left
     ·show Act.put _ (some 27) _ = _
      simp only [Act.put,List.setIfInBounds_toArray,List.set_cons_zero,List.set_cons_succ,i64_w,i32_w]
      rfl
     refine manyW_ (fuel:=9) (a':=?_) ((8,0) :: (9,0) :: (10,0) :: (11,0) :: (12,0) :: (13,0) :: (14,0) :: (16,0) :: (17,0) :: (18,0) :: (19,0) :: (20,0) :: (15,2) :: (21,2) :: (22,0) :: (23,0) :: (24,0) :: (25,0) :: (26,0) :: (27,2) :: []) #[true,true,true,true,true,true,true,true,true,true,true,true,true,true,true,true,true,true,true,true,true,true,true,true,true,true,true,true,false,false,false,false,false,false,false,false,false] rfl HT_ HW_ (by kernel_rfl) (fun _ _ _ _ _ h => h) (fun _ => hHeld) ?_ ?_
     rotate_left
     ·repeat (first | exact Chain.nil _ | (apply Chain.on;rfl;rfl;(focus intro w';go_simp;with_reducible rfl);(focus simp only [Act.put,List.setIfInBounds_toArray,List.set_cons_zero,List.set_cons_succ,i64_w,i32_w];rfl)) | (apply Chain.take;rfl;rfl;(focus rintro w' ⟨s0,s1,s2,s3,s4,s5⟩;go_simp;with_reducible rfl);(focus simp only [Act.put,List.setIfInBounds_toArray,List.set_cons_zero,List.set_cons_succ,i64_w,i32_w];rfl)))
     refine one_ (i:=28) (N:=some 48) #[true,true,true,true,true,true,true,true,true,true,true,true,true,true,true,true,true,true,true,true,true,true,true,true,true,true,true,true,true,false,false,false,false,false,false,false,false] rfl rfl (one_of HT_.out (by kernel_rfl)) (by decide) (fun K hK => ?_)
     refine goes_ Try.func50 (by kernel_rfl) rfl #[.float .f64 ((rd_T54 l1 x15_1).f1)] (by rfl) rfl rfl (by (try simp only [List.map_toArray,List.map_cons,List.map_nil]);first | done | rfl | (simp only [List.length_drop,List.length_take];rfl)) ?_
     with_reducible refine (metric_Weight.calls ((rd_T54 l1 x15_1).f1) t495 _ A23.out).mono ?_
     rintro e w' ⟨rfl,⟨nd,rfl⟩⟩
     refine ⟨_,rfl,?_⟩
     refine hK.out _ _ ⟨(blk_cell BK492.out 0).trans rfl,(blk_cell BK492.out 1).trans rfl,(blk_cell BK492.out 2).trans rfl,((HB.out.cell (World.block_lt_of_cell? w _ hw494_0)).trans hw494_0),((HB.out.cell (World.block_lt_of_cell? w _ hw494_1)).trans hw494_1),((HB.out.cell (World.block_lt_of_cell? w _ hw494_2)).trans hw494_2)⟩ (fun hHeld => ?_)
     clear hK K
     refine norm_ (a':=?_) ?_ ?_
     rotate_left
     ·show Act.put _ (some 48) _ = _
      simp only [Act.put,List.setIfInBounds_toArray,List.set_cons_zero,List.set_cons_succ,i64_w,i32_w]
      rfl
     refine manyT_ (fuel:=0) (a':=?_) ((29,0) :: (30,0) :: (31,0) :: (32,1) :: (33,1) :: (34,1) :: (35,1) :: (36,0) :: []) #[true,true,true,true,true,true,true,true,true,true,true,true,true,true,true,true,true,true,true,true,true,true,true,true,true,true,true,true,true,true,true,true,true,true,true,true,true] rfl HT_ (by kernel_rfl) (fun _ _ _ _ _ h => h) (fun h => absurd h (by decide)) ?_ ?_
     rotate_left
     ·repeat (first | exact Chain.nil _ | (apply Chain.on;rfl;rfl;(focus intro w';go_simp;with_reducible rfl);(focus simp only [Act.put,List.setIfInBounds_toArray,List.set_cons_zero,List.set_cons_succ,i64_w,i32_w];rfl)) | (apply Chain.off;rfl;rfl;(focus simp only [Act.put,List.setIfInBounds_toArray,List.set_cons_zero,List.set_cons_succ,i64_w,i32_w];rfl)))
     refine done_ (done_of HT_.out (by kernel_rfl)) ?_
     try go_wp2
     go_meet
     case rel => exact ⟨_,(true),(by first | rfl | (simp;done) | (simp [*];done)),H',⟨by have:=HK1.out;first | omega | exact Nat.le_refl _⟩,⟨by (with_reducible repeat (first | refine blk_drewN ?_ _ | refine blk_drew ?_ | refine blk_alloc ?_ _));exact BK492.out⟩,⟨by repeat (first | (with_reducible first | exact HB.out | apply below_alloc | apply pw_below_drewN | apply below_drew1 | refine below_set ?_ GE492.out) | exact HB.out)⟩⟩
    rw [if_pos c24] at H
    have c24b0:(t495 == 0) = true:=beq_iff_eq.mpr c24
    have c24b1:(t495 != 0) = false:=bne_eq_false_iff_eq.mpr c24
    clear c24
    replace H:=Option.bind_eq_some_iff.mp H
    obtain ⟨t496,A250,H⟩:=H
    replace H:(landdv_Check.j1 k1 a0 l1 l1 (l1.length:Int) x15_1 (!t496)) = some r:=H
    have A25:=Aside0.mk A250
    clear A250
    have H':=Aside0.mk H
    clear H
    try go_wp2
    have n0_:Aside0 ((((w9.setCell ⟨gb492,0,none⟩ (.int .i64 ((rd_T54 l1 x15_1).f0))).setCell ⟨gb492,1,none⟩ (.float .f64 ((rd_T54 l1 x15_1).f1))).setCell ⟨gb492,2,none⟩ (.slice A491_2 ((rd_T54 l1 x15_1).f2).length c491_2)).heap[gb492]? = some (.cells #[.int .i64 ((rd_T54 l1 x15_1).f0),.float .f64 ((rd_T54 l1 x15_1).f1),.slice A491_2 ((rd_T54 l1 x15_1).f2).length c491_2] 54 (0,0))):=⟨by (with_reducible repeat (first | refine blk_drewN ?_ _ | refine blk_drew ?_ | refine blk_alloc ?_ _));refine blk_put (cs:=#[.int .i64 ((rd_T54 l1 x15_1).f0),.float .f64 ((rd_T54 l1 x15_1).f1),.slice none 0 0]) ?_ 2 _ rfl;(with_reducible repeat (first | refine blk_drewN ?_ _ | refine blk_drew ?_ | refine blk_alloc ?_ _));refine blk_put (cs:=#[.int .i64 ((rd_T54 l1 x15_1).f0),.float .f64 0,.slice none 0 0]) ?_ 1 _ rfl;(with_reducible repeat (first | refine blk_drewN ?_ _ | refine blk_drew ?_ | refine blk_alloc ?_ _));refine blk_put (cs:=#[.int .i64 0,.float .f64 0,.slice none 0 0]) ?_ 0 _ rfl;(with_reducible repeat (first | refine blk_drewN ?_ _ | refine blk_drew ?_ | refine blk_alloc ?_ _));exact BK492.out⟩
    have n1_:Aside0 (Below w.heap.size w (((w9.setCell ⟨gb492,0,none⟩ (.int .i64 ((rd_T54 l1 x15_1).f0))).setCell ⟨gb492,1,none⟩ (.float .f64 ((rd_T54 l1 x15_1).f1))).setCell ⟨gb492,2,none⟩ (.slice A491_2 ((rd_T54 l1 x15_1).f2).length c491_2))):=⟨by repeat (first | (with_reducible first | exact HB.out | apply below_alloc | apply pw_below_drewN | apply below_drew1 | refine below_set ?_ GE492.out) | exact HB.out)⟩
    (try clear BK492)
    (try clear HB)
    generalize (((w9.setCell ⟨gb492,0,none⟩ (.int .i64 ((rd_T54 l1 x15_1).f0))).setCell ⟨gb492,1,none⟩ (.float .f64 ((rd_T54 l1 x15_1).f1))).setCell ⟨gb492,2,none⟩ (.slice A491_2 ((rd_T54 l1 x15_1).f2).length c491_2)) = w26 at n0_ n1_ ⊢
    have BK492:=n0_
    have HB:=n1_
    clear n0_ n1_
    have n0_:=Aside0.mk (blk_drew BK492.out)
    have n1_:=Aside0.mk (below_drew1 HB.out)
    clear BK492
    clear HB
    have BK492:=n0_
    have HB:=n1_
    clear n0_ n1_
    have p494:0 ≤ ((ji17):Int):=of_decide_eq_true (by first | (with_reducible assumption) | assumption)
    have q494:(ji17) < (l1.length:Int):=of_decide_eq_true (by first | (with_reducible assumption) | assumption)
    obtain ⟨ad494,A494_2,c494_2,e494,hx494_0,hx494_1,hx494_2,hl494_2,hi494_2⟩:=at_T54 HR1.out (ji17) p494 q494
    have hw494_2:=hx494_2
    have hw494_1:=hx494_1
    have hw494_0:=hx494_0
    obtain rfl:ad491 = ad494:=(by injection e494)
    replace hx494_0:=(HB.out.cell (World.block_lt_of_cell? w _ hx494_0)).trans hx494_0
    replace hx494_1:=(HB.out.cell (World.block_lt_of_cell? w _ hx494_1)).trans hx494_1
    replace hx494_2:=(HB.out.cell (World.block_lt_of_cell? w _ hx494_2)).trans hx494_2
    have HR494_2:=Aside0.mk hi494_2
    have HC494_2:=Aside0.mk hl494_2
    clear hi494_2 hl494_2
    replace p494:=eq_true p494
    replace q494:=eq_true q494
    refine start_ (n:=37) (S:=fun w' => w'.cell? ⟨gb492,0,none⟩ = some (.int .i64 ((rd_T54 l1 x15_1).f0)) ∧ w'.cell? ⟨gb492,1,none⟩ = some (.float .f64 ((rd_T54 l1 x15_1).f1)) ∧ w'.cell? ⟨gb492,2,none⟩ = some (.slice A491_2 ((rd_T54 l1 x15_1).f2).length c491_2) ∧ w'.cell? (ad491.add (((ji17)).toNat * 3)) = some (.int .i64 ((rd_T54 l1 (ji17)).f0)) ∧ w'.cell? ⟨(ad491.add (((ji17)).toNat * 3)).block,(ad491.add (((ji17)).toNat * 3)).off + 1,none⟩ = some (.float .f64 ((rd_T54 l1 (ji17)).f1)) ∧ w'.cell? ⟨(ad491.add (((ji17)).toNat * 3)).block,(ad491.add (((ji17)).toNat * 3)).off + 2,none⟩ = some (.slice A494_2 ((rd_T54 l1 (ji17)).f2).length c494_2)) (ds:=[]) #[false,false,false,false,false,false,false,false,false,false,false,false,false,false,false,false,false,false,false,false,false,false,false,false,false,false,false,false,false,false,false,false,false,false,false,false,false] (by kernel_rfl) rfl rfl ⟨(blk_cell BK492.out 0).trans rfl,(blk_cell BK492.out 1).trans rfl,(blk_cell BK492.out 2).trans rfl,((HB.out.cell (World.block_lt_of_cell? w _ hw494_0)).trans hw494_0),((HB.out.cell (World.block_lt_of_cell? w _ hw494_1)).trans hw494_1),((HB.out.cell (World.block_lt_of_cell? w _ hw494_2)).trans hw494_2)⟩ (fun hHeld => ?_);refine with_tabW landdv_Check.tab7 landdv_Check.bits7 (fun HT_ HW_ => ?_)
    generalize w26.drew = w27 at BK492 HB HR494_2 hx494_0 hx494_1 hx494_2 hHeld ⊢
    refine manyW_ (fuel:=30) (a':=?_) ((0,0) :: (2,0) :: (1,2) :: (3,0) :: (4,0) :: (5,0) :: (6,2) :: []) #[true,true,true,true,true,true,true,false,false,false,false,false,false,false,false,false,false,false,false,false,false,false,false,false,false,false,false,false,false,false,false,false,false,false,false,false,false] rfl HT_ HW_ (by kernel_rfl) (fun _ _ _ _ _ h => h) (fun _ => hHeld) ?_ ?_
    rotate_left
    ·repeat (first | exact Chain.nil _ | (apply Chain.on;rfl;rfl;(focus intro w';go_simp;with_reducible rfl);(focus simp only [Act.put,List.setIfInBounds_toArray,List.set_cons_zero,List.set_cons_succ,i64_w,i32_w];rfl)) | (apply Chain.take;rfl;rfl;(focus rintro w' ⟨s0,s1,s2,s3,s4,s5⟩;go_simp;with_reducible rfl);(focus simp only [Act.put,List.setIfInBounds_toArray,List.set_cons_zero,List.set_cons_succ,i64_w,i32_w];rfl)))
    refine one_ (i:=7) (N:=some 27) #[true,true,true,true,true,true,true,true,false,false,false,false,false,false,false,false,false,false,false,false,false,false,false,false,false,false,false,false,false,false,false,false,false,false,false,false,false] rfl rfl (one_of HT_.out (by kernel_rfl)) (by decide) (fun K hK => ?_)
    refine goes_ Try.func49 (by kernel_rfl) rfl #[.int .i64 ((rd_T54 l1 x15_1).f0)] (by rfl) rfl rfl (by (try simp only [List.map_toArray,List.map_cons,List.map_nil]);first | done | rfl | (simp only [List.length_drop,List.length_take];rfl)) ?_
    with_reducible refine (ident_CheckId.calls ((rd_T54 l1 x15_1).f0) t493 _ A14.out).mono ?_
    rintro e w' ⟨rfl,⟨nd,rfl⟩⟩
    refine ⟨_,rfl,?_⟩
    refine hK.out _ _ ⟨(blk_cell BK492.out 0).trans rfl,(blk_cell BK492.out 1).trans rfl,(blk_cell BK492.out 2).trans rfl,((HB.out.cell (World.block_lt_of_cell? w _ hw494_0)).trans hw494_0),((HB.out.cell (World.block_lt_of_cell? w _ hw494_1)).trans hw494_1),((HB.out.cell (World.block_lt_of_cell? w _ hw494_2)).trans hw494_2)⟩ (fun hHeld => ?_)
    clear hK K
    refine norm_ (a':=?_) ?_ ?_
    rotate_left
    ·show Act.put _ (some 27) _ = _
     simp only [Act.put,List.setIfInBounds_toArray,List.set_cons_zero,List.set_cons_succ,i64_w,i32_w]
     rfl
    refine manyW_ (fuel:=9) (a':=?_) ((8,0) :: (9,0) :: (10,0) :: (11,0) :: (12,0) :: (13,0) :: (14,0) :: (16,0) :: (17,0) :: (18,0) :: (19,0) :: (20,0) :: (15,2) :: (21,2) :: (22,0) :: (23,0) :: (24,0) :: (25,0) :: (26,0) :: (27,2) :: []) #[true,true,true,true,true,true,true,true,true,true,true,true,true,true,true,true,true,true,true,true,true,true,true,true,true,true,true,true,false,false,false,false,false,false,false,false,false] rfl HT_ HW_ (by kernel_rfl) (fun _ _ _ _ _ h => h) (fun _ => hHeld) ?_ ?_
    rotate_left
    ·repeat (first | exact Chain.nil _ | (apply Chain.on;rfl;rfl;(focus intro w';go_simp;with_reducible rfl);(focus simp only [Act.put,List.setIfInBounds_toArray,List.set_cons_zero,List.set_cons_succ,i64_w,i32_w];rfl)) | (apply Chain.take;rfl;rfl;(focus rintro w' ⟨s0,s1,s2,s3,s4,s5⟩;go_simp;with_reducible rfl);(focus simp only [Act.put,List.setIfInBounds_toArray,List.set_cons_zero,List.set_cons_succ,i64_w,i32_w];rfl)))
    refine one_ (i:=28) (N:=some 48) #[true,true,true,true,true,true,true,true,true,true,true,true,true,true,true,true,true,true,true,true,true,true,true,true,true,true,true,true,true,false,false,false,false,false,false,false,false] rfl rfl (one_of HT_.out (by kernel_rfl)) (by decide) (fun K hK => ?_)
    refine goes_ Try.func50 (by kernel_rfl) rfl #[.float .f64 ((rd_T54 l1 x15_1).f1)] (by rfl) rfl rfl (by (try simp only [List.map_toArray,List.map_cons,List.map_nil]);first | done | rfl | (simp only [List.length_drop,List.length_take];rfl)) ?_
    with_reducible refine (metric_Weight.calls ((rd_T54 l1 x15_1).f1) t495 _ A23.out).mono ?_
    rintro e w' ⟨rfl,⟨nd,rfl⟩⟩
    refine ⟨_,rfl,?_⟩
    refine hK.out _ _ ⟨(blk_cell BK492.out 0).trans rfl,(blk_cell BK492.out 1).trans rfl,(blk_cell BK492.out 2).trans rfl,((HB.out.cell (World.block_lt_of_cell? w _ hw494_0)).trans hw494_0),((HB.out.cell (World.block_lt_of_cell? w _ hw494_1)).trans hw494_1),((HB.out.cell (World.block_lt_of_cell? w _ hw494_2)).trans hw494_2)⟩ (fun hHeld => ?_)
    clear hK K
    refine norm_ (a':=?_) ?_ ?_
    rotate_left
    ·show Act.put _ (some 48) _ = _
     simp only [Act.put,List.setIfInBounds_toArray,List.set_cons_zero,List.set_cons_succ,i64_w,i32_w]
     rfl
    refine manyW_ (fuel:=3) (a':=?_) ((29,0) :: (30,0) :: (31,0) :: (32,0) :: (33,2) :: []) #[true,true,true,true,true,true,true,true,true,true,true,true,true,true,true,true,true,true,true,true,true,true,true,true,true,true,true,true,true,true,true,true,true,true,false,false,false] rfl HT_ HW_ (by kernel_rfl) (fun _ _ _ _ _ h => h) (fun _ => hHeld) ?_ ?_
    rotate_left
    ·repeat (first | exact Chain.nil _ | (apply Chain.on;rfl;rfl;(focus intro w';go_simp;with_reducible rfl);(focus simp only [Act.put,List.setIfInBounds_toArray,List.set_cons_zero,List.set_cons_succ,i64_w,i32_w];rfl)) | (apply Chain.take;rfl;rfl;(focus rintro w' ⟨s0,s1,s2,s3,s4,s5⟩;go_simp;with_reducible rfl);(focus simp only [Act.put,List.setIfInBounds_toArray,List.set_cons_zero,List.set_cons_succ,i64_w,i32_w];rfl)))
    refine one_ (i:=34) (N:=some 54) #[true,true,true,true,true,true,true,true,true,true,true,true,true,true,true,true,true,true,true,true,true,true,true,true,true,true,true,true,true,true,true,true,true,true,true,false,false] rfl rfl (one_of HT_.out (by kernel_rfl)) (by decide) (fun K hK => ?_)
    refine goes_ Try.func51 (by kernel_rfl) rfl #[.slice A491_2 ((rd_T54 l1 x15_1).f2).length c491_2] (by rfl) rfl rfl (by (try simp only [List.map_toArray,List.map_cons,List.map_nil]);first | done | rfl | (simp only [List.length_drop,List.length_take];rfl)) ?_
    with_reducible refine (landdv_list.calls _ _ ((rd_T54 l1 x15_1).f2) t496 _ ?side1 ?side2 A25.out).mono ?_
    (case side1 => repeat (first | exact (Kd.C_below HR491_2.out (by repeat (first | (with_reducible first | exact HB.out | apply below_alloc | apply pw_below_drewN | apply below_drew1 | refine below_set ?_ GE492.out) | exact HB.out))) | (with_reducible refine Kd.C_alloc ?_ _) | (with_reducible refine Kd.C_drewN ?_ _) | (with_reducible refine Kd.C_drew ?_)))
    (case side2 => exact HC491_2.out)
    rintro e w28 ⟨rfl,hb⟩
    refine ⟨_,rfl,?_⟩
    have n0_:=Aside0.mk (blk_below (g:=gb492) (o:=.cells #[.int .i64 ((rd_T54 l1 x15_1).f0),.float .f64 ((rd_T54 l1 x15_1).f1),.slice A491_2 ((rd_T54 l1 x15_1).f2).length c491_2] 54 (0,0)) (by (with_reducible repeat (first | refine blk_drewN ?_ _ | refine blk_drew ?_ | refine blk_alloc ?_ _));exact BK492.out) hb)
    have n1_:=Aside0.mk (below_step (by repeat (first | (with_reducible first | exact HB.out | apply below_alloc | apply pw_below_drewN | apply below_drew1 | refine below_set ?_ GE492.out) | exact HB.out)) hb)
    clear BK492
    clear HB
    have BK492:=n0_
    have HB:=n1_
    clear n0_ n1_
    (try clear hb)
    (try clear hb2)
    (try clear hk)
    (try clear hi)
    refine hK.out _ _ ⟨(blk_cell BK492.out 0).trans rfl,(blk_cell BK492.out 1).trans rfl,(blk_cell BK492.out 2).trans rfl,((HB.out.cell (World.block_lt_of_cell? w _ hw494_0)).trans hw494_0),((HB.out.cell (World.block_lt_of_cell? w _ hw494_1)).trans hw494_1),((HB.out.cell (World.block_lt_of_cell? w _ hw494_2)).trans hw494_2)⟩ (fun hHeld => ?_)
    clear hK K
    refine norm_ (a':=?_) ?_ ?_
    rotate_left
    ·show Act.put _ (some 54) _ = _
     simp only [Act.put,List.setIfInBounds_toArray,List.set_cons_zero,List.set_cons_succ,i64_w,i32_w]
     rfl
    refine manyT_ (fuel:=0) (a':=?_) ((35,0) :: (36,0) :: []) #[true,true,true,true,true,true,true,true,true,true,true,true,true,true,true,true,true,true,true,true,true,true,true,true,true,true,true,true,true,true,true,true,true,true,true,true,true] rfl HT_ (by kernel_rfl) (fun _ _ _ _ _ h => h) (fun h => absurd h (by decide)) ?_ ?_
    rotate_left
    ·repeat (first | exact Chain.nil _ | (apply Chain.on;rfl;rfl;(focus intro w';go_simp;with_reducible rfl);(focus simp only [Act.put,List.setIfInBounds_toArray,List.set_cons_zero,List.set_cons_succ,i64_w,i32_w];rfl)))
    refine done_ (done_of HT_.out (by kernel_rfl)) ?_
    try go_wp2
    go_meet
    case rel => exact ⟨_,(!t496),(by first | rfl | (simp;done) | (simp [*];done)),H',⟨by have:=HK1.out;first | omega | exact Nat.le_refl _⟩,⟨by (with_reducible repeat (first | refine blk_drewN ?_ _ | refine blk_drew ?_ | refine blk_alloc ?_ _));exact BK492.out⟩,⟨by repeat (first | (with_reducible first | exact HB.out | apply below_alloc | apply pw_below_drewN | apply below_drew1 | refine below_set ?_ GE492.out) | exact HB.out)⟩⟩
   case rest =>
    clear HC8
    obtain ⟨kq,x56_7,rfl,HA,HJ7,BK492,HB⟩:=hcut
    cases kq with
    | zero => exact absurd HA.out (by simp [landdv_Check.j1])
    | succ kj7 =>
     have H:=HA.out
     clear HA
     simp only [landdv_Check.j1] at H
     by_cases c41:x56_7 = true
     ·subst c41
      have H1:(some 1) = some r:=by rw [if_pos rfl] at H;exact H
      clear H
      have H:=H1
      clear H1
      obtain rfl:=Option.some.inj H
      go_wp2
      go_ret
      exact ⟨by first | rfl | (simp [errW_none,errW_some] <;> rfl) | (simp [*,errW_none,errW_some] <;> rfl),by repeat (first | (with_reducible first | exact HB.out | apply below_alloc | apply pw_below_drewN | apply below_drew1 | refine below_set ?_ GE492.out) | exact HB.out)⟩
     replace c41:=Bool.eq_false_iff.mpr c41
     subst c41
     have H1:(landdv_Check.l0 kj7 a0 l1 l1 (l1.length:Int) (wrap64 (x15_1 + 1))) = some r:=by rw [if_neg (show ¬ (false = true) by decide)] at H;exact H
     clear H
     have H:=H1
     clear H1
     have H':=Aside0.mk H
     clear H
     go_wp2
     go_roundg kj7
     case measure => have:=HK1.out;have:=HJ7.out;omega
     case rel => exact ⟨(wrap64 (x15_1 + 1)),(by first | rfl | (simp;done) | (simp [*];done)),H',⟨by have:=HK1.out;have:=HJ7.out;omega⟩,⟨by repeat (first | (with_reducible first | exact HB.out | apply below_alloc | apply pw_below_drewN | apply below_drew1 | refine below_set ?_ GE492.out) | exact HB.out)⟩⟩
end Go.Proofs.Ytjcnmpkaiopihaa.PA
