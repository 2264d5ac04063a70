/- Printed by a program of this session (wip/tools/patch_print.py and pr.py, over the kit's print): each Go function as a plain Lean function, and that the Go code comes to just its answers. Conditions: those that each theorem names. -/
import Derived.Test.YtjcnmpkaiopihaaZoPAx0
import Derived.Test.YtjcnmpkaiopihaaZoPAx2
import Derived.Test.YtjcnmpkaiopihaaZoPAx32
namespace Go.Proofs.Ytjcnmpkaiopihaa.PA
open Go.RowKit Go.Proofs.YtjcnmpkaiopihaaW.PrintWords Go.Proofs.YtjcnmpkaiopihaaW.PrintLast Go.Proofs.YtjcnmpkaiopihaaW.PrintMore
attribute [local go_sem] max2_int min2_int max_two min_two max_three min_three max_four min_four
set_option linter.unusedVariables false
set_option linter.unusedSimpArgs false
mutual
def scopedv_ball.j0:Nat → Bool → Int → Int → Nat → Int → Nat → Int → Option (Bool)
 | 0,_,_,_,_,_,_,_ => none
 | k + 1,x30,x479000,x479001,x479002,x479003,x479004,x479005 => if x30 = true then (some false) else ((scopedv_distance.f k x479002).bind fun t483 => (if t483 = true then (if (FloatKind.f64.format.order x479002 0 == some .eq) = true then (scopedv_ball.j1 k true x479000 x479001 x479002 x479003 x479004 x479005) else ((math_IsInf.f x479002 1).bind fun t484 => (if t484 = true then (scopedv_ball.j1 k true x479000 x479001 x479002 x479003 x479004 x479005) else ((scopedv_distance.f k x479004).bind fun t485 => (if t485 = true then (scopedv_ball.j1 k (FloatKind.f64.format.order x479004 x479002 == some .lt) x479000 x479001 x479002 x479003 x479004 x479005) else (scopedv_ball.j1 k true x479000 x479001 x479002 x479003 x479004 x479005)))))) else (scopedv_ball.j1 k true x479000 x479001 x479002 x479003 x479004 x479005)))
def scopedv_ball.j1:Nat → Bool → Int → Int → Nat → Int → Nat → Int → Option (Bool)
 | 0,_,_,_,_,_,_,_ => none
 | k + 1,x57,x479000,x479001,x479002,x479003,x479004,x479005 => if x57 = true then (some false) else ((math_IsInf.f x479004 1).bind fun t486 => (if t486 = true then (some (x479005 == 0)) else ((scopedv_number.f x479005).bind fun t487 => (some t487))))
end
def scopedv_ball.f (k:Nat) (a0:Int) (a1_0:Int) (a1_1:Int) (a1_2:Nat) (a1_3:Int) (a1_4:Nat) (a1_5:Int):Option (Bool):=if a1_1 = 2 then ((scopedv_number.f a1_0).bind fun t479 => (if t479 = true then (if a1_0 = a0 then (scopedv_ball.j0 k true a1_0 a1_1 a1_2 a1_3 a1_4 a1_5) else ((scopedv_number.f a1_3).bind fun t480 => (scopedv_ball.j0 k (!t480) a1_0 a1_1 a1_2 a1_3 a1_4 a1_5))) else (scopedv_ball.j0 k true a1_0 a1_1 a1_2 a1_3 a1_4 a1_5))) else (if a1_1 = 3 then ((scopedv_number.f a1_0).bind fun t481 => (if t481 = true then (if a1_0 = a0 then (scopedv_ball.j0 k true a1_0 a1_1 a1_2 a1_3 a1_4 a1_5) else ((scopedv_number.f a1_3).bind fun t482 => (scopedv_ball.j0 k (!t482) a1_0 a1_1 a1_2 a1_3 a1_4 a1_5))) else (scopedv_ball.j0 k true a1_0 a1_1 a1_2 a1_3 a1_4 a1_5))) else (scopedv_ball.j0 k true a1_0 a1_1 a1_2 a1_3 a1_4 a1_5))
set_option maxHeartbeats 8000000 in
set_option maxRecDepth 100000 in
theorem scopedv_ball.calls (k:Nat) (a0:Int) (a1_0:Int) (a1_1:Int) (a1_2:Nat) (a1_3:Int) (a1_4:Nat) (a1_5:Int) (r:Bool) (w:World) (h:scopedv_ball.f k a0 a1_0 a1_1 a1_2 a1_3 a1_4 a1_5 = some r) :
  Calls Try.prog 56 #[.int .i64 a0,.agg #[.int .i64 a1_0,.int .i64 a1_1,.float .f64 a1_2,.int .i64 a1_3,.float .f64 a1_4,.int .i64 a1_5]] w fun e w' => e = .returned (.bool r) ∧ Below w.heap.size w w':=by
 have hu58:=Try.underlying58
 have HB:=Aside0.mk (Below.refl w.heap.size w)
 have H:(if a1_1 = 2 then ((scopedv_number.f a1_0).bind fun t479 => (if t479 = true then (if a1_0 = a0 then (scopedv_ball.j0 k true a1_0 a1_1 a1_2 a1_3 a1_4 a1_5) else ((scopedv_number.f a1_3).bind fun t480 => (scopedv_ball.j0 k (!t480) a1_0 a1_1 a1_2 a1_3 a1_4 a1_5))) else (scopedv_ball.j0 k true a1_0 a1_1 a1_2 a1_3 a1_4 a1_5))) else (if a1_1 = 3 then ((scopedv_number.f a1_0).bind fun t481 => (if t481 = true then (if a1_0 = a0 then (scopedv_ball.j0 k true a1_0 a1_1 a1_2 a1_3 a1_4 a1_5) else ((scopedv_number.f a1_3).bind fun t482 => (scopedv_ball.j0 k (!t482) a1_0 a1_1 a1_2 a1_3 a1_4 a1_5))) else (scopedv_ball.j0 k true a1_0 a1_1 a1_2 a1_3 a1_4 a1_5))) else (scopedv_ball.j0 k true a1_0 a1_1 a1_2 a1_3 a1_4 a1_5))) = some r:=h
 clear h
 have HC3:=Aside0.mk H
 clear H
 go_enter Try.func56,Try.ntmps56
 go_upto_region 1 with (first | ((with_reducible refine gate_dst (N:=3) rfl ?_);refine box_event ?hg (N:=3) ?hd (cs:=#[.int .i64 a1_0,.int .i64 a1_1,.float .f64 a1_2,.int .i64 a1_3,.float .f64 a1_4,.int .i64 a1_5]) (t:=58) ?hr ?_;(case hd => rfl);(case hg => rfl);(case hr => first | (go_simp;done) | (go_simp;rfl));intro gb478 hg w4 hbox hb;have n0_:=Aside0.mk (below_step (by repeat (first | (with_reducible first | exact HB.out | apply below_alloc | apply pw_below_drewN | apply below_drew1) | exact HB.out)) hb);have n1_:=Aside0.mk (hbox);have n2_:=Aside0.mk ((by rw [hg];exact (below_size (by repeat (first | (with_reducible first | exact HB.out | apply below_alloc | apply pw_below_drewN | apply below_drew1) | exact HB.out))):w.heap.size ≤ gb478));have n3_:=Aside0.mk ((by rw [hg];exact (below_size (by repeat (first | (with_reducible first | exact HB.out | apply below_alloc | apply pw_below_drewN | apply below_drew1) | exact HB.out))):w.heap.size ≤ gb478));clear HB;have HB:=n0_;have BK478:=n1_;have GW478:=n2_;have GE478:=n3_;clear n0_ n1_ n2_ n3_;clear hb hbox hg))
 (try simp only [Act.put,List.setIfInBounds_toArray,List.set_cons_zero,List.set_cons_succ])
 go_cut [30] (fun v30 wc => ∃ (kq:Nat) (x30_2:Bool),v30 = .bool x30_2 ∧ Aside0 (scopedv_ball.j0 kq x30_2 a1_0 a1_1 a1_2 a1_3 a1_4 a1_5 = some r) ∧ Aside0 (kq ≤ k) ∧ Aside0 (wc.heap[gb478]? = some (.cells #[.int .i64 a1_0,.int .i64 a1_1,.float .f64 a1_2,.int .i64 a1_3,.float .f64 a1_4,.int .i64 a1_5] 58 (0,0))) ∧ Aside0 (Below w.heap.size w wc))
 case first =>
  have H:=HC3.out
  clear HC3
  by_cases c5:a1_1 = 2
  ·rw [if_pos c5] at H
   have c5b0:(a1_1 == 2) = true:=beq_iff_eq.mpr c5
   have c5b1:(a1_1 != 2) = false:=bne_eq_false_iff_eq.mpr c5
   clear c5
   (first | rw [c5b0] | (simp only [i64_w,i32_w];rw [c5b0]) | skip)
   replace H:=Option.bind_eq_some_iff.mp H
   obtain ⟨t479,A60,H⟩:=H
   replace H:(if t479 = true then (if a1_0 = a0 then (scopedv_ball.j0 k true a1_0 a1_1 a1_2 a1_3 a1_4 a1_5) else ((scopedv_number.f a1_3).bind fun t480 => (scopedv_ball.j0 k (!t480) a1_0 a1_1 a1_2 a1_3 a1_4 a1_5))) else (scopedv_ball.j0 k true a1_0 a1_1 a1_2 a1_3 a1_4 a1_5)) = some r:=H
   have A6:=Aside0.mk A60
   clear A60
   by_cases c7:t479 = true
   rotate_left
   ·replace c7:=Bool.eq_false_iff.mpr c7
    subst c7
    have H1:(scopedv_ball.j0 k true a1_0 a1_1 a1_2 a1_3 a1_4 a1_5) = some r:=by rw [if_neg (show ¬ (false = true) by decide)] at H;exact H
    clear H
    have H:=H1
    clear H1
    have H':=Aside0.mk H
    clear H
    have hcz12_0:w4.cell? ⟨gb478,0,none⟩ = some (.int .i64 a1_0):=(blk_cell BK478.out 0).trans rfl
    have hcz12_1:w4.cell? ⟨gb478,1,none⟩ = some (.int .i64 a1_1):=(blk_cell BK478.out 1).trans rfl
    have hcz12_2:w4.cell? ⟨gb478,2,none⟩ = some (.float .f64 a1_2):=(blk_cell BK478.out 2).trans rfl
    have hcz12_3:w4.cell? ⟨gb478,3,none⟩ = some (.int .i64 a1_3):=(blk_cell BK478.out 3).trans rfl
    have hcz12_4:w4.cell? ⟨gb478,4,none⟩ = some (.float .f64 a1_4):=(blk_cell BK478.out 4).trans rfl
    have hcz12_5:w4.cell? ⟨gb478,5,none⟩ = some (.int .i64 a1_5):=(blk_cell BK478.out 5).trans rfl
    have hfz12_0:=blk_frozen BK478.out 0
    have hfz12_1:=blk_frozen BK478.out 1
    have hfz12_2:=blk_frozen BK478.out 2
    have hfz12_3:=blk_frozen BK478.out 3
    have hfz12_4:=blk_frozen BK478.out 4
    have hfz12_5:=blk_frozen BK478.out 5
    go_wp2_with (first | (go_at_call 54;(with_reducible refine (scopedv_number.calls a1_0 false _ A6.out).mono ?_);rintro e w' ⟨rfl,⟨nd,rfl⟩⟩))
    go_meet
    case rel => exact ⟨_,(true),(by first | rfl | (simp;done) | (simp [*];done)),H',⟨by first | omega | exact Nat.le_refl _⟩,⟨by (with_reducible repeat (first | refine blk_drewN ?_ _ | refine blk_drew ?_ | refine blk_alloc ?_ _));exact BK478.out⟩,⟨by repeat (first | (with_reducible first | exact HB.out | apply below_alloc | apply pw_below_drewN | apply below_drew1 | refine below_set ?_ GE478.out) | exact HB.out)⟩⟩
   subst c7
   have H1:(if a1_0 = a0 then (scopedv_ball.j0 k true a1_0 a1_1 a1_2 a1_3 a1_4 a1_5) else ((scopedv_number.f a1_3).bind fun t480 => (scopedv_ball.j0 k (!t480) a1_0 a1_1 a1_2 a1_3 a1_4 a1_5))) = some r:=by rw [if_pos rfl] at H;exact H
   clear H
   have H:=H1
   clear H1
   by_cases c8:a1_0 = a0
   ·rw [if_pos c8] at H
    have c8b0:(a1_0 == a0) = true:=beq_iff_eq.mpr c8
    have c8b1:(a1_0 != a0) = false:=bne_eq_false_iff_eq.mpr c8
    clear c8
    have H':=Aside0.mk H
    clear H
    have hcz9_0:w4.cell? ⟨gb478,0,none⟩ = some (.int .i64 a1_0):=(blk_cell BK478.out 0).trans rfl
    have hcz9_1:w4.cell? ⟨gb478,1,none⟩ = some (.int .i64 a1_1):=(blk_cell BK478.out 1).trans rfl
    have hcz9_2:w4.cell? ⟨gb478,2,none⟩ = some (.float .f64 a1_2):=(blk_cell BK478.out 2).trans rfl
    have hcz9_3:w4.cell? ⟨gb478,3,none⟩ = some (.int .i64 a1_3):=(blk_cell BK478.out 3).trans rfl
    have hcz9_4:w4.cell? ⟨gb478,4,none⟩ = some (.float .f64 a1_4):=(blk_cell BK478.out 4).trans rfl
    have hcz9_5:w4.cell? ⟨gb478,5,none⟩ = some (.int .i64 a1_5):=(blk_cell BK478.out 5).trans rfl
    have hfz9_0:=blk_frozen BK478.out 0
    have hfz9_1:=blk_frozen BK478.out 1
    have hfz9_2:=blk_frozen BK478.out 2
    have hfz9_3:=blk_frozen BK478.out 3
    have hfz9_4:=blk_frozen BK478.out 4
    have hfz9_5:=blk_frozen BK478.out 5
    go_wp2_with (first | (go_at_call 54;(with_reducible refine (scopedv_number.calls a1_0 true _ A6.out).mono ?_);rintro e w' ⟨rfl,⟨nd,rfl⟩⟩))
    go_meet
    case rel => exact ⟨_,(true),(by first | rfl | (simp;done) | (simp [*];done)),H',⟨by first | omega | exact Nat.le_refl _⟩,⟨by (with_reducible repeat (first | refine blk_drewN ?_ _ | refine blk_drew ?_ | refine blk_alloc ?_ _));exact BK478.out⟩,⟨by repeat (first | (with_reducible first | exact HB.out | apply below_alloc | apply pw_below_drewN | apply below_drew1 | refine below_set ?_ GE478.out) | exact HB.out)⟩⟩
   rw [if_neg c8] at H
   have c8b0:(a1_0 == a0) = false:=beq_eq_false_iff_ne.mpr c8
   have c8b1:(a1_0 != a0) = true:=bne_iff_ne.mpr c8
   replace H:=Option.bind_eq_some_iff.mp H
   obtain ⟨t480,A100,H⟩:=H
   replace H:(scopedv_ball.j0 k (!t480) a1_0 a1_1 a1_2 a1_3 a1_4 a1_5) = some r:=H
   have A10:=Aside0.mk A100
   clear A100
   have H':=Aside0.mk H
   clear H
   have hcz11_0:w4.cell? ⟨gb478,0,none⟩ = some (.int .i64 a1_0):=(blk_cell BK478.out 0).trans rfl
   have hcz11_1:w4.cell? ⟨gb478,1,none⟩ = some (.int .i64 a1_1):=(blk_cell BK478.out 1).trans rfl
   have hcz11_2:w4.cell? ⟨gb478,2,none⟩ = some (.float .f64 a1_2):=(blk_cell BK478.out 2).trans rfl
   have hcz11_3:w4.cell? ⟨gb478,3,none⟩ = some (.int .i64 a1_3):=(blk_cell BK478.out 3).trans rfl
   have hcz11_4:w4.cell? ⟨gb478,4,none⟩ = some (.float .f64 a1_4):=(blk_cell BK478.out 4).trans rfl
   have hcz11_5:w4.cell? ⟨gb478,5,none⟩ = some (.int .i64 a1_5):=(blk_cell BK478.out 5).trans rfl
   have hfz11_0:=blk_frozen BK478.out 0
   have hfz11_1:=blk_frozen BK478.out 1
   have hfz11_2:=blk_frozen BK478.out 2
   have hfz11_3:=blk_frozen BK478.out 3
   have hfz11_4:=blk_frozen BK478.out 4
   have hfz11_5:=blk_frozen BK478.out 5
   go_wp2_with (first | (go_at_call 54;(with_reducible refine (scopedv_number.calls a1_0 true _ A6.out).mono ?_);rintro e w' ⟨rfl,⟨nd,rfl⟩⟩) | (go_at_call 54;(with_reducible refine (scopedv_number.calls a1_3 t480 _ A10.out).mono ?_);rintro e w' ⟨rfl,⟨nd,rfl⟩⟩))
   go_meet
   case rel => exact ⟨_,(!t480),(by first | rfl | (simp;done) | (simp [*];done)),H',⟨by first | omega | exact Nat.le_refl _⟩,⟨by (with_reducible repeat (first | refine blk_drewN ?_ _ | refine blk_drew ?_ | refine blk_alloc ?_ _));exact BK478.out⟩,⟨by repeat (first | (with_reducible first | exact HB.out | apply below_alloc | apply pw_below_drewN | apply below_drew1 | refine below_set ?_ GE478.out) | exact HB.out)⟩⟩
  rw [if_neg c5] at H
  have c5b0:(a1_1 == 2) = false:=beq_eq_false_iff_ne.mpr c5
  have c5b1:(a1_1 != 2) = true:=bne_iff_ne.mpr c5
  (first | rw [c5b0] | (simp only [i64_w,i32_w];rw [c5b0]) | skip)
  by_cases c13:a1_1 = 3
  rotate_left
  ·rw [if_neg c13] at H
   have c13b0:(a1_1 == 3) = false:=beq_eq_false_iff_ne.mpr c13
   have c13b1:(a1_1 != 3) = true:=bne_iff_ne.mpr c13
   have H':=Aside0.mk H
   clear H
   have hcz21_0:w4.cell? ⟨gb478,0,none⟩ = some (.int .i64 a1_0):=(blk_cell BK478.out 0).trans rfl
   have hcz21_1:w4.cell? ⟨gb478,1,none⟩ = some (.int .i64 a1_1):=(blk_cell BK478.out 1).trans rfl
   have hcz21_2:w4.cell? ⟨gb478,2,none⟩ = some (.float .f64 a1_2):=(blk_cell BK478.out 2).trans rfl
   have hcz21_3:w4.cell? ⟨gb478,3,none⟩ = some (.int .i64 a1_3):=(blk_cell BK478.out 3).trans rfl
   have hcz21_4:w4.cell? ⟨gb478,4,none⟩ = some (.float .f64 a1_4):=(blk_cell BK478.out 4).trans rfl
   have hcz21_5:w4.cell? ⟨gb478,5,none⟩ = some (.int .i64 a1_5):=(blk_cell BK478.out 5).trans rfl
   have hfz21_0:=blk_frozen BK478.out 0
   have hfz21_1:=blk_frozen BK478.out 1
   have hfz21_2:=blk_frozen BK478.out 2
   have hfz21_3:=blk_frozen BK478.out 3
   have hfz21_4:=blk_frozen BK478.out 4
   have hfz21_5:=blk_frozen BK478.out 5
   go_wp2
   go_meet
   case rel => exact ⟨_,(true),(by first | rfl | (simp;done) | (simp [*];done)),H',⟨by first | omega | exact Nat.le_refl _⟩,⟨by (with_reducible repeat (first | refine blk_drewN ?_ _ | refine blk_drew ?_ | refine blk_alloc ?_ _));exact BK478.out⟩,⟨by repeat (first | (with_reducible first | exact HB.out | apply below_alloc | apply pw_below_drewN | apply below_drew1 | refine below_set ?_ GE478.out) | exact HB.out)⟩⟩
  rw [if_pos c13] at H
  have c13b0:(a1_1 == 3) = true:=beq_iff_eq.mpr c13
  have c13b1:(a1_1 != 3) = false:=bne_eq_false_iff_eq.mpr c13
  clear c13
  replace H:=Option.bind_eq_some_iff.mp H
  obtain ⟨t481,A140,H⟩:=H
  replace H:(if t481 = true then (if a1_0 = a0 then (scopedv_ball.j0 k true a1_0 a1_1 a1_2 a1_3 a1_4 a1_5) else ((scopedv_number.f a1_3).bind fun t482 => (scopedv_ball.j0 k (!t482) a1_0 a1_1 a1_2 a1_3 a1_4 a1_5))) else (scopedv_ball.j0 k true a1_0 a1_1 a1_2 a1_3 a1_4 a1_5)) = some r:=H
  have A14:=Aside0.mk A140
  clear A140
  by_cases c15:t481 = true
  rotate_left
  ·replace c15:=Bool.eq_false_iff.mpr c15
   subst c15
   have H1:(scopedv_ball.j0 k true a1_0 a1_1 a1_2 a1_3 a1_4 a1_5) = some r:=by rw [if_neg (show ¬ (false = true) by decide)] at H;exact H
   clear H
   have H:=H1
   clear H1
   have H':=Aside0.mk H
   clear H
   have hcz20_0:w4.cell? ⟨gb478,0,none⟩ = some (.int .i64 a1_0):=(blk_cell BK478.out 0).trans rfl
   have hcz20_1:w4.cell? ⟨gb478,1,none⟩ = some (.int .i64 a1_1):=(blk_cell BK478.out 1).trans rfl
   have hcz20_2:w4.cell? ⟨gb478,2,none⟩ = some (.float .f64 a1_2):=(blk_cell BK478.out 2).trans rfl
   have hcz20_3:w4.cell? ⟨gb478,3,none⟩ = some (.int .i64 a1_3):=(blk_cell BK478.out 3).trans rfl
   have hcz20_4:w4.cell? ⟨gb478,4,none⟩ = some (.float .f64 a1_4):=(blk_cell BK478.out 4).trans rfl
   have hcz20_5:w4.cell? ⟨gb478,5,none⟩ = some (.int .i64 a1_5):=(blk_cell BK478.out 5).trans rfl
   have hfz20_0:=blk_frozen BK478.out 0
   have hfz20_1:=blk_frozen BK478.out 1
   have hfz20_2:=blk_frozen BK478.out 2
   have hfz20_3:=blk_frozen BK478.out 3
   have hfz20_4:=blk_frozen BK478.out 4
   have hfz20_5:=blk_frozen BK478.out 5
   go_wp2_with (first | (go_at_call 54;(with_reducible refine (scopedv_number.calls a1_0 false _ A14.out).mono ?_);rintro e w' ⟨rfl,⟨nd,rfl⟩⟩))
   go_meet
   case rel => exact ⟨_,(true),(by first | rfl | (simp;done) | (simp [*];done)),H',⟨by first | omega | exact Nat.le_refl _⟩,⟨by (with_reducible repeat (first | refine blk_drewN ?_ _ | refine blk_drew ?_ | refine blk_alloc ?_ _));exact BK478.out⟩,⟨by repeat (first | (with_reducible first | exact HB.out | apply below_alloc | apply pw_below_drewN | apply below_drew1 | refine below_set ?_ GE478.out) | exact HB.out)⟩⟩
  subst c15
  have H1:(if a1_0 = a0 then (scopedv_ball.j0 k true a1_0 a1_1 a1_2 a1_3 a1_4 a1_5) else ((scopedv_number.f a1_3).bind fun t482 => (scopedv_ball.j0 k (!t482) a1_0 a1_1 a1_2 a1_3 a1_4 a1_5))) = some r:=by rw [if_pos rfl] at H;exact H
  clear H
  have H:=H1
  clear H1
  by_cases c16:a1_0 = a0
  ·rw [if_pos c16] at H
   have c16b0:(a1_0 == a0) = true:=beq_iff_eq.mpr c16
   have c16b1:(a1_0 != a0) = false:=bne_eq_false_iff_eq.mpr c16
   clear c16
   have H':=Aside0.mk H
   clear H
   have hcz17_0:w4.cell? ⟨gb478,0,none⟩ = some (.int .i64 a1_0):=(blk_cell BK478.out 0).trans rfl
   have hcz17_1:w4.cell? ⟨gb478,1,none⟩ = some (.int .i64 a1_1):=(blk_cell BK478.out 1).trans rfl
   have hcz17_2:w4.cell? ⟨gb478,2,none⟩ = some (.float .f64 a1_2):=(blk_cell BK478.out 2).trans rfl
   have hcz17_3:w4.cell? ⟨gb478,3,none⟩ = some (.int .i64 a1_3):=(blk_cell BK478.out 3).trans rfl
   have hcz17_4:w4.cell? ⟨gb478,4,none⟩ = some (.float .f64 a1_4):=(blk_cell BK478.out 4).trans rfl
   have hcz17_5:w4.cell? ⟨gb478,5,none⟩ = some (.int .i64 a1_5):=(blk_cell BK478.out 5).trans rfl
   have hfz17_0:=blk_frozen BK478.out 0
   have hfz17_1:=blk_frozen BK478.out 1
   have hfz17_2:=blk_frozen BK478.out 2
   have hfz17_3:=blk_frozen BK478.out 3
   have hfz17_4:=blk_frozen BK478.out 4
   have hfz17_5:=blk_frozen BK478.out 5
   go_wp2_with (first | (go_at_call 54;(with_reducible refine (scopedv_number.calls a1_0 true _ A14.out).mono ?_);rintro e w' ⟨rfl,⟨nd,rfl⟩⟩))
   go_meet
   case rel => exact ⟨_,(true),(by first | rfl | (simp;done) | (simp [*];done)),H',⟨by first | omega | exact Nat.le_refl _⟩,⟨by (with_reducible repeat (first | refine blk_drewN ?_ _ | refine blk_drew ?_ | refine blk_alloc ?_ _));exact BK478.out⟩,⟨by repeat (first | (with_reducible first | exact HB.out | apply below_alloc | apply pw_below_drewN | apply below_drew1 | refine below_set ?_ GE478.out) | exact HB.out)⟩⟩
  rw [if_neg c16] at H
  have c16b0:(a1_0 == a0) = false:=beq_eq_false_iff_ne.mpr c16
  have c16b1:(a1_0 != a0) = true:=bne_iff_ne.mpr c16
  replace H:=Option.bind_eq_some_iff.mp H
  obtain ⟨t482,A180,H⟩:=H
  replace H:(scopedv_ball.j0 k (!t482) a1_0 a1_1 a1_2 a1_3 a1_4 a1_5) = some r:=H
  have A18:=Aside0.mk A180
  clear A180
  have H':=Aside0.mk H
  clear H
  have hcz19_0:w4.cell? ⟨gb478,0,none⟩ = some (.int .i64 a1_0):=(blk_cell BK478.out 0).trans rfl
  have hcz19_1:w4.cell? ⟨gb478,1,none⟩ = some (.int .i64 a1_1):=(blk_cell BK478.out 1).trans rfl
  have hcz19_2:w4.cell? ⟨gb478,2,none⟩ = some (.float .f64 a1_2):=(blk_cell BK478.out 2).trans rfl
  have hcz19_3:w4.cell? ⟨gb478,3,none⟩ = some (.int .i64 a1_3):=(blk_cell BK478.out 3).trans rfl
  have hcz19_4:w4.cell? ⟨gb478,4,none⟩ = some (.float .f64 a1_4):=(blk_cell BK478.out 4).trans rfl
  have hcz19_5:w4.cell? ⟨gb478,5,none⟩ = some (.int .i64 a1_5):=(blk_cell BK478.out 5).trans rfl
  have hfz19_0:=blk_frozen BK478.out 0
  have hfz19_1:=blk_frozen BK478.out 1
  have hfz19_2:=blk_frozen BK478.out 2
  have hfz19_3:=blk_frozen BK478.out 3
  have hfz19_4:=blk_frozen BK478.out 4
  have hfz19_5:=blk_frozen BK478.out 5
  go_wp2_with (first | (go_at_call 54;(with_reducible refine (scopedv_number.calls a1_0 true _ A14.out).mono ?_);rintro e w' ⟨rfl,⟨nd,rfl⟩⟩) | (go_at_call 54;(with_reducible refine (scopedv_number.calls a1_3 t482 _ A18.out).mono ?_);rintro e w' ⟨rfl,⟨nd,rfl⟩⟩))
  go_meet
  case rel => exact ⟨_,(!t482),(by first | rfl | (simp;done) | (simp [*];done)),H',⟨by first | omega | exact Nat.le_refl _⟩,⟨by (with_reducible repeat (first | refine blk_drewN ?_ _ | refine blk_drew ?_ | refine blk_alloc ?_ _));exact BK478.out⟩,⟨by repeat (first | (with_reducible first | exact HB.out | apply below_alloc | apply pw_below_drewN | apply below_drew1 | refine below_set ?_ GE478.out) | exact HB.out)⟩⟩
 case rest =>
  clear HC3
  obtain ⟨kq,x30_2,rfl,HA,HJ2,BK478,HB⟩:=hcut
  cases kq with
  | zero => exact absurd HA.out (by simp [scopedv_ball.j0])
  | succ kj2 =>
   have H:=HA.out
   clear HA
   simp only [scopedv_ball.j0] at H
   by_cases c22:x30_2 = true
   ·subst c22
    have H1:(some false) = some r:=by rw [if_pos rfl] at H;exact H
    clear H
    have H:=H1
    clear H1
    obtain rfl:=Option.some.inj H
    go_wp2
    go_ret
    exact ⟨by first | rfl | (simp [errW_none,errW_some] <;> rfl) | (simp [*,errW_none,errW_some] <;> rfl),by repeat (first | (with_reducible first | exact HB.out | apply below_alloc | apply pw_below_drewN | apply below_drew1 | refine below_set ?_ GE478.out) | exact HB.out)⟩
   replace c22:=Bool.eq_false_iff.mpr c22
   subst c22
   have H1:((scopedv_distance.f kj2 a1_2).bind fun t483 => (if t483 = true then (if (FloatKind.f64.format.order a1_2 0 == some .eq) = true then (scopedv_ball.j1 kj2 true a1_0 a1_1 a1_2 a1_3 a1_4 a1_5) else ((math_IsInf.f a1_2 1).bind fun t484 => (if t484 = true then (scopedv_ball.j1 kj2 true a1_0 a1_1 a1_2 a1_3 a1_4 a1_5) else ((scopedv_distance.f kj2 a1_4).bind fun t485 => (if t485 = true then (scopedv_ball.j1 kj2 (FloatKind.f64.format.order a1_4 a1_2 == some .lt) a1_0 a1_1 a1_2 a1_3 a1_4 a1_5) else (scopedv_ball.j1 kj2 true a1_0 a1_1 a1_2 a1_3 a1_4 a1_5)))))) else (scopedv_ball.j1 kj2 true a1_0 a1_1 a1_2 a1_3 a1_4 a1_5))) = some r:=by rw [if_neg (show ¬ (false = true) by decide)] at H;exact H
   clear H
   have H:=H1
   clear H1
   have HC23:=Aside0.mk H
   clear H
   go_upto_region 3 with (fail)
   go_cut [57] (fun v57 wc => ∃ (kq:Nat) (x57_22:Bool),v57 = .bool x57_22 ∧ Aside0 (scopedv_ball.j1 kq x57_22 a1_0 a1_1 a1_2 a1_3 a1_4 a1_5 = some r) ∧ Aside0 (kq ≤ kj2) ∧ Aside0 (wc.heap[gb478]? = some (.cells #[.int .i64 a1_0,.int .i64 a1_1,.float .f64 a1_2,.int .i64 a1_3,.float .f64 a1_4,.int .i64 a1_5] 58 (0,0))) ∧ Aside0 (Below w.heap.size w wc))
   case first =>
    have H:=HC23.out
    clear HC23
    replace H:=Option.bind_eq_some_iff.mp H
    obtain ⟨t483,A240,H⟩:=H
    replace H:(if t483 = true then (if (FloatKind.f64.format.order a1_2 0 == some .eq) = true then (scopedv_ball.j1 kj2 true a1_0 a1_1 a1_2 a1_3 a1_4 a1_5) else ((math_IsInf.f a1_2 1).bind fun t484 => (if t484 = true then (scopedv_ball.j1 kj2 true a1_0 a1_1 a1_2 a1_3 a1_4 a1_5) else ((scopedv_distance.f kj2 a1_4).bind fun t485 => (if t485 = true then (scopedv_ball.j1 kj2 (FloatKind.f64.format.order a1_4 a1_2 == some .lt) a1_0 a1_1 a1_2 a1_3 a1_4 a1_5) else (scopedv_ball.j1 kj2 true a1_0 a1_1 a1_2 a1_3 a1_4 a1_5)))))) else (scopedv_ball.j1 kj2 true a1_0 a1_1 a1_2 a1_3 a1_4 a1_5)) = some r:=H
    have A24:=Aside0.mk A240
    clear A240
    by_cases c25:t483 = true
    rotate_left
    ·replace c25:=Bool.eq_false_iff.mpr c25
     subst c25
     have H1:(scopedv_ball.j1 kj2 true a1_0 a1_1 a1_2 a1_3 a1_4 a1_5) = some r:=by rw [if_neg (show ¬ (false = true) by decide)] at H;exact H
     clear H
     have H:=H1
     clear H1
     have H':=Aside0.mk H
     clear H
     have hcz46_0:wc.cell? ⟨gb478,0,none⟩ = some (.int .i64 a1_0):=(blk_cell BK478.out 0).trans rfl
     have hcz46_1:wc.cell? ⟨gb478,1,none⟩ = some (.int .i64 a1_1):=(blk_cell BK478.out 1).trans rfl
     have hcz46_2:wc.cell? ⟨gb478,2,none⟩ = some (.float .f64 a1_2):=(blk_cell BK478.out 2).trans rfl
     have hcz46_3:wc.cell? ⟨gb478,3,none⟩ = some (.int .i64 a1_3):=(blk_cell BK478.out 3).trans rfl
     have hcz46_4:wc.cell? ⟨gb478,4,none⟩ = some (.float .f64 a1_4):=(blk_cell BK478.out 4).trans rfl
     have hcz46_5:wc.cell? ⟨gb478,5,none⟩ = some (.int .i64 a1_5):=(blk_cell BK478.out 5).trans rfl
     have hfz46_0:=blk_frozen BK478.out 0
     have hfz46_1:=blk_frozen BK478.out 1
     have hfz46_2:=blk_frozen BK478.out 2
     have hfz46_3:=blk_frozen BK478.out 3
     have hfz46_4:=blk_frozen BK478.out 4
     have hfz46_5:=blk_frozen BK478.out 5
     go_wp2_with (first | ((with_reducible refine gate_callee (f:=83) rfl ?_);refine goesL_ (some 33) rfl rfl Try.func83 (by kernel_rfl) rfl #[.float .f64 a1_2] rfl (by (try simp only [List.map_toArray,List.map_cons,List.map_nil]);first | done | rfl | (simp only [List.length_drop,List.length_take];rfl)) ?_;(with_reducible refine (scopedv_distance.calls kj2 a1_2 false _ A24.out).mono ?_);rintro e w47 ⟨rfl,hb⟩;refine ⟨_,rfl,?_⟩;have n0_:=Aside0.mk (blk_below (g:=gb478) (o:=.cells #[.int .i64 a1_0,.int .i64 a1_1,.float .f64 a1_2,.int .i64 a1_3,.float .f64 a1_4,.int .i64 a1_5] 58 (0,0)) (by (with_reducible repeat (first | refine blk_drewN ?_ _ | refine blk_drew ?_ | refine blk_alloc ?_ _));exact BK478.out) hb);have n1_:=Aside0.mk (below_step (by repeat (first | (with_reducible first | exact HB.out | apply below_alloc | apply pw_below_drewN | apply below_drew1 | refine below_set ?_ GE478.out) | exact HB.out)) hb);clear BK478;clear HB;have BK478:=n0_;have HB:=n1_;clear n0_ n1_;(try clear hb);(try clear hb2);(try clear hk);(try clear hi)))
     go_meet
     case rel => exact ⟨_,(true),(by first | rfl | (simp;done) | (simp [*];done)),H',⟨by have:=HJ2.out;first | omega | exact Nat.le_refl _⟩,⟨by (with_reducible repeat (first | refine blk_drewN ?_ _ | refine blk_drew ?_ | refine blk_alloc ?_ _));exact BK478.out⟩,⟨by repeat (first | (with_reducible first | exact HB.out | apply below_alloc | apply pw_below_drewN | apply below_drew1 | refine below_set ?_ GE478.out) | exact HB.out)⟩⟩
    subst c25
    have H1:(if (FloatKind.f64.format.order a1_2 0 == some .eq) = true then (scopedv_ball.j1 kj2 true a1_0 a1_1 a1_2 a1_3 a1_4 a1_5) else ((math_IsInf.f a1_2 1).bind fun t484 => (if t484 = true then (scopedv_ball.j1 kj2 true a1_0 a1_1 a1_2 a1_3 a1_4 a1_5) else ((scopedv_distance.f kj2 a1_4).bind fun t485 => (if t485 = true then (scopedv_ball.j1 kj2 (FloatKind.f64.format.order a1_4 a1_2 == some .lt) a1_0 a1_1 a1_2 a1_3 a1_4 a1_5) else (scopedv_ball.j1 kj2 true a1_0 a1_1 a1_2 a1_3 a1_4 a1_5)))))) = some r:=by rw [if_pos rfl] at H;exact H
    clear H
    have H:=H1
    clear H1
    by_cases c26:(FloatKind.f64.format.order a1_2 0 == some .eq) = true
    ·rw [if_pos c26] at H
     have c26b0:(FloatKind.f64.format.order a1_2 0 == some .eq) = true:=c26
     (try (have c26b1:decide (FloatKind.f64.format.order a1_2 0 = some .eq) = true:=by simpa using c26))
     (try (have c26b2:(FloatKind.f64.format.order a1_2 0 == some .eq) = true:=by simpa using c26))
     clear c26
     (first | rw [c26b0] | (simp only [i64_w,i32_w];rw [c26b0]) | skip)
     have H':=Aside0.mk H
     clear H
     have hcz27_0:wc.cell? ⟨gb478,0,none⟩ = some (.int .i64 a1_0):=(blk_cell BK478.out 0).trans rfl
     have hcz27_1:wc.cell? ⟨gb478,1,none⟩ = some (.int .i64 a1_1):=(blk_cell BK478.out 1).trans rfl
     have hcz27_2:wc.cell? ⟨gb478,2,none⟩ = some (.float .f64 a1_2):=(blk_cell BK478.out 2).trans rfl
     have hcz27_3:wc.cell? ⟨gb478,3,none⟩ = some (.int .i64 a1_3):=(blk_cell BK478.out 3).trans rfl
     have hcz27_4:wc.cell? ⟨gb478,4,none⟩ = some (.float .f64 a1_4):=(blk_cell BK478.out 4).trans rfl
     have hcz27_5:wc.cell? ⟨gb478,5,none⟩ = some (.int .i64 a1_5):=(blk_cell BK478.out 5).trans rfl
     have hfz27_0:=blk_frozen BK478.out 0
     have hfz27_1:=blk_frozen BK478.out 1
     have hfz27_2:=blk_frozen BK478.out 2
     have hfz27_3:=blk_frozen BK478.out 3
     have hfz27_4:=blk_frozen BK478.out 4
     have hfz27_5:=blk_frozen BK478.out 5
     go_wp2_with (first | ((with_reducible refine gate_callee (f:=83) rfl ?_);refine goesL_ (some 33) rfl rfl Try.func83 (by kernel_rfl) rfl #[.float .f64 a1_2] rfl (by (try simp only [List.map_toArray,List.map_cons,List.map_nil]);first | done | rfl | (simp only [List.length_drop,List.length_take];rfl)) ?_;(with_reducible refine (scopedv_distance.calls kj2 a1_2 true _ A24.out).mono ?_);rintro e w28 ⟨rfl,hb⟩;refine ⟨_,rfl,?_⟩;have n0_:=Aside0.mk (blk_below (g:=gb478) (o:=.cells #[.int .i64 a1_0,.int .i64 a1_1,.float .f64 a1_2,.int .i64 a1_3,.float .f64 a1_4,.int .i64 a1_5] 58 (0,0)) (by (with_reducible repeat (first | refine blk_drewN ?_ _ | refine blk_drew ?_ | refine blk_alloc ?_ _));exact BK478.out) hb);have n1_:=Aside0.mk (below_step (by repeat (first | (with_reducible first | exact HB.out | apply below_alloc | apply pw_below_drewN | apply below_drew1 | refine below_set ?_ GE478.out) | exact HB.out)) hb);clear BK478;clear HB;have BK478:=n0_;have HB:=n1_;clear n0_ n1_;(try clear hb);(try clear hb2);(try clear hk);(try clear hi);have hcz29_0:w28.cell? ⟨gb478,0,none⟩ = some (.int .i64 a1_0):=(blk_cell BK478.out 0).trans rfl;have hcz29_1:w28.cell? ⟨gb478,1,none⟩ = some (.int .i64 a1_1):=(blk_cell BK478.out 1).trans rfl;have hcz29_2:w28.cell? ⟨gb478,2,none⟩ = some (.float .f64 a1_2):=(blk_cell BK478.out 2).trans rfl;have hcz29_3:w28.cell? ⟨gb478,3,none⟩ = some (.int .i64 a1_3):=(blk_cell BK478.out 3).trans rfl;have hcz29_4:w28.cell? ⟨gb478,4,none⟩ = some (.float .f64 a1_4):=(blk_cell BK478.out 4).trans rfl;have hcz29_5:w28.cell? ⟨gb478,5,none⟩ = some (.int .i64 a1_5):=(blk_cell BK478.out 5).trans rfl;have hfz29_0:=blk_frozen BK478.out 0;have hfz29_1:=blk_frozen BK478.out 1;have hfz29_2:=blk_frozen BK478.out 2;have hfz29_3:=blk_frozen BK478.out 3;have hfz29_4:=blk_frozen BK478.out 4;have hfz29_5:=blk_frozen BK478.out 5))
     go_meet
     case rel => exact ⟨_,(true),(by first | rfl | (simp;done) | (simp [*];done)),H',⟨by have:=HJ2.out;first | omega | exact Nat.le_refl _⟩,⟨by (with_reducible repeat (first | refine blk_drewN ?_ _ | refine blk_drew ?_ | refine blk_alloc ?_ _));exact BK478.out⟩,⟨by repeat (first | (with_reducible first | exact HB.out | apply below_alloc | apply pw_below_drewN | apply below_drew1 | refine below_set ?_ GE478.out) | exact HB.out)⟩⟩
    rw [if_neg c26] at H
    have c26b0:(FloatKind.f64.format.order a1_2 0 == some .eq) = false:=by simpa using c26
    (try (have c26b1:decide (FloatKind.f64.format.order a1_2 0 = some .eq) = false:=by simpa using c26))
    (try (have c26b2:(FloatKind.f64.format.order a1_2 0 == some .eq) = false:=by simpa using c26))
    (try (have c26b3:¬ (FloatKind.f64.format.order a1_2 0 = some .eq):=by simpa using c26))
    clear c26
    (first | rw [c26b0] | (simp only [i64_w,i32_w];rw [c26b0]) | skip)
    replace H:=Option.bind_eq_some_iff.mp H
    obtain ⟨t484,A300,H⟩:=H
    replace H:(if t484 = true then (scopedv_ball.j1 kj2 true a1_0 a1_1 a1_2 a1_3 a1_4 a1_5) else ((scopedv_distance.f kj2 a1_4).bind fun t485 => (if t485 = true then (scopedv_ball.j1 kj2 (FloatKind.f64.format.order a1_4 a1_2 == some .lt) a1_0 a1_1 a1_2 a1_3 a1_4 a1_5) else (scopedv_ball.j1 kj2 true a1_0 a1_1 a1_2 a1_3 a1_4 a1_5)))) = some r:=H
    have A30:=Aside0.mk A300
    clear A300
    by_cases c31:t484 = true
    ·subst c31
     have H1:(scopedv_ball.j1 kj2 true a1_0 a1_1 a1_2 a1_3 a1_4 a1_5) = some r:=by rw [if_pos rfl] at H;exact H
     clear H
     have H:=H1
     clear H1
     have H':=Aside0.mk H
     clear H
     have hcz32_0:wc.cell? ⟨gb478,0,none⟩ = some (.int .i64 a1_0):=(blk_cell BK478.out 0).trans rfl
     have hcz32_1:wc.cell? ⟨gb478,1,none⟩ = some (.int .i64 a1_1):=(blk_cell BK478.out 1).trans rfl
     have hcz32_2:wc.cell? ⟨gb478,2,none⟩ = some (.float .f64 a1_2):=(blk_cell BK478.out 2).trans rfl
     have hcz32_3:wc.cell? ⟨gb478,3,none⟩ = some (.int .i64 a1_3):=(blk_cell BK478.out 3).trans rfl
     have hcz32_4:wc.cell? ⟨gb478,4,none⟩ = some (.float .f64 a1_4):=(blk_cell BK478.out 4).trans rfl
     have hcz32_5:wc.cell? ⟨gb478,5,none⟩ = some (.int .i64 a1_5):=(blk_cell BK478.out 5).trans rfl
     have hfz32_0:=blk_frozen BK478.out 0
     have hfz32_1:=blk_frozen BK478.out 1
     have hfz32_2:=blk_frozen BK478.out 2
     have hfz32_3:=blk_frozen BK478.out 3
     have hfz32_4:=blk_frozen BK478.out 4
     have hfz32_5:=blk_frozen BK478.out 5
     go_wp2_with (first | ((with_reducible refine gate_callee (f:=83) rfl ?_);refine goesL_ (some 33) rfl rfl Try.func83 (by kernel_rfl) rfl #[.float .f64 a1_2] rfl (by (try simp only [List.map_toArray,List.map_cons,List.map_nil]);first | done | rfl | (simp only [List.length_drop,List.length_take];rfl)) ?_;(with_reducible refine (scopedv_distance.calls kj2 a1_2 true _ A24.out).mono ?_);rintro e w33 ⟨rfl,hb⟩;refine ⟨_,rfl,?_⟩;have n0_:=Aside0.mk (blk_below (g:=gb478) (o:=.cells #[.int .i64 a1_0,.int .i64 a1_1,.float .f64 a1_2,.int .i64 a1_3,.float .f64 a1_4,.int .i64 a1_5] 58 (0,0)) (by (with_reducible repeat (first | refine blk_drewN ?_ _ | refine blk_drew ?_ | refine blk_alloc ?_ _));exact BK478.out) hb);have n1_:=Aside0.mk (below_step (by repeat (first | (with_reducible first | exact HB.out | apply below_alloc | apply pw_below_drewN | apply below_drew1 | refine below_set ?_ GE478.out) | exact HB.out)) hb);clear BK478;clear HB;have BK478:=n0_;have HB:=n1_;clear n0_ n1_;(try clear hb);(try clear hb2);(try clear hk);(try clear hi);have hcz34_0:w33.cell? ⟨gb478,0,none⟩ = some (.int .i64 a1_0):=(blk_cell BK478.out 0).trans rfl;have hcz34_1:w33.cell? ⟨gb478,1,none⟩ = some (.int .i64 a1_1):=(blk_cell BK478.out 1).trans rfl;have hcz34_2:w33.cell? ⟨gb478,2,none⟩ = some (.float .f64 a1_2):=(blk_cell BK478.out 2).trans rfl;have hcz34_3:w33.cell? ⟨gb478,3,none⟩ = some (.int .i64 a1_3):=(blk_cell BK478.out 3).trans rfl;have hcz34_4:w33.cell? ⟨gb478,4,none⟩ = some (.float .f64 a1_4):=(blk_cell BK478.out 4).trans rfl;have hcz34_5:w33.cell? ⟨gb478,5,none⟩ = some (.int .i64 a1_5):=(blk_cell BK478.out 5).trans rfl;have hfz34_0:=blk_frozen BK478.out 0;have hfz34_1:=blk_frozen BK478.out 1;have hfz34_2:=blk_frozen BK478.out 2;have hfz34_3:=blk_frozen BK478.out 3;have hfz34_4:=blk_frozen BK478.out 4;have hfz34_5:=blk_frozen BK478.out 5) | (go_at_call 62;(with_reducible refine (math_IsInf.calls a1_2 1 true _ A30.out).mono ?_);rintro e w' ⟨rfl,⟨nd,rfl⟩⟩))
     go_meet
     case rel => exact ⟨_,(true),(by first | rfl | (simp;done) | (simp [*];done)),H',⟨by have:=HJ2.out;first | omega | exact Nat.le_refl _⟩,⟨by (with_reducible repeat (first | refine blk_drewN ?_ _ | refine blk_drew ?_ | refine blk_alloc ?_ _));exact BK478.out⟩,⟨by repeat (first | (with_reducible first | exact HB.out | apply below_alloc | apply pw_below_drewN | apply below_drew1 | refine below_set ?_ GE478.out) | exact HB.out)⟩⟩
    replace c31:=Bool.eq_false_iff.mpr c31
    subst c31
    have H1:((scopedv_distance.f kj2 a1_4).bind fun t485 => (if t485 = true then (scopedv_ball.j1 kj2 (FloatKind.f64.format.order a1_4 a1_2 == some .lt) a1_0 a1_1 a1_2 a1_3 a1_4 a1_5) else (scopedv_ball.j1 kj2 true a1_0 a1_1 a1_2 a1_3 a1_4 a1_5))) = some r:=by rw [if_neg (show ¬ (false = true) by decide)] at H;exact H
    clear H
    have H:=H1
    clear H1
    replace H:=Option.bind_eq_some_iff.mp H
    obtain ⟨t485,A350,H⟩:=H
    replace H:(if t485 = true then (scopedv_ball.j1 kj2 (FloatKind.f64.format.order a1_4 a1_2 == some .lt) a1_0 a1_1 a1_2 a1_3 a1_4 a1_5) else (scopedv_ball.j1 kj2 true a1_0 a1_1 a1_2 a1_3 a1_4 a1_5)) = some r:=H
    have A35:=Aside0.mk A350
    clear A350
    by_cases c36:t485 = true
    ·subst c36
     have H1:(scopedv_ball.j1 kj2 (FloatKind.f64.format.order a1_4 a1_2 == some .lt) a1_0 a1_1 a1_2 a1_3 a1_4 a1_5) = some r:=by rw [if_pos rfl] at H;exact H
     clear H
     have H:=H1
     clear H1
     have H':=Aside0.mk H
     clear H
     have hcz37_0:wc.cell? ⟨gb478,0,none⟩ = some (.int .i64 a1_0):=(blk_cell BK478.out 0).trans rfl
     have hcz37_1:wc.cell? ⟨gb478,1,none⟩ = some (.int .i64 a1_1):=(blk_cell BK478.out 1).trans rfl
     have hcz37_2:wc.cell? ⟨gb478,2,none⟩ = some (.float .f64 a1_2):=(blk_cell BK478.out 2).trans rfl
     have hcz37_3:wc.cell? ⟨gb478,3,none⟩ = some (.int .i64 a1_3):=(blk_cell BK478.out 3).trans rfl
     have hcz37_4:wc.cell? ⟨gb478,4,none⟩ = some (.float .f64 a1_4):=(blk_cell BK478.out 4).trans rfl
     have hcz37_5:wc.cell? ⟨gb478,5,none⟩ = some (.int .i64 a1_5):=(blk_cell BK478.out 5).trans rfl
     have hfz37_0:=blk_frozen BK478.out 0
     have hfz37_1:=blk_frozen BK478.out 1
     have hfz37_2:=blk_frozen BK478.out 2
     have hfz37_3:=blk_frozen BK478.out 3
     have hfz37_4:=blk_frozen BK478.out 4
     have hfz37_5:=blk_frozen BK478.out 5
     go_wp2_with (first | ((with_reducible refine gate_callee (f:=83) rfl ?_);refine goesL_ (some 33) rfl rfl Try.func83 (by kernel_rfl) rfl #[.float .f64 a1_2] rfl (by (try simp only [List.map_toArray,List.map_cons,List.map_nil]);first | done | rfl | (simp only [List.length_drop,List.length_take];rfl)) ?_;(with_reducible refine (scopedv_distance.calls kj2 a1_2 true _ A24.out).mono ?_);rintro e w38 ⟨rfl,hb⟩;refine ⟨_,rfl,?_⟩;have n0_:=Aside0.mk (blk_below (g:=gb478) (o:=.cells #[.int .i64 a1_0,.int .i64 a1_1,.float .f64 a1_2,.int .i64 a1_3,.float .f64 a1_4,.int .i64 a1_5] 58 (0,0)) (by (with_reducible repeat (first | refine blk_drewN ?_ _ | refine blk_drew ?_ | refine blk_alloc ?_ _));exact BK478.out) hb);have n1_:=Aside0.mk (below_step (by repeat (first | (with_reducible first | exact HB.out | apply below_alloc | apply pw_below_drewN | apply below_drew1 | refine below_set ?_ GE478.out) | exact HB.out)) hb);clear BK478;clear HB;have BK478:=n0_;have HB:=n1_;clear n0_ n1_;(try clear hb);(try clear hb2);(try clear hk);(try clear hi);have hcz39_0:w38.cell? ⟨gb478,0,none⟩ = some (.int .i64 a1_0):=(blk_cell BK478.out 0).trans rfl;have hcz39_1:w38.cell? ⟨gb478,1,none⟩ = some (.int .i64 a1_1):=(blk_cell BK478.out 1).trans rfl;have hcz39_2:w38.cell? ⟨gb478,2,none⟩ = some (.float .f64 a1_2):=(blk_cell BK478.out 2).trans rfl;have hcz39_3:w38.cell? ⟨gb478,3,none⟩ = some (.int .i64 a1_3):=(blk_cell BK478.out 3).trans rfl;have hcz39_4:w38.cell? ⟨gb478,4,none⟩ = some (.float .f64 a1_4):=(blk_cell BK478.out 4).trans rfl;have hcz39_5:w38.cell? ⟨gb478,5,none⟩ = some (.int .i64 a1_5):=(blk_cell BK478.out 5).trans rfl;have hfz39_0:=blk_frozen BK478.out 0;have hfz39_1:=blk_frozen BK478.out 1;have hfz39_2:=blk_frozen BK478.out 2;have hfz39_3:=blk_frozen BK478.out 3;have hfz39_4:=blk_frozen BK478.out 4;have hfz39_5:=blk_frozen BK478.out 5) | (go_at_call 62;(with_reducible refine (math_IsInf.calls a1_2 1 false _ A30.out).mono ?_);rintro e w' ⟨rfl,⟨nd,rfl⟩⟩) | (go_at_call 83;(with_reducible refine (scopedv_distance.calls kj2 a1_4 true _ A35.out).mono ?_);rintro e w40 ⟨rfl,hb⟩;have n0_:=Aside0.mk (blk_below (g:=gb478) (o:=.cells #[.int .i64 a1_0,.int .i64 a1_1,.float .f64 a1_2,.int .i64 a1_3,.float .f64 a1_4,.int .i64 a1_5] 58 (0,0)) (by (with_reducible repeat (first | refine blk_drewN ?_ _ | refine blk_drew ?_ | refine blk_alloc ?_ _));exact BK478.out) hb);have n1_:=Aside0.mk (below_step (by repeat (first | (with_reducible first | exact HB.out | apply below_alloc | apply pw_below_drewN | apply below_drew1 | refine below_set ?_ GE478.out) | exact HB.out)) hb);clear BK478;clear HB;have BK478:=n0_;have HB:=n1_;clear n0_ n1_;(try clear hb);(try clear hb2);(try clear hk);(try clear hi);have hcz41_0:w40.cell? ⟨gb478,0,none⟩ = some (.int .i64 a1_0):=(blk_cell BK478.out 0).trans rfl;have hcz41_1:w40.cell? ⟨gb478,1,none⟩ = some (.int .i64 a1_1):=(blk_cell BK478.out 1).trans rfl;have hcz41_2:w40.cell? ⟨gb478,2,none⟩ = some (.float .f64 a1_2):=(blk_cell BK478.out 2).trans rfl;have hcz41_3:w40.cell? ⟨gb478,3,none⟩ = some (.int .i64 a1_3):=(blk_cell BK478.out 3).trans rfl;have hcz41_4:w40.cell? ⟨gb478,4,none⟩ = some (.float .f64 a1_4):=(blk_cell BK478.out 4).trans rfl;have hcz41_5:w40.cell? ⟨gb478,5,none⟩ = some (.int .i64 a1_5):=(blk_cell BK478.out 5).trans rfl;have hfz41_0:=blk_frozen BK478.out 0;have hfz41_1:=blk_frozen BK478.out 1;have hfz41_2:=blk_frozen BK478.out 2;have hfz41_3:=blk_frozen BK478.out 3;have hfz41_4:=blk_frozen BK478.out 4;have hfz41_5:=blk_frozen BK478.out 5))
     go_meet
     case rel => exact ⟨_,((FloatKind.f64.format.order a1_4 a1_2 == some .lt)),(by first | rfl | (simp;done) | (simp [*];done)),H',⟨by have:=HJ2.out;first | omega | exact Nat.le_refl _⟩,⟨by (with_reducible repeat (first | refine blk_drewN ?_ _ | refine blk_drew ?_ | refine blk_alloc ?_ _));exact BK478.out⟩,⟨by repeat (first | (with_reducible first | exact HB.out | apply below_alloc | apply pw_below_drewN | apply below_drew1 | refine below_set ?_ GE478.out) | exact HB.out)⟩⟩
    replace c36:=Bool.eq_false_iff.mpr c36
    subst c36
    have H1:(scopedv_ball.j1 kj2 true a1_0 a1_1 a1_2 a1_3 a1_4 a1_5) = some r:=by rw [if_neg (show ¬ (false = true) by decide)] at H;exact H
    clear H
    have H:=H1
    clear H1
    have H':=Aside0.mk H
    clear H
    have hcz42_0:wc.cell? ⟨gb478,0,none⟩ = some (.int .i64 a1_0):=(blk_cell BK478.out 0).trans rfl
    have hcz42_1:wc.cell? ⟨gb478,1,none⟩ = some (.int .i64 a1_1):=(blk_cell BK478.out 1).trans rfl
    have hcz42_2:wc.cell? ⟨gb478,2,none⟩ = some (.float .f64 a1_2):=(blk_cell BK478.out 2).trans rfl
    have hcz42_3:wc.cell? ⟨gb478,3,none⟩ = some (.int .i64 a1_3):=(blk_cell BK478.out 3).trans rfl
    have hcz42_4:wc.cell? ⟨gb478,4,none⟩ = some (.float .f64 a1_4):=(blk_cell BK478.out 4).trans rfl
    have hcz42_5:wc.cell? ⟨gb478,5,none⟩ = some (.int .i64 a1_5):=(blk_cell BK478.out 5).trans rfl
    have hfz42_0:=blk_frozen BK478.out 0
    have hfz42_1:=blk_frozen BK478.out 1
    have hfz42_2:=blk_frozen BK478.out 2
    have hfz42_3:=blk_frozen BK478.out 3
    have hfz42_4:=blk_frozen BK478.out 4
    have hfz42_5:=blk_frozen BK478.out 5
    go_wp2_with (first | ((with_reducible refine gate_callee (f:=83) rfl ?_);refine goesL_ (some 33) rfl rfl Try.func83 (by kernel_rfl) rfl #[.float .f64 a1_2] rfl (by (try simp only [List.map_toArray,List.map_cons,List.map_nil]);first | done | rfl | (simp only [List.length_drop,List.length_take];rfl)) ?_;(with_reducible refine (scopedv_distance.calls kj2 a1_2 true _ A24.out).mono ?_);rintro e w43 ⟨rfl,hb⟩;refine ⟨_,rfl,?_⟩;have n0_:=Aside0.mk (blk_below (g:=gb478) (o:=.cells #[.int .i64 a1_0,.int .i64 a1_1,.float .f64 a1_2,.int .i64 a1_3,.float .f64 a1_4,.int .i64 a1_5] 58 (0,0)) (by (with_reducible repeat (first | refine blk_drewN ?_ _ | refine blk_drew ?_ | refine blk_alloc ?_ _));exact BK478.out) hb);have n1_:=Aside0.mk (below_step (by repeat (first | (with_reducible first | exact HB.out | apply below_alloc | apply pw_below_drewN | apply below_drew1 | refine below_set ?_ GE478.out) | exact HB.out)) hb);clear BK478;clear HB;have BK478:=n0_;have HB:=n1_;clear n0_ n1_;(try clear hb);(try clear hb2);(try clear hk);(try clear hi);have hcz44_0:w43.cell? ⟨gb478,0,none⟩ = some (.int .i64 a1_0):=(blk_cell BK478.out 0).trans rfl;have hcz44_1:w43.cell? ⟨gb478,1,none⟩ = some (.int .i64 a1_1):=(blk_cell BK478.out 1).trans rfl;have hcz44_2:w43.cell? ⟨gb478,2,none⟩ = some (.float .f64 a1_2):=(blk_cell BK478.out 2).trans rfl;have hcz44_3:w43.cell? ⟨gb478,3,none⟩ = some (.int .i64 a1_3):=(blk_cell BK478.out 3).trans rfl;have hcz44_4:w43.cell? ⟨gb478,4,none⟩ = some (.float .f64 a1_4):=(blk_cell BK478.out 4).trans rfl;have hcz44_5:w43.cell? ⟨gb478,5,none⟩ = some (.int .i64 a1_5):=(blk_cell BK478.out 5).trans rfl;have hfz44_0:=blk_frozen BK478.out 0;have hfz44_1:=blk_frozen BK478.out 1;have hfz44_2:=blk_frozen BK478.out 2;have hfz44_3:=blk_frozen BK478.out 3;have hfz44_4:=blk_frozen BK478.out 4;have hfz44_5:=blk_frozen BK478.out 5) | (go_at_call 62;(with_reducible refine (math_IsInf.calls a1_2 1 false _ A30.out).mono ?_);rintro e w' ⟨rfl,⟨nd,rfl⟩⟩) | (go_at_call 83;(with_reducible refine (scopedv_distance.calls kj2 a1_4 false _ A35.out).mono ?_);rintro e w45 ⟨rfl,hb⟩;have n0_:=Aside0.mk (blk_below (g:=gb478) (o:=.cells #[.int .i64 a1_0,.int .i64 a1_1,.float .f64 a1_2,.int .i64 a1_3,.float .f64 a1_4,.int .i64 a1_5] 58 (0,0)) (by (with_reducible repeat (first | refine blk_drewN ?_ _ | refine blk_drew ?_ | refine blk_alloc ?_ _));exact BK478.out) hb);have n1_:=Aside0.mk (below_step (by repeat (first | (with_reducible first | exact HB.out | apply below_alloc | apply pw_below_drewN | apply below_drew1 | refine below_set ?_ GE478.out) | exact HB.out)) hb);clear BK478;clear HB;have BK478:=n0_;have HB:=n1_;clear n0_ n1_;(try clear hb);(try clear hb2);(try clear hk);(try clear hi)))
    go_meet
    case rel => exact ⟨_,(true),(by first | rfl | (simp;done) | (simp [*];done)),H',⟨by have:=HJ2.out;first | omega | exact Nat.le_refl _⟩,⟨by (with_reducible repeat (first | refine blk_drewN ?_ _ | refine blk_drew ?_ | refine blk_alloc ?_ _));exact BK478.out⟩,⟨by repeat (first | (with_reducible first | exact HB.out | apply below_alloc | apply pw_below_drewN | apply below_drew1 | refine below_set ?_ GE478.out) | exact HB.out)⟩⟩
   case rest =>
    clear HC23
    obtain ⟨kq,x57_22,rfl,HA,HJ22,BK478,HB⟩:=hcut
    cases kq with
    | zero => exact absurd HA.out (by simp [scopedv_ball.j1])
    | succ kj22 =>
     have H:=HA.out
     clear HA
     simp only [scopedv_ball.j1] at H
     by_cases c48:x57_22 = true
     ·subst c48
      have H1:(some false) = some r:=by rw [if_pos rfl] at H;exact H
      clear H
      have H:=H1
      clear H1
      obtain rfl:=Option.some.inj H
      go_wp2
      go_ret
      exact ⟨by first | rfl | (simp [errW_none,errW_some] <;> rfl) | (simp [*,errW_none,errW_some] <;> rfl),by repeat (first | (with_reducible first | exact HB.out | apply below_alloc | apply pw_below_drewN | apply below_drew1 | refine below_set ?_ GE478.out) | exact HB.out)⟩
     replace c48:=Bool.eq_false_iff.mpr c48
     subst c48
     have H1:((math_IsInf.f a1_4 1).bind fun t486 => (if t486 = true then (some (a1_5 == 0)) else ((scopedv_number.f a1_5).bind fun t487 => (some t487)))) = some r:=by rw [if_neg (show ¬ (false = true) by decide)] at H;exact H
     clear H
     have H:=H1
     clear H1
     replace H:=Option.bind_eq_some_iff.mp H
     obtain ⟨t486,A490,H⟩:=H
     replace H:(if t486 = true then (some (a1_5 == 0)) else ((scopedv_number.f a1_5).bind fun t487 => (some t487))) = some r:=H
     have A49:=Aside0.mk A490
     clear A490
     by_cases c50:t486 = true
     ·subst c50
      have H1:(some (a1_5 == 0)) = some r:=by rw [if_pos rfl] at H;exact H
      clear H
      have H:=H1
      clear H1
      obtain rfl:=Option.some.inj H
      have hcz51_0:wc.cell? ⟨gb478,0,none⟩ = some (.int .i64 a1_0):=(blk_cell BK478.out 0).trans rfl
      have hcz51_1:wc.cell? ⟨gb478,1,none⟩ = some (.int .i64 a1_1):=(blk_cell BK478.out 1).trans rfl
      have hcz51_2:wc.cell? ⟨gb478,2,none⟩ = some (.float .f64 a1_2):=(blk_cell BK478.out 2).trans rfl
      have hcz51_3:wc.cell? ⟨gb478,3,none⟩ = some (.int .i64 a1_3):=(blk_cell BK478.out 3).trans rfl
      have hcz51_4:wc.cell? ⟨gb478,4,none⟩ = some (.float .f64 a1_4):=(blk_cell BK478.out 4).trans rfl
      have hcz51_5:wc.cell? ⟨gb478,5,none⟩ = some (.int .i64 a1_5):=(blk_cell BK478.out 5).trans rfl
      have hfz51_0:=blk_frozen BK478.out 0
      have hfz51_1:=blk_frozen BK478.out 1
      have hfz51_2:=blk_frozen BK478.out 2
      have hfz51_3:=blk_frozen BK478.out 3
      have hfz51_4:=blk_frozen BK478.out 4
      have hfz51_5:=blk_frozen BK478.out 5
      go_wp2_with (first | ((with_reducible refine gate_callee (f:=62) rfl ?_);refine goesL_ (some 60) rfl rfl Try.func62 (by kernel_rfl) rfl #[.float .f64 a1_4,.int .i64 1] rfl (by (try simp only [List.map_toArray,List.map_cons,List.map_nil]);first | done | rfl | (simp only [List.length_drop,List.length_take];rfl)) ?_;(with_reducible refine (math_IsInf.calls a1_4 1 true _ A49.out).mono ?_);rintro e w' ⟨rfl,⟨nd,rfl⟩⟩;refine ⟨_,rfl,?_⟩))
      go_ret
      exact ⟨by first | rfl | (simp [errW_none,errW_some] <;> rfl) | (simp [*,errW_none,errW_some] <;> rfl),by repeat (first | (with_reducible first | exact HB.out | apply below_alloc | apply pw_below_drewN | apply below_drew1 | refine below_set ?_ GE478.out) | exact HB.out)⟩
     replace c50:=Bool.eq_false_iff.mpr c50
     subst c50
     have H1:((scopedv_number.f a1_5).bind fun t487 => (some t487)) = some r:=by rw [if_neg (show ¬ (false = true) by decide)] at H;exact H
     clear H
     have H:=H1
     clear H1
     replace H:=Option.bind_eq_some_iff.mp H
     obtain ⟨t487,A520,H⟩:=H
     replace H:(some t487) = some r:=H
     have A52:=Aside0.mk A520
     clear A520
     obtain rfl:=Option.some.inj H
     have hcz53_0:wc.cell? ⟨gb478,0,none⟩ = some (.int .i64 a1_0):=(blk_cell BK478.out 0).trans rfl
     have hcz53_1:wc.cell? ⟨gb478,1,none⟩ = some (.int .i64 a1_1):=(blk_cell BK478.out 1).trans rfl
     have hcz53_2:wc.cell? ⟨gb478,2,none⟩ = some (.float .f64 a1_2):=(blk_cell BK478.out 2).trans rfl
     have hcz53_3:wc.cell? ⟨gb478,3,none⟩ = some (.int .i64 a1_3):=(blk_cell BK478.out 3).trans rfl
     have hcz53_4:wc.cell? ⟨gb478,4,none⟩ = some (.float .f64 a1_4):=(blk_cell BK478.out 4).trans rfl
     have hcz53_5:wc.cell? ⟨gb478,5,none⟩ = some (.int .i64 a1_5):=(blk_cell BK478.out 5).trans rfl
     have hfz53_0:=blk_frozen BK478.out 0
     have hfz53_1:=blk_frozen BK478.out 1
     have hfz53_2:=blk_frozen BK478.out 2
     have hfz53_3:=blk_frozen BK478.out 3
     have hfz53_4:=blk_frozen BK478.out 4
     have hfz53_5:=blk_frozen BK478.out 5
     go_wp2_with (first | ((with_reducible refine gate_callee (f:=62) rfl ?_);refine goesL_ (some 60) rfl rfl Try.func62 (by kernel_rfl) rfl #[.float .f64 a1_4,.int .i64 1] rfl (by (try simp only [List.map_toArray,List.map_cons,List.map_nil]);first | done | rfl | (simp only [List.length_drop,List.length_take];rfl)) ?_;(with_reducible refine (math_IsInf.calls a1_4 1 false _ A49.out).mono ?_);rintro e w' ⟨rfl,⟨nd,rfl⟩⟩;refine ⟨_,rfl,?_⟩) | ((with_reducible refine gate_callee (f:=54) rfl ?_);refine goesL_ (some 66) rfl rfl Try.func54 (by kernel_rfl) rfl #[.int .i64 a1_5] rfl (by (try simp only [List.map_toArray,List.map_cons,List.map_nil]);first | done | rfl | (simp only [List.length_drop,List.length_take];rfl)) ?_;(with_reducible refine (scopedv_number.calls a1_5 t487 _ A52.out).mono ?_);rintro e w' ⟨rfl,⟨nd,rfl⟩⟩;refine ⟨_,rfl,?_⟩))
     go_ret
     exact ⟨by first | rfl | (simp [errW_none,errW_some] <;> rfl) | (simp [*,errW_none,errW_some] <;> rfl),by repeat (first | (with_reducible first | exact HB.out | apply below_alloc | apply pw_below_drewN | apply below_drew1 | refine below_set ?_ GE478.out) | exact HB.out)⟩
end Go.Proofs.Ytjcnmpkaiopihaa.PA
