/- Printed by a program of this session (wip/tools/patch_print.py and pr.py, over the kit's print): each Go function as a plain Lean function, and that the Go code comes to just its answers. Conditions: those that each theorem names. -/
import Derived.Test.YtjcnmpkaiopihaaZmPAx0
import Derived.Test.YtjcnmpkaiopihaaZmPAx2
import Derived.Test.YtjcnmpkaiopihaaZmPAx19
namespace Go.Proofs.Ytjcnmpkaiopihaa.PA
open Go.RowKit Go.Proofs.YtjcnmpkaiopihaaW.PrintWords Go.Proofs.YtjcnmpkaiopihaaW.PrintLast Go.Proofs.YtjcnmpkaiopihaaW.PrintMore
attribute [local go_sem] max2_int min2_int max_two min_two max_three min_three max_four min_four
set_option linter.unusedVariables false
set_option linter.unusedSimpArgs false
mutual
def message_news.j0:Nat → Bool → Int → Int → Nat → Nat → Int → Option (Bool)
 | 0,_,_,_,_,_,_ => none
 | k + 1,x22,x346000,x346001,x346002,x346003,x346004 => if x22 = true then (some false) else (if x346001 = 1 then (message_news.j1 k true x346000 x346001 x346002 x346003 x346004) else ((math_IsInf.f x346002 1).bind fun t349 => (message_news.j1 k t349 x346000 x346001 x346002 x346003 x346004)))
def message_news.j1:Nat → Bool → Int → Int → Nat → Nat → Int → Option (Bool)
 | 0,_,_,_,_,_,_ => none
 | k + 1,x30,x346000,x346001,x346002,x346003,x346004 => if x30 = true then (if (x346003:Int) = 0 then (some (x346004 == 0)) else (some false)) else ((math_IsInf.f x346003 1).bind fun t350 => (if t350 = true then (some (x346004 == 0)) else ((message_distance.f k x346003).bind fun t351 => (if t351 = true then ((message_number.f x346004).bind fun t352 => (some t352)) else (some false)))))
end
def message_news.f (k:Nat) (a0_0:Int) (a0_1:Int) (a0_2:Nat) (a0_3:Nat) (a0_4:Int):Option (Bool):=(message_number.f a0_0).bind fun t346 => (if t346 = true then (if a0_1 = 1 then ((message_distance.f k a0_2).bind fun t347 => (message_news.j0 k (!t347) a0_0 a0_1 a0_2 a0_3 a0_4)) else (if a0_1 = 2 then ((message_distance.f k a0_2).bind fun t348 => (message_news.j0 k (!t348) a0_0 a0_1 a0_2 a0_3 a0_4)) else (message_news.j0 k true a0_0 a0_1 a0_2 a0_3 a0_4))) else (message_news.j0 k true a0_0 a0_1 a0_2 a0_3 a0_4))
set_option maxHeartbeats 8000000 in
set_option maxRecDepth 100000 in
theorem message_news.calls (k:Nat) (a0_0:Int) (a0_1:Int) (a0_2:Nat) (a0_3:Nat) (a0_4:Int) (r:Bool) (w:World) (h:message_news.f k a0_0 a0_1 a0_2 a0_3 a0_4 = some r) :
  Calls Try.prog 141 #[.agg #[.int .i64 a0_0,.int .i64 a0_1,.float .f64 a0_2,.float .f64 a0_3,.int .i64 a0_4]] w fun e w' => e = .returned (.bool r) ∧ Below w.heap.size w w':=by
 have hX39:=run_Float64bits Try.func39 (by kernel_rfl) (by kernel_rfl) (by kernel_rfl) (by kernel_rfl)
 have hu56:=Try.underlying56
 have HB:=Aside0.mk (Below.refl w.heap.size w)
 have H:((message_number.f a0_0).bind fun t346 => (if t346 = true then (if a0_1 = 1 then ((message_distance.f k a0_2).bind fun t347 => (message_news.j0 k (!t347) a0_0 a0_1 a0_2 a0_3 a0_4)) else (if a0_1 = 2 then ((message_distance.f k a0_2).bind fun t348 => (message_news.j0 k (!t348) a0_0 a0_1 a0_2 a0_3 a0_4)) else (message_news.j0 k true a0_0 a0_1 a0_2 a0_3 a0_4))) else (message_news.j0 k true a0_0 a0_1 a0_2 a0_3 a0_4))) = some r:=h
 clear h
 have HC2:=Aside0.mk H
 clear H
 go_enter Try.func141,Try.ntmps141
 go_upto_region 1 with (first | ((with_reducible refine gate_dst (N:=1) rfl ?_);refine box_event ?hg (N:=1) ?hd (cs:=#[.int .i64 a0_0,.int .i64 a0_1,.float .f64 a0_2,.float .f64 a0_3,.int .i64 a0_4]) (t:=56) ?hr ?_;(case hd => rfl);(case hg => rfl);(case hr => first | (go_simp;done) | (go_simp;rfl));intro gb345 hg w3 hbox hb;have n0_:=Aside0.mk (below_step (by repeat (first | (with_reducible first | exact HB.out | apply below_alloc | apply pw_below_drewN | apply below_drew1) | exact HB.out)) hb);have n1_:=Aside0.mk (hbox);have n2_:=Aside0.mk ((by rw [hg];exact (below_size (by repeat (first | (with_reducible first | exact HB.out | apply below_alloc | apply pw_below_drewN | apply below_drew1) | exact HB.out))):w.heap.size ≤ gb345));have n3_:=Aside0.mk ((by rw [hg];exact (below_size (by repeat (first | (with_reducible first | exact HB.out | apply below_alloc | apply pw_below_drewN | apply below_drew1) | exact HB.out))):w.heap.size ≤ gb345));clear HB;have HB:=n0_;have BK345:=n1_;have GW345:=n2_;have GE345:=n3_;clear n0_ n1_ n2_ n3_;clear hb hbox hg))
 (try simp only [Act.put,List.setIfInBounds_toArray,List.set_cons_zero,List.set_cons_succ])
 go_cut [22] (fun v22 wc => ∃ (kq:Nat) (x22_1:Bool),v22 = .bool x22_1 ∧ Aside0 (message_news.j0 kq x22_1 a0_0 a0_1 a0_2 a0_3 a0_4 = some r) ∧ Aside0 (kq ≤ k) ∧ Aside0 (wc.heap[gb345]? = some (.cells #[.int .i64 a0_0,.int .i64 a0_1,.float .f64 a0_2,.float .f64 a0_3,.int .i64 a0_4] 56 (0,0))) ∧ Aside0 (Below w.heap.size w wc))
 case first =>
  have H:=HC2.out
  clear HC2
  replace H:=Option.bind_eq_some_iff.mp H
  obtain ⟨t346,A40,H⟩:=H
  replace H:(if t346 = true then (if a0_1 = 1 then ((message_distance.f k a0_2).bind fun t347 => (message_news.j0 k (!t347) a0_0 a0_1 a0_2 a0_3 a0_4)) else (if a0_1 = 2 then ((message_distance.f k a0_2).bind fun t348 => (message_news.j0 k (!t348) a0_0 a0_1 a0_2 a0_3 a0_4)) else (message_news.j0 k true a0_0 a0_1 a0_2 a0_3 a0_4))) else (message_news.j0 k true a0_0 a0_1 a0_2 a0_3 a0_4)) = some r:=H
  have A4:=Aside0.mk A40
  clear A40
  by_cases c5:t346 = true
  rotate_left
  ·replace c5:=Bool.eq_false_iff.mpr c5
   subst c5
   have H1:(message_news.j0 k true a0_0 a0_1 a0_2 a0_3 a0_4) = some r:=by rw [if_neg (show ¬ (false = true) by decide)] at H;exact H
   clear H
   have H:=H1
   clear H1
   have H':=Aside0.mk H
   clear H
   have hcz13_0:w3.cell? ⟨gb345,0,none⟩ = some (.int .i64 a0_0):=(blk_cell BK345.out 0).trans rfl
   have hcz13_1:w3.cell? ⟨gb345,1,none⟩ = some (.int .i64 a0_1):=(blk_cell BK345.out 1).trans rfl
   have hcz13_2:w3.cell? ⟨gb345,2,none⟩ = some (.float .f64 a0_2):=(blk_cell BK345.out 2).trans rfl
   have hcz13_3:w3.cell? ⟨gb345,3,none⟩ = some (.float .f64 a0_3):=(blk_cell BK345.out 3).trans rfl
   have hcz13_4:w3.cell? ⟨gb345,4,none⟩ = some (.int .i64 a0_4):=(blk_cell BK345.out 4).trans rfl
   have hfz13_0:=blk_frozen BK345.out 0
   have hfz13_1:=blk_frozen BK345.out 1
   have hfz13_2:=blk_frozen BK345.out 2
   have hfz13_3:=blk_frozen BK345.out 3
   have hfz13_4:=blk_frozen BK345.out 4
   go_wp2_with (first | ((with_reducible refine gate_callee (f:=155) rfl ?_);refine goesL_ (some 5) rfl rfl Try.func155 (by kernel_rfl) rfl #[.int .i64 a0_0] rfl (by (try simp only [List.map_toArray,List.map_cons,List.map_nil]);first | done | rfl | (simp only [List.length_drop,List.length_take];rfl)) ?_;(with_reducible refine (message_number.calls a0_0 false _ A4.out).mono ?_);rintro e w' ⟨rfl,⟨nd,rfl⟩⟩;refine ⟨_,rfl,?_⟩))
   go_meet
   case rel => exact ⟨_,(true),(by first | rfl | (simp;done) | (simp [*];done)),H',⟨by first | omega | exact Nat.le_refl _⟩,⟨by (with_reducible repeat (first | refine blk_drewN ?_ _ | refine blk_drew ?_ | refine blk_alloc ?_ _));exact BK345.out⟩,⟨by repeat (first | (with_reducible first | exact HB.out | apply below_alloc | apply pw_below_drewN | apply below_drew1 | refine below_set ?_ GE345.out) | exact HB.out)⟩⟩
  subst c5
  have H1:(if a0_1 = 1 then ((message_distance.f k a0_2).bind fun t347 => (message_news.j0 k (!t347) a0_0 a0_1 a0_2 a0_3 a0_4)) else (if a0_1 = 2 then ((message_distance.f k a0_2).bind fun t348 => (message_news.j0 k (!t348) a0_0 a0_1 a0_2 a0_3 a0_4)) else (message_news.j0 k true a0_0 a0_1 a0_2 a0_3 a0_4))) = some r:=by rw [if_pos rfl] at H;exact H
  clear H
  have H:=H1
  clear H1
  by_cases c6:a0_1 = 1
  ·rw [if_pos c6] at H
   have c6b0:(a0_1 == 1) = true:=beq_iff_eq.mpr c6
   have c6b1:(a0_1 != 1) = false:=bne_eq_false_iff_eq.mpr c6
   clear c6
   (first | rw [c6b0] | (simp only [i64_w,i32_w];rw [c6b0]) | skip)
   replace H:=Option.bind_eq_some_iff.mp H
   obtain ⟨t347,A70,H⟩:=H
   replace H:(message_news.j0 k (!t347) a0_0 a0_1 a0_2 a0_3 a0_4) = some r:=H
   have A7:=Aside0.mk A70
   clear A70
   have H':=Aside0.mk H
   clear H
   have hcz8_0:w3.cell? ⟨gb345,0,none⟩ = some (.int .i64 a0_0):=(blk_cell BK345.out 0).trans rfl
   have hcz8_1:w3.cell? ⟨gb345,1,none⟩ = some (.int .i64 a0_1):=(blk_cell BK345.out 1).trans rfl
   have hcz8_2:w3.cell? ⟨gb345,2,none⟩ = some (.float .f64 a0_2):=(blk_cell BK345.out 2).trans rfl
   have hcz8_3:w3.cell? ⟨gb345,3,none⟩ = some (.float .f64 a0_3):=(blk_cell BK345.out 3).trans rfl
   have hcz8_4:w3.cell? ⟨gb345,4,none⟩ = some (.int .i64 a0_4):=(blk_cell BK345.out 4).trans rfl
   have hfz8_0:=blk_frozen BK345.out 0
   have hfz8_1:=blk_frozen BK345.out 1
   have hfz8_2:=blk_frozen BK345.out 2
   have hfz8_3:=blk_frozen BK345.out 3
   have hfz8_4:=blk_frozen BK345.out 4
   go_wp2_with (first | ((with_reducible refine gate_callee (f:=155) rfl ?_);refine goesL_ (some 5) rfl rfl Try.func155 (by kernel_rfl) rfl #[.int .i64 a0_0] rfl (by (try simp only [List.map_toArray,List.map_cons,List.map_nil]);first | done | rfl | (simp only [List.length_drop,List.length_take];rfl)) ?_;(with_reducible refine (message_number.calls a0_0 true _ A4.out).mono ?_);rintro e w' ⟨rfl,⟨nd,rfl⟩⟩;refine ⟨_,rfl,?_⟩) | (go_at_call 156;(with_reducible refine (message_distance.calls k a0_2 t347 _ A7.out).mono ?_);rintro e w' ⟨rfl,⟨nd,rfl⟩⟩))
   go_meet
   case rel => exact ⟨_,(!t347),(by first | rfl | (simp;done) | (simp [*];done)),H',⟨by first | omega | exact Nat.le_refl _⟩,⟨by (with_reducible repeat (first | refine blk_drewN ?_ _ | refine blk_drew ?_ | refine blk_alloc ?_ _));exact BK345.out⟩,⟨by repeat (first | (with_reducible first | exact HB.out | apply below_alloc | apply pw_below_drewN | apply below_drew1 | refine below_set ?_ GE345.out) | exact HB.out)⟩⟩
  rw [if_neg c6] at H
  have c6b0:(a0_1 == 1) = false:=beq_eq_false_iff_ne.mpr c6
  have c6b1:(a0_1 != 1) = true:=bne_iff_ne.mpr c6
  (first | rw [c6b0] | (simp only [i64_w,i32_w];rw [c6b0]) | skip)
  by_cases c9:a0_1 = 2
  ·rw [if_pos c9] at H
   have c9b0:(a0_1 == 2) = true:=beq_iff_eq.mpr c9
   have c9b1:(a0_1 != 2) = false:=bne_eq_false_iff_eq.mpr c9
   clear c9
   replace H:=Option.bind_eq_some_iff.mp H
   obtain ⟨t348,A100,H⟩:=H
   replace H:(message_news.j0 k (!t348) a0_0 a0_1 a0_2 a0_3 a0_4) = some r:=H
   have A10:=Aside0.mk A100
   clear A100
   have H':=Aside0.mk H
   clear H
   have hcz11_0:w3.cell? ⟨gb345,0,none⟩ = some (.int .i64 a0_0):=(blk_cell BK345.out 0).trans rfl
   have hcz11_1:w3.cell? ⟨gb345,1,none⟩ = some (.int .i64 a0_1):=(blk_cell BK345.out 1).trans rfl
   have hcz11_2:w3.cell? ⟨gb345,2,none⟩ = some (.float .f64 a0_2):=(blk_cell BK345.out 2).trans rfl
   have hcz11_3:w3.cell? ⟨gb345,3,none⟩ = some (.float .f64 a0_3):=(blk_cell BK345.out 3).trans rfl
   have hcz11_4:w3.cell? ⟨gb345,4,none⟩ = some (.int .i64 a0_4):=(blk_cell BK345.out 4).trans rfl
   have hfz11_0:=blk_frozen BK345.out 0
   have hfz11_1:=blk_frozen BK345.out 1
   have hfz11_2:=blk_frozen BK345.out 2
   have hfz11_3:=blk_frozen BK345.out 3
   have hfz11_4:=blk_frozen BK345.out 4
   go_wp2_with (first | ((with_reducible refine gate_callee (f:=155) rfl ?_);refine goesL_ (some 5) rfl rfl Try.func155 (by kernel_rfl) rfl #[.int .i64 a0_0] rfl (by (try simp only [List.map_toArray,List.map_cons,List.map_nil]);first | done | rfl | (simp only [List.length_drop,List.length_take];rfl)) ?_;(with_reducible refine (message_number.calls a0_0 true _ A4.out).mono ?_);rintro e w' ⟨rfl,⟨nd,rfl⟩⟩;refine ⟨_,rfl,?_⟩) | (go_at_call 156;(with_reducible refine (message_distance.calls k a0_2 t348 _ A10.out).mono ?_);rintro e w' ⟨rfl,⟨nd,rfl⟩⟩))
   go_meet
   case rel => exact ⟨_,(!t348),(by first | rfl | (simp;done) | (simp [*];done)),H',⟨by first | omega | exact Nat.le_refl _⟩,⟨by (with_reducible repeat (first | refine blk_drewN ?_ _ | refine blk_drew ?_ | refine blk_alloc ?_ _));exact BK345.out⟩,⟨by repeat (first | (with_reducible first | exact HB.out | apply below_alloc | apply pw_below_drewN | apply below_drew1 | refine below_set ?_ GE345.out) | exact HB.out)⟩⟩
  rw [if_neg c9] at H
  have c9b0:(a0_1 == 2) = false:=beq_eq_false_iff_ne.mpr c9
  have c9b1:(a0_1 != 2) = true:=bne_iff_ne.mpr c9
  have H':=Aside0.mk H
  clear H
  have hcz12_0:w3.cell? ⟨gb345,0,none⟩ = some (.int .i64 a0_0):=(blk_cell BK345.out 0).trans rfl
  have hcz12_1:w3.cell? ⟨gb345,1,none⟩ = some (.int .i64 a0_1):=(blk_cell BK345.out 1).trans rfl
  have hcz12_2:w3.cell? ⟨gb345,2,none⟩ = some (.float .f64 a0_2):=(blk_cell BK345.out 2).trans rfl
  have hcz12_3:w3.cell? ⟨gb345,3,none⟩ = some (.float .f64 a0_3):=(blk_cell BK345.out 3).trans rfl
  have hcz12_4:w3.cell? ⟨gb345,4,none⟩ = some (.int .i64 a0_4):=(blk_cell BK345.out 4).trans rfl
  have hfz12_0:=blk_frozen BK345.out 0
  have hfz12_1:=blk_frozen BK345.out 1
  have hfz12_2:=blk_frozen BK345.out 2
  have hfz12_3:=blk_frozen BK345.out 3
  have hfz12_4:=blk_frozen BK345.out 4
  go_wp2_with (first | ((with_reducible refine gate_callee (f:=155) rfl ?_);refine goesL_ (some 5) rfl rfl Try.func155 (by kernel_rfl) rfl #[.int .i64 a0_0] rfl (by (try simp only [List.map_toArray,List.map_cons,List.map_nil]);first | done | rfl | (simp only [List.length_drop,List.length_take];rfl)) ?_;(with_reducible refine (message_number.calls a0_0 true _ A4.out).mono ?_);rintro e w' ⟨rfl,⟨nd,rfl⟩⟩;refine ⟨_,rfl,?_⟩))
  go_meet
  case rel => exact ⟨_,(true),(by first | rfl | (simp;done) | (simp [*];done)),H',⟨by first | omega | exact Nat.le_refl _⟩,⟨by (with_reducible repeat (first | refine blk_drewN ?_ _ | refine blk_drew ?_ | refine blk_alloc ?_ _));exact BK345.out⟩,⟨by repeat (first | (with_reducible first | exact HB.out | apply below_alloc | apply pw_below_drewN | apply below_drew1 | refine below_set ?_ GE345.out) | exact HB.out)⟩⟩
 case rest =>
  clear HC2
  obtain ⟨kq,x22_1,rfl,HA,HJ1,BK345,HB⟩:=hcut
  cases kq with
  | zero => exact absurd HA.out (by simp [message_news.j0])
  | succ kj1 =>
   have H:=HA.out
   clear HA
   simp only [message_news.j0] at H
   by_cases c14:x22_1 = true
   ·subst c14
    have H1:(some false) = some r:=by rw [if_pos rfl] at H;exact H
    clear H
    have H:=H1
    clear H1
    obtain rfl:=Option.some.inj H
    go_wp2
    go_ret
    exact ⟨by first | rfl | (simp [errW_none,errW_some] <;> rfl) | (simp [*,errW_none,errW_some] <;> rfl),by repeat (first | (with_reducible first | exact HB.out | apply below_alloc | apply pw_below_drewN | apply below_drew1 | refine below_set ?_ GE345.out) | exact HB.out)⟩
   replace c14:=Bool.eq_false_iff.mpr c14
   subst c14
   have H1:(if a0_1 = 1 then (message_news.j1 kj1 true a0_0 a0_1 a0_2 a0_3 a0_4) else ((math_IsInf.f a0_2 1).bind fun t349 => (message_news.j1 kj1 t349 a0_0 a0_1 a0_2 a0_3 a0_4))) = some r:=by rw [if_neg (show ¬ (false = true) by decide)] at H;exact H
   clear H
   have H:=H1
   clear H1
   have HC15:=Aside0.mk H
   clear H
   go_upto_region 3 with (fail)
   go_cut [30] (fun v30 wc => ∃ (kq:Nat) (x30_14:Bool),v30 = .bool x30_14 ∧ Aside0 (message_news.j1 kq x30_14 a0_0 a0_1 a0_2 a0_3 a0_4 = some r) ∧ Aside0 (kq ≤ kj1) ∧ Aside0 (wc.heap[gb345]? = some (.cells #[.int .i64 a0_0,.int .i64 a0_1,.float .f64 a0_2,.float .f64 a0_3,.int .i64 a0_4] 56 (0,0))) ∧ Aside0 (Below w.heap.size w wc))
   case first =>
    have H:=HC15.out
    clear HC15
    by_cases c16:a0_1 = 1
    ·rw [if_pos c16] at H
     have c16b0:(a0_1 == 1) = true:=beq_iff_eq.mpr c16
     have c16b1:(a0_1 != 1) = false:=bne_eq_false_iff_eq.mpr c16
     clear c16
     (first | rw [c16b0] | (simp only [i64_w,i32_w];rw [c16b0]) | skip)
     have H':=Aside0.mk H
     clear H
     have hcz17_0:wc.cell? ⟨gb345,0,none⟩ = some (.int .i64 a0_0):=(blk_cell BK345.out 0).trans rfl
     have hcz17_1:wc.cell? ⟨gb345,1,none⟩ = some (.int .i64 a0_1):=(blk_cell BK345.out 1).trans rfl
     have hcz17_2:wc.cell? ⟨gb345,2,none⟩ = some (.float .f64 a0_2):=(blk_cell BK345.out 2).trans rfl
     have hcz17_3:wc.cell? ⟨gb345,3,none⟩ = some (.float .f64 a0_3):=(blk_cell BK345.out 3).trans rfl
     have hcz17_4:wc.cell? ⟨gb345,4,none⟩ = some (.int .i64 a0_4):=(blk_cell BK345.out 4).trans rfl
     have hfz17_0:=blk_frozen BK345.out 0
     have hfz17_1:=blk_frozen BK345.out 1
     have hfz17_2:=blk_frozen BK345.out 2
     have hfz17_3:=blk_frozen BK345.out 3
     have hfz17_4:=blk_frozen BK345.out 4
     go_wp2
     go_meet
     case rel => exact ⟨_,(true),(by first | rfl | (simp;done) | (simp [*];done)),H',⟨by have:=HJ1.out;first | omega | exact Nat.le_refl _⟩,⟨by (with_reducible repeat (first | refine blk_drewN ?_ _ | refine blk_drew ?_ | refine blk_alloc ?_ _));exact BK345.out⟩,⟨by repeat (first | (with_reducible first | exact HB.out | apply below_alloc | apply pw_below_drewN | apply below_drew1 | refine below_set ?_ GE345.out) | exact HB.out)⟩⟩
    rw [if_neg c16] at H
    have c16b0:(a0_1 == 1) = false:=beq_eq_false_iff_ne.mpr c16
    have c16b1:(a0_1 != 1) = true:=bne_iff_ne.mpr c16
    (first | rw [c16b0] | (simp only [i64_w,i32_w];rw [c16b0]) | skip)
    replace H:=Option.bind_eq_some_iff.mp H
    obtain ⟨t349,A180,H⟩:=H
    replace H:(message_news.j1 kj1 t349 a0_0 a0_1 a0_2 a0_3 a0_4) = some r:=H
    have A18:=Aside0.mk A180
    clear A180
    have H':=Aside0.mk H
    clear H
    have hcz19_0:wc.cell? ⟨gb345,0,none⟩ = some (.int .i64 a0_0):=(blk_cell BK345.out 0).trans rfl
    have hcz19_1:wc.cell? ⟨gb345,1,none⟩ = some (.int .i64 a0_1):=(blk_cell BK345.out 1).trans rfl
    have hcz19_2:wc.cell? ⟨gb345,2,none⟩ = some (.float .f64 a0_2):=(blk_cell BK345.out 2).trans rfl
    have hcz19_3:wc.cell? ⟨gb345,3,none⟩ = some (.float .f64 a0_3):=(blk_cell BK345.out 3).trans rfl
    have hcz19_4:wc.cell? ⟨gb345,4,none⟩ = some (.int .i64 a0_4):=(blk_cell BK345.out 4).trans rfl
    have hfz19_0:=blk_frozen BK345.out 0
    have hfz19_1:=blk_frozen BK345.out 1
    have hfz19_2:=blk_frozen BK345.out 2
    have hfz19_3:=blk_frozen BK345.out 3
    have hfz19_4:=blk_frozen BK345.out 4
    go_wp2_with (first | (go_at_call 62;(with_reducible refine (math_IsInf.calls a0_2 1 t349 _ A18.out).mono ?_);rintro e w' ⟨rfl,⟨nd,rfl⟩⟩))
    go_meet
    case rel => exact ⟨_,(t349),(by first | rfl | (simp;done) | (simp [*];done)),H',⟨by have:=HJ1.out;first | omega | exact Nat.le_refl _⟩,⟨by (with_reducible repeat (first | refine blk_drewN ?_ _ | refine blk_drew ?_ | refine blk_alloc ?_ _));exact BK345.out⟩,⟨by repeat (first | (with_reducible first | exact HB.out | apply below_alloc | apply pw_below_drewN | apply below_drew1 | refine below_set ?_ GE345.out) | exact HB.out)⟩⟩
   case rest =>
    clear HC15
    obtain ⟨kq,x30_14,rfl,HA,HJ14,BK345,HB⟩:=hcut
    cases kq with
    | zero => exact absurd HA.out (by simp [message_news.j1])
    | succ kj14 =>
     have H:=HA.out
     clear HA
     simp only [message_news.j1] at H
     by_cases c20:x30_14 = true
     ·subst c20
      have H1:(if (a0_3:Int) = 0 then (some (a0_4 == 0)) else (some false)) = some r:=by rw [if_pos rfl] at H;exact H
      clear H
      have H:=H1
      clear H1
      by_cases c21:(a0_3:Int) = 0
      ·rw [if_pos c21] at H
       have c21b0:((a0_3:Int) == 0) = true:=beq_iff_eq.mpr c21
       have c21b1:((a0_3:Int) != 0) = false:=bne_eq_false_iff_eq.mpr c21
       clear c21
       obtain rfl:=Option.some.inj H
       have hcz22_0:wc.cell? ⟨gb345,0,none⟩ = some (.int .i64 a0_0):=(blk_cell BK345.out 0).trans rfl
       have hcz22_1:wc.cell? ⟨gb345,1,none⟩ = some (.int .i64 a0_1):=(blk_cell BK345.out 1).trans rfl
       have hcz22_2:wc.cell? ⟨gb345,2,none⟩ = some (.float .f64 a0_2):=(blk_cell BK345.out 2).trans rfl
       have hcz22_3:wc.cell? ⟨gb345,3,none⟩ = some (.float .f64 a0_3):=(blk_cell BK345.out 3).trans rfl
       have hcz22_4:wc.cell? ⟨gb345,4,none⟩ = some (.int .i64 a0_4):=(blk_cell BK345.out 4).trans rfl
       have hfz22_0:=blk_frozen BK345.out 0
       have hfz22_1:=blk_frozen BK345.out 1
       have hfz22_2:=blk_frozen BK345.out 2
       have hfz22_3:=blk_frozen BK345.out 3
       have hfz22_4:=blk_frozen BK345.out 4
       go_wp2
       go_ret
       exact ⟨by first | rfl | (simp [errW_none,errW_some] <;> rfl) | (simp [*,errW_none,errW_some] <;> rfl),by repeat (first | (with_reducible first | exact HB.out | apply below_alloc | apply pw_below_drewN | apply below_drew1 | refine below_set ?_ GE345.out) | exact HB.out)⟩
      rw [if_neg c21] at H
      have c21b0:((a0_3:Int) == 0) = false:=beq_eq_false_iff_ne.mpr c21
      have c21b1:((a0_3:Int) != 0) = true:=bne_iff_ne.mpr c21
      obtain rfl:=Option.some.inj H
      have hcz23_0:wc.cell? ⟨gb345,0,none⟩ = some (.int .i64 a0_0):=(blk_cell BK345.out 0).trans rfl
      have hcz23_1:wc.cell? ⟨gb345,1,none⟩ = some (.int .i64 a0_1):=(blk_cell BK345.out 1).trans rfl
      have hcz23_2:wc.cell? ⟨gb345,2,none⟩ = some (.float .f64 a0_2):=(blk_cell BK345.out 2).trans rfl
      have hcz23_3:wc.cell? ⟨gb345,3,none⟩ = some (.float .f64 a0_3):=(blk_cell BK345.out 3).trans rfl
      have hcz23_4:wc.cell? ⟨gb345,4,none⟩ = some (.int .i64 a0_4):=(blk_cell BK345.out 4).trans rfl
      have hfz23_0:=blk_frozen BK345.out 0
      have hfz23_1:=blk_frozen BK345.out 1
      have hfz23_2:=blk_frozen BK345.out 2
      have hfz23_3:=blk_frozen BK345.out 3
      have hfz23_4:=blk_frozen BK345.out 4
      go_wp2
      go_ret
      exact ⟨by first | rfl | (simp [errW_none,errW_some] <;> rfl) | (simp [*,errW_none,errW_some] <;> rfl),by repeat (first | (with_reducible first | exact HB.out | apply below_alloc | apply pw_below_drewN | apply below_drew1 | refine below_set ?_ GE345.out) | exact HB.out)⟩
     replace c20:=Bool.eq_false_iff.mpr c20
     subst c20
     have H1:((math_IsInf.f a0_3 1).bind fun t350 => (if t350 = true then (some (a0_4 == 0)) else ((message_distance.f kj14 a0_3).bind fun t351 => (if t351 = true then ((message_number.f a0_4).bind fun t352 => (some t352)) else (some false))))) = some r:=by rw [if_neg (show ¬ (false = true) by decide)] at H;exact H
     clear H
     have H:=H1
     clear H1
     replace H:=Option.bind_eq_some_iff.mp H
     obtain ⟨t350,A240,H⟩:=H
     replace H:(if t350 = true then (some (a0_4 == 0)) else ((message_distance.f kj14 a0_3).bind fun t351 => (if t351 = true then ((message_number.f a0_4).bind fun t352 => (some t352)) else (some false)))) = some r:=H
     have A24:=Aside0.mk A240
     clear A240
     by_cases c25:t350 = true
     ·subst c25
      have H1:(some (a0_4 == 0)) = some r:=by rw [if_pos rfl] at H;exact H
      clear H
      have H:=H1
      clear H1
      obtain rfl:=Option.some.inj H
      have hcz26_0:wc.cell? ⟨gb345,0,none⟩ = some (.int .i64 a0_0):=(blk_cell BK345.out 0).trans rfl
      have hcz26_1:wc.cell? ⟨gb345,1,none⟩ = some (.int .i64 a0_1):=(blk_cell BK345.out 1).trans rfl
      have hcz26_2:wc.cell? ⟨gb345,2,none⟩ = some (.float .f64 a0_2):=(blk_cell BK345.out 2).trans rfl
      have hcz26_3:wc.cell? ⟨gb345,3,none⟩ = some (.float .f64 a0_3):=(blk_cell BK345.out 3).trans rfl
      have hcz26_4:wc.cell? ⟨gb345,4,none⟩ = some (.int .i64 a0_4):=(blk_cell BK345.out 4).trans rfl
      have hfz26_0:=blk_frozen BK345.out 0
      have hfz26_1:=blk_frozen BK345.out 1
      have hfz26_2:=blk_frozen BK345.out 2
      have hfz26_3:=blk_frozen BK345.out 3
      have hfz26_4:=blk_frozen BK345.out 4
      go_wp2_with (first | ((with_reducible refine gate_callee (f:=62) rfl ?_);refine goesL_ (some 42) rfl rfl Try.func62 (by kernel_rfl) rfl #[.float .f64 a0_3,.int .i64 1] rfl (by (try simp only [List.map_toArray,List.map_cons,List.map_nil]);first | done | rfl | (simp only [List.length_drop,List.length_take];rfl)) ?_;(with_reducible refine (math_IsInf.calls a0_3 1 true _ A24.out).mono ?_);rintro e w' ⟨rfl,⟨nd,rfl⟩⟩;refine ⟨_,rfl,?_⟩))
      go_ret
      exact ⟨by first | rfl | (simp [errW_none,errW_some] <;> rfl) | (simp [*,errW_none,errW_some] <;> rfl),by repeat (first | (with_reducible first | exact HB.out | apply below_alloc | apply pw_below_drewN | apply below_drew1 | refine below_set ?_ GE345.out) | exact HB.out)⟩
     replace c25:=Bool.eq_false_iff.mpr c25
     subst c25
     have H1:((message_distance.f kj14 a0_3).bind fun t351 => (if t351 = true then ((message_number.f a0_4).bind fun t352 => (some t352)) else (some false))) = some r:=by rw [if_neg (show ¬ (false = true) by decide)] at H;exact H
     clear H
     have H:=H1
     clear H1
     replace H:=Option.bind_eq_some_iff.mp H
     obtain ⟨t351,A270,H⟩:=H
     replace H:(if t351 = true then ((message_number.f a0_4).bind fun t352 => (some t352)) else (some false)) = some r:=H
     have A27:=Aside0.mk A270
     clear A270
     by_cases c28:t351 = true
     ·subst c28
      have H1:((message_number.f a0_4).bind fun t352 => (some t352)) = some r:=by rw [if_pos rfl] at H;exact H
      clear H
      have H:=H1
      clear H1
      replace H:=Option.bind_eq_some_iff.mp H
      obtain ⟨t352,A290,H⟩:=H
      replace H:(some t352) = some r:=H
      have A29:=Aside0.mk A290
      clear A290
      obtain rfl:=Option.some.inj H
      have hcz30_0:wc.cell? ⟨gb345,0,none⟩ = some (.int .i64 a0_0):=(blk_cell BK345.out 0).trans rfl
      have hcz30_1:wc.cell? ⟨gb345,1,none⟩ = some (.int .i64 a0_1):=(blk_cell BK345.out 1).trans rfl
      have hcz30_2:wc.cell? ⟨gb345,2,none⟩ = some (.float .f64 a0_2):=(blk_cell BK345.out 2).trans rfl
      have hcz30_3:wc.cell? ⟨gb345,3,none⟩ = some (.float .f64 a0_3):=(blk_cell BK345.out 3).trans rfl
      have hcz30_4:wc.cell? ⟨gb345,4,none⟩ = some (.int .i64 a0_4):=(blk_cell BK345.out 4).trans rfl
      have hfz30_0:=blk_frozen BK345.out 0
      have hfz30_1:=blk_frozen BK345.out 1
      have hfz30_2:=blk_frozen BK345.out 2
      have hfz30_3:=blk_frozen BK345.out 3
      have hfz30_4:=blk_frozen BK345.out 4
      go_wp2_with (first | ((with_reducible refine gate_callee (f:=62) rfl ?_);refine goesL_ (some 42) rfl rfl Try.func62 (by kernel_rfl) rfl #[.float .f64 a0_3,.int .i64 1] rfl (by (try simp only [List.map_toArray,List.map_cons,List.map_nil]);first | done | rfl | (simp only [List.length_drop,List.length_take];rfl)) ?_;(with_reducible refine (math_IsInf.calls a0_3 1 false _ A24.out).mono ?_);rintro e w' ⟨rfl,⟨nd,rfl⟩⟩;refine ⟨_,rfl,?_⟩) | ((with_reducible refine gate_callee (f:=156) rfl ?_);refine goesL_ (some 48) rfl rfl Try.func156 (by kernel_rfl) rfl #[.float .f64 a0_3] rfl (by (try simp only [List.map_toArray,List.map_cons,List.map_nil]);first | done | rfl | (simp only [List.length_drop,List.length_take];rfl)) ?_;(with_reducible refine (message_distance.calls kj14 a0_3 true _ A27.out).mono ?_);rintro e w' ⟨rfl,⟨nd,rfl⟩⟩;refine ⟨_,rfl,?_⟩) | (go_at_call 155;(with_reducible refine (message_number.calls a0_4 t352 _ A29.out).mono ?_);rintro e w' ⟨rfl,⟨nd,rfl⟩⟩))
      go_ret
      exact ⟨by first | rfl | (simp [errW_none,errW_some] <;> rfl) | (simp [*,errW_none,errW_some] <;> rfl),by repeat (first | (with_reducible first | exact HB.out | apply below_alloc | apply pw_below_drewN | apply below_drew1 | refine below_set ?_ GE345.out) | exact HB.out)⟩
     replace c28:=Bool.eq_false_iff.mpr c28
     subst c28
     have H1:(some false) = some r:=by rw [if_neg (show ¬ (false = true) by decide)] at H;exact H
     clear H
     have H:=H1
     clear H1
     obtain rfl:=Option.some.inj H
     have hcz31_0:wc.cell? ⟨gb345,0,none⟩ = some (.int .i64 a0_0):=(blk_cell BK345.out 0).trans rfl
     have hcz31_1:wc.cell? ⟨gb345,1,none⟩ = some (.int .i64 a0_1):=(blk_cell BK345.out 1).trans rfl
     have hcz31_2:wc.cell? ⟨gb345,2,none⟩ = some (.float .f64 a0_2):=(blk_cell BK345.out 2).trans rfl
     have hcz31_3:wc.cell? ⟨gb345,3,none⟩ = some (.float .f64 a0_3):=(blk_cell BK345.out 3).trans rfl
     have hcz31_4:wc.cell? ⟨gb345,4,none⟩ = some (.int .i64 a0_4):=(blk_cell BK345.out 4).trans rfl
     have hfz31_0:=blk_frozen BK345.out 0
     have hfz31_1:=blk_frozen BK345.out 1
     have hfz31_2:=blk_frozen BK345.out 2
     have hfz31_3:=blk_frozen BK345.out 3
     have hfz31_4:=blk_frozen BK345.out 4
     go_wp2_with (first | ((with_reducible refine gate_callee (f:=62) rfl ?_);refine goesL_ (some 42) rfl rfl Try.func62 (by kernel_rfl) rfl #[.float .f64 a0_3,.int .i64 1] rfl (by (try simp only [List.map_toArray,List.map_cons,List.map_nil]);first | done | rfl | (simp only [List.length_drop,List.length_take];rfl)) ?_;(with_reducible refine (math_IsInf.calls a0_3 1 false _ A24.out).mono ?_);rintro e w' ⟨rfl,⟨nd,rfl⟩⟩;refine ⟨_,rfl,?_⟩) | ((with_reducible refine gate_callee (f:=156) rfl ?_);refine goesL_ (some 48) rfl rfl Try.func156 (by kernel_rfl) rfl #[.float .f64 a0_3] rfl (by (try simp only [List.map_toArray,List.map_cons,List.map_nil]);first | done | rfl | (simp only [List.length_drop,List.length_take];rfl)) ?_;(with_reducible refine (message_distance.calls kj14 a0_3 false _ A27.out).mono ?_);rintro e w' ⟨rfl,⟨nd,rfl⟩⟩;refine ⟨_,rfl,?_⟩))
     go_ret
     exact ⟨by first | rfl | (simp [errW_none,errW_some] <;> rfl) | (simp [*,errW_none,errW_some] <;> rfl),by repeat (first | (with_reducible first | exact HB.out | apply below_alloc | apply pw_below_drewN | apply below_drew1 | refine below_set ?_ GE345.out) | exact HB.out)⟩
def message_ahead.f (a0_0:Int) (a0_1:Int) (a0_2:Nat) (a0_3:Nat) (a0_4:Int) (a1_0:Int) (a1_1:Int) (a1_2:Nat) (a1_3:Nat) (a1_4:Int):Option (Bool):=if a0_1 < a1_1 then (some true) else (if a0_1 = a1_1 then (some (decide (a0_0 < a1_0))) else (some false))
set_option maxHeartbeats 8000000 in
set_option maxRecDepth 100000 in
theorem message_ahead.calls (a0_0:Int) (a0_1:Int) (a0_2:Nat) (a0_3:Nat) (a0_4:Int) (a1_0:Int) (a1_1:Int) (a1_2:Nat) (a1_3:Nat) (a1_4:Int) (r:Bool) (w:World) (h:message_ahead.f a0_0 a0_1 a0_2 a0_3 a0_4 a1_0 a1_1 a1_2 a1_3 a1_4 = some r) :
  Calls Try.prog 142 #[.agg #[.int .i64 a0_0,.int .i64 a0_1,.float .f64 a0_2,.float .f64 a0_3,.int .i64 a0_4],.agg #[.int .i64 a1_0,.int .i64 a1_1,.float .f64 a1_2,.float .f64 a1_3,.int .i64 a1_4]] w fun e w' => e = .returned (.bool r) ∧ Below w.heap.size w w':=by
 have hu56:=Try.underlying56
 have HB:=Aside0.mk (Below.refl w.heap.size w)
 have H:(if a0_1 < a1_1 then (some true) else (if a0_1 = a1_1 then (some (decide (a0_0 < a1_0))) else (some false))) = some r:=h
 clear h
 by_cases c3:a0_1 < a1_1
 ·rw [if_pos c3] at H
  have c3b0:decide (a0_1 < a1_1) = true:=decide_eq_true c3
  clear c3
  obtain rfl:=Option.some.inj H
  go_enter Try.func142,Try.ntmps142
  go_wp2_with (first | ((with_reducible refine gate_dst (N:=2) rfl ?_);refine box_event ?hg (N:=2) ?hd (cs:=#[.int .i64 a0_0,.int .i64 a0_1,.float .f64 a0_2,.float .f64 a0_3,.int .i64 a0_4]) (t:=56) ?hr ?_;(case hd => rfl);(case hg => rfl);(case hr => first | (go_simp;done) | (go_simp;rfl));intro gb353 hg w4 hbox hb;have n0_:=Aside0.mk (below_step (by repeat (first | (with_reducible first | exact HB.out | apply below_alloc | apply pw_below_drewN | apply below_drew1) | exact HB.out)) hb);have n1_:=Aside0.mk (hbox);have n2_:=Aside0.mk ((by rw [hg];exact (below_size (by repeat (first | (with_reducible first | exact HB.out | apply below_alloc | apply pw_below_drewN | apply below_drew1) | exact HB.out))):w.heap.size ≤ gb353));have n3_:=Aside0.mk ((by rw [hg];exact (below_size (by repeat (first | (with_reducible first | exact HB.out | apply below_alloc | apply pw_below_drewN | apply below_drew1) | exact HB.out))):w.heap.size ≤ gb353));clear HB;have HB:=n0_;have BK353:=n1_;have GW353:=n2_;have GE353:=n3_;clear n0_ n1_ n2_ n3_;clear hb hbox hg) | ((with_reducible refine gate_dst (N:=3) rfl ?_);refine box_event ?hg (N:=3) ?hd (cs:=#[.int .i64 a1_0,.int .i64 a1_1,.float .f64 a1_2,.float .f64 a1_3,.int .i64 a1_4]) (t:=56) ?hr ?_;(case hd => rfl);(case hg => rfl);(case hr => first | (go_simp;done) | (go_simp;rfl));intro gb354 hg w5 hbox hb;have n0_:=Aside0.mk (blk_below (g:=gb353) (o:=.cells #[.int .i64 a0_0,.int .i64 a0_1,.float .f64 a0_2,.float .f64 a0_3,.int .i64 a0_4] 56 (0,0)) (by (with_reducible repeat (first | refine blk_drewN ?_ _ | refine blk_drew ?_ | refine blk_alloc ?_ _));exact BK353.out) hb);have n1_:=Aside0.mk (below_step (by repeat (first | (with_reducible first | exact HB.out | apply below_alloc | apply pw_below_drewN | apply below_drew1 | refine below_set ?_ GE353.out) | exact HB.out)) hb);have n2_:=Aside0.mk (hbox);have n3_:=Aside0.mk ((by rw [hg];exact (below_size (by repeat (first | (with_reducible first | exact HB.out | apply below_alloc | apply pw_below_drewN | apply below_drew1 | refine below_set ?_ GE353.out) | exact HB.out))):w.heap.size ≤ gb354));have n4_:=Aside0.mk ((by rw [hg];exact (below_size (by repeat (first | (with_reducible first | exact HB.out | apply below_alloc | apply pw_below_drewN | apply below_drew1 | refine below_set ?_ GE353.out) | exact HB.out))):w.heap.size ≤ gb354));have n5_:=Aside0.mk ((by rw [hg];exact Nat.ne_of_lt (blk_lt (g:=gb353) (o:=.cells #[.int .i64 a0_0,.int .i64 a0_1,.float .f64 a0_2,.float .f64 a0_3,.int .i64 a0_4] 56 (0,0)) (by (with_reducible repeat (first | refine blk_drewN ?_ _ | refine blk_drew ?_ | refine blk_alloc ?_ _));exact BK353.out)):gb353 ≠ gb354));have n6_:=Aside0.mk ((by rw [hg];exact Nat.ne_of_gt (blk_lt (g:=gb353) (o:=.cells #[.int .i64 a0_0,.int .i64 a0_1,.float .f64 a0_2,.float .f64 a0_3,.int .i64 a0_4] 56 (0,0)) (by (with_reducible repeat (first | refine blk_drewN ?_ _ | refine blk_drew ?_ | refine blk_alloc ?_ _));exact BK353.out)):gb354 ≠ gb353));clear BK353;clear HB;have BK353:=n0_;have HB:=n1_;have BK354:=n2_;have GW354:=n3_;have GE354:=n4_;have NB353_354:=n5_;have NB354_353:=n6_;clear n0_ n1_ n2_ n3_ n4_ n5_ n6_;clear hb hbox hg;have hnb6:=NB353_354.out;have hnc6:=NB354_353.out;have hcz7_0:w5.cell? ⟨gb353,0,none⟩ = some (.int .i64 a0_0):=(blk_cell BK353.out 0).trans rfl;have hcz7_1:w5.cell? ⟨gb353,1,none⟩ = some (.int .i64 a0_1):=(blk_cell BK353.out 1).trans rfl;have hcz7_2:w5.cell? ⟨gb353,2,none⟩ = some (.float .f64 a0_2):=(blk_cell BK353.out 2).trans rfl;have hcz7_3:w5.cell? ⟨gb353,3,none⟩ = some (.float .f64 a0_3):=(blk_cell BK353.out 3).trans rfl;have hcz7_4:w5.cell? ⟨gb353,4,none⟩ = some (.int .i64 a0_4):=(blk_cell BK353.out 4).trans rfl;have hfz7_0:=blk_frozen BK353.out 0;have hfz7_1:=blk_frozen BK353.out 1;have hfz7_2:=blk_frozen BK353.out 2;have hfz7_3:=blk_frozen BK353.out 3;have hfz7_4:=blk_frozen BK353.out 4;have hcz8_0:w5.cell? ⟨gb354,0,none⟩ = some (.int .i64 a1_0):=(blk_cell BK354.out 0).trans rfl;have hcz8_1:w5.cell? ⟨gb354,1,none⟩ = some (.int .i64 a1_1):=(blk_cell BK354.out 1).trans rfl;have hcz8_2:w5.cell? ⟨gb354,2,none⟩ = some (.float .f64 a1_2):=(blk_cell BK354.out 2).trans rfl;have hcz8_3:w5.cell? ⟨gb354,3,none⟩ = some (.float .f64 a1_3):=(blk_cell BK354.out 3).trans rfl;have hcz8_4:w5.cell? ⟨gb354,4,none⟩ = some (.int .i64 a1_4):=(blk_cell BK354.out 4).trans rfl;have hfz8_0:=blk_frozen BK354.out 0;have hfz8_1:=blk_frozen BK354.out 1;have hfz8_2:=blk_frozen BK354.out 2;have hfz8_3:=blk_frozen BK354.out 3;have hfz8_4:=blk_frozen BK354.out 4))
  go_ret
  exact ⟨by first | rfl | (simp [errW_none,errW_some] <;> rfl) | (simp [*,errW_none,errW_some] <;> rfl),by repeat (first | (with_reducible first | exact HB.out | apply below_alloc | apply pw_below_drewN | apply below_drew1 | refine below_set ?_ GE353.out | refine below_set ?_ GE354.out) | exact HB.out)⟩
 rw [if_neg c3] at H
 have c3b0:decide (a0_1 < a1_1) = false:=decide_eq_false c3
 clear c3
 by_cases c9:a0_1 = a1_1
 ·rw [if_pos c9] at H
  have c9b0:(a0_1 == a1_1) = true:=beq_iff_eq.mpr c9
  have c9b1:(a0_1 != a1_1) = false:=bne_eq_false_iff_eq.mpr c9
  clear c9
  obtain rfl:=Option.some.inj H
  go_enter Try.func142,Try.ntmps142
  go_wp2_with (first | ((with_reducible refine gate_dst (N:=2) rfl ?_);refine box_event ?hg (N:=2) ?hd (cs:=#[.int .i64 a0_0,.int .i64 a0_1,.float .f64 a0_2,.float .f64 a0_3,.int .i64 a0_4]) (t:=56) ?hr ?_;(case hd => rfl);(case hg => rfl);(case hr => first | (go_simp;done) | (go_simp;rfl));intro gb353 hg w10 hbox hb;have n0_:=Aside0.mk (below_step (by repeat (first | (with_reducible first | exact HB.out | apply below_alloc | apply pw_below_drewN | apply below_drew1) | exact HB.out)) hb);have n1_:=Aside0.mk (hbox);have n2_:=Aside0.mk ((by rw [hg];exact (below_size (by repeat (first | (with_reducible first | exact HB.out | apply below_alloc | apply pw_below_drewN | apply below_drew1) | exact HB.out))):w.heap.size ≤ gb353));have n3_:=Aside0.mk ((by rw [hg];exact (below_size (by repeat (first | (with_reducible first | exact HB.out | apply below_alloc | apply pw_below_drewN | apply below_drew1) | exact HB.out))):w.heap.size ≤ gb353));clear HB;have HB:=n0_;have BK353:=n1_;have GW353:=n2_;have GE353:=n3_;clear n0_ n1_ n2_ n3_;clear hb hbox hg) | ((with_reducible refine gate_dst (N:=3) rfl ?_);refine box_event ?hg (N:=3) ?hd (cs:=#[.int .i64 a1_0,.int .i64 a1_1,.float .f64 a1_2,.float .f64 a1_3,.int .i64 a1_4]) (t:=56) ?hr ?_;(case hd => rfl);(case hg => rfl);(case hr => first | (go_simp;done) | (go_simp;rfl));intro gb354 hg w11 hbox hb;have n0_:=Aside0.mk (blk_below (g:=gb353) (o:=.cells #[.int .i64 a0_0,.int .i64 a0_1,.float .f64 a0_2,.float .f64 a0_3,.int .i64 a0_4] 56 (0,0)) (by (with_reducible repeat (first | refine blk_drewN ?_ _ | refine blk_drew ?_ | refine blk_alloc ?_ _));exact BK353.out) hb);have n1_:=Aside0.mk (below_step (by repeat (first | (with_reducible first | exact HB.out | apply below_alloc | apply pw_below_drewN | apply below_drew1 | refine below_set ?_ GE353.out) | exact HB.out)) hb);have n2_:=Aside0.mk (hbox);have n3_:=Aside0.mk ((by rw [hg];exact (below_size (by repeat (first | (with_reducible first | exact HB.out | apply below_alloc | apply pw_below_drewN | apply below_drew1 | refine below_set ?_ GE353.out) | exact HB.out))):w.heap.size ≤ gb354));have n4_:=Aside0.mk ((by rw [hg];exact (below_size (by repeat (first | (with_reducible first | exact HB.out | apply below_alloc | apply pw_below_drewN | apply below_drew1 | refine below_set ?_ GE353.out) | exact HB.out))):w.heap.size ≤ gb354));have n5_:=Aside0.mk ((by rw [hg];exact Nat.ne_of_lt (blk_lt (g:=gb353) (o:=.cells #[.int .i64 a0_0,.int .i64 a0_1,.float .f64 a0_2,.float .f64 a0_3,.int .i64 a0_4] 56 (0,0)) (by (with_reducible repeat (first | refine blk_drewN ?_ _ | refine blk_drew ?_ | refine blk_alloc ?_ _));exact BK353.out)):gb353 ≠ gb354));have n6_:=Aside0.mk ((by rw [hg];exact Nat.ne_of_gt (blk_lt (g:=gb353) (o:=.cells #[.int .i64 a0_0,.int .i64 a0_1,.float .f64 a0_2,.float .f64 a0_3,.int .i64 a0_4] 56 (0,0)) (by (with_reducible repeat (first | refine blk_drewN ?_ _ | refine blk_drew ?_ | refine blk_alloc ?_ _));exact BK353.out)):gb354 ≠ gb353));clear BK353;clear HB;have BK353:=n0_;have HB:=n1_;have BK354:=n2_;have GW354:=n3_;have GE354:=n4_;have NB353_354:=n5_;have NB354_353:=n6_;clear n0_ n1_ n2_ n3_ n4_ n5_ n6_;clear hb hbox hg;have hnb12:=NB353_354.out;have hnc12:=NB354_353.out;have hcz13_0:w11.cell? ⟨gb353,0,none⟩ = some (.int .i64 a0_0):=(blk_cell BK353.out 0).trans rfl;have hcz13_1:w11.cell? ⟨gb353,1,none⟩ = some (.int .i64 a0_1):=(blk_cell BK353.out 1).trans rfl;have hcz13_2:w11.cell? ⟨gb353,2,none⟩ = some (.float .f64 a0_2):=(blk_cell BK353.out 2).trans rfl;have hcz13_3:w11.cell? ⟨gb353,3,none⟩ = some (.float .f64 a0_3):=(blk_cell BK353.out 3).trans rfl;have hcz13_4:w11.cell? ⟨gb353,4,none⟩ = some (.int .i64 a0_4):=(blk_cell BK353.out 4).trans rfl;have hfz13_0:=blk_frozen BK353.out 0;have hfz13_1:=blk_frozen BK353.out 1;have hfz13_2:=blk_frozen BK353.out 2;have hfz13_3:=blk_frozen BK353.out 3;have hfz13_4:=blk_frozen BK353.out 4;have hcz14_0:w11.cell? ⟨gb354,0,none⟩ = some (.int .i64 a1_0):=(blk_cell BK354.out 0).trans rfl;have hcz14_1:w11.cell? ⟨gb354,1,none⟩ = some (.int .i64 a1_1):=(blk_cell BK354.out 1).trans rfl;have hcz14_2:w11.cell? ⟨gb354,2,none⟩ = some (.float .f64 a1_2):=(blk_cell BK354.out 2).trans rfl;have hcz14_3:w11.cell? ⟨gb354,3,none⟩ = some (.float .f64 a1_3):=(blk_cell BK354.out 3).trans rfl;have hcz14_4:w11.cell? ⟨gb354,4,none⟩ = some (.int .i64 a1_4):=(blk_cell BK354.out 4).trans rfl;have hfz14_0:=blk_frozen BK354.out 0;have hfz14_1:=blk_frozen BK354.out 1;have hfz14_2:=blk_frozen BK354.out 2;have hfz14_3:=blk_frozen BK354.out 3;have hfz14_4:=blk_frozen BK354.out 4))
  go_ret
  exact ⟨by first | rfl | (simp [errW_none,errW_some] <;> rfl) | (simp [*,errW_none,errW_some] <;> rfl),by repeat (first | (with_reducible first | exact HB.out | apply below_alloc | apply pw_below_drewN | apply below_drew1 | refine below_set ?_ GE353.out | refine below_set ?_ GE354.out) | exact HB.out)⟩
 rw [if_neg c9] at H
 have c9b0:(a0_1 == a1_1) = false:=beq_eq_false_iff_ne.mpr c9
 have c9b1:(a0_1 != a1_1) = true:=bne_iff_ne.mpr c9
 obtain rfl:=Option.some.inj H
 go_enter Try.func142,Try.ntmps142
 go_wp2_with (first | ((with_reducible refine gate_dst (N:=2) rfl ?_);refine box_event ?hg (N:=2) ?hd (cs:=#[.int .i64 a0_0,.int .i64 a0_1,.float .f64 a0_2,.float .f64 a0_3,.int .i64 a0_4]) (t:=56) ?hr ?_;(case hd => rfl);(case hg => rfl);(case hr => first | (go_simp;done) | (go_simp;rfl));intro gb353 hg w15 hbox hb;have n0_:=Aside0.mk (below_step (by repeat (first | (with_reducible first | exact HB.out | apply below_alloc | apply pw_below_drewN | apply below_drew1) | exact HB.out)) hb);have n1_:=Aside0.mk (hbox);have n2_:=Aside0.mk ((by rw [hg];exact (below_size (by repeat (first | (with_reducible first | exact HB.out | apply below_alloc | apply pw_below_drewN | apply below_drew1) | exact HB.out))):w.heap.size ≤ gb353));have n3_:=Aside0.mk ((by rw [hg];exact (below_size (by repeat (first | (with_reducible first | exact HB.out | apply below_alloc | apply pw_below_drewN | apply below_drew1) | exact HB.out))):w.heap.size ≤ gb353));clear HB;have HB:=n0_;have BK353:=n1_;have GW353:=n2_;have GE353:=n3_;clear n0_ n1_ n2_ n3_;clear hb hbox hg) | ((with_reducible refine gate_dst (N:=3) rfl ?_);refine box_event ?hg (N:=3) ?hd (cs:=#[.int .i64 a1_0,.int .i64 a1_1,.float .f64 a1_2,.float .f64 a1_3,.int .i64 a1_4]) (t:=56) ?hr ?_;(case hd => rfl);(case hg => rfl);(case hr => first | (go_simp;done) | (go_simp;rfl));intro gb354 hg w16 hbox hb;have n0_:=Aside0.mk (blk_below (g:=gb353) (o:=.cells #[.int .i64 a0_0,.int .i64 a0_1,.float .f64 a0_2,.float .f64 a0_3,.int .i64 a0_4] 56 (0,0)) (by (with_reducible repeat (first | refine blk_drewN ?_ _ | refine blk_drew ?_ | refine blk_alloc ?_ _));exact BK353.out) hb);have n1_:=Aside0.mk (below_step (by repeat (first | (with_reducible first | exact HB.out | apply below_alloc | apply pw_below_drewN | apply below_drew1 | refine below_set ?_ GE353.out) | exact HB.out)) hb);have n2_:=Aside0.mk (hbox);have n3_:=Aside0.mk ((by rw [hg];exact (below_size (by repeat (first | (with_reducible first | exact HB.out | apply below_alloc | apply pw_below_drewN | apply below_drew1 | refine below_set ?_ GE353.out) | exact HB.out))):w.heap.size ≤ gb354));have n4_:=Aside0.mk ((by rw [hg];exact (below_size (by repeat (first | (with_reducible first | exact HB.out | apply below_alloc | apply pw_below_drewN | apply below_drew1 | refine below_set ?_ GE353.out) | exact HB.out))):w.heap.size ≤ gb354));have n5_:=Aside0.mk ((by rw [hg];exact Nat.ne_of_lt (blk_lt (g:=gb353) (o:=.cells #[.int .i64 a0_0,.int .i64 a0_1,.float .f64 a0_2,.float .f64 a0_3,.int .i64 a0_4] 56 (0,0)) (by (with_reducible repeat (first | refine blk_drewN ?_ _ | refine blk_drew ?_ | refine blk_alloc ?_ _));exact BK353.out)):gb353 ≠ gb354));have n6_:=Aside0.mk ((by rw [hg];exact Nat.ne_of_gt (blk_lt (g:=gb353) (o:=.cells #[.int .i64 a0_0,.int .i64 a0_1,.float .f64 a0_2,.float .f64 a0_3,.int .i64 a0_4] 56 (0,0)) (by (with_reducible repeat (first | refine blk_drewN ?_ _ | refine blk_drew ?_ | refine blk_alloc ?_ _));exact BK353.out)):gb354 ≠ gb353));clear BK353;clear HB;have BK353:=n0_;have HB:=n1_;have BK354:=n2_;have GW354:=n3_;have GE354:=n4_;have NB353_354:=n5_;have NB354_353:=n6_;clear n0_ n1_ n2_ n3_ n4_ n5_ n6_;clear hb hbox hg;have hnb17:=NB353_354.out;have hnc17:=NB354_353.out;have hcz18_0:w16.cell? ⟨gb353,0,none⟩ = some (.int .i64 a0_0):=(blk_cell BK353.out 0).trans rfl;have hcz18_1:w16.cell? ⟨gb353,1,none⟩ = some (.int .i64 a0_1):=(blk_cell BK353.out 1).trans rfl;have hcz18_2:w16.cell? ⟨gb353,2,none⟩ = some (.float .f64 a0_2):=(blk_cell BK353.out 2).trans rfl;have hcz18_3:w16.cell? ⟨gb353,3,none⟩ = some (.float .f64 a0_3):=(blk_cell BK353.out 3).trans rfl;have hcz18_4:w16.cell? ⟨gb353,4,none⟩ = some (.int .i64 a0_4):=(blk_cell BK353.out 4).trans rfl;have hfz18_0:=blk_frozen BK353.out 0;have hfz18_1:=blk_frozen BK353.out 1;have hfz18_2:=blk_frozen BK353.out 2;have hfz18_3:=blk_frozen BK353.out 3;have hfz18_4:=blk_frozen BK353.out 4;have hcz19_0:w16.cell? ⟨gb354,0,none⟩ = some (.int .i64 a1_0):=(blk_cell BK354.out 0).trans rfl;have hcz19_1:w16.cell? ⟨gb354,1,none⟩ = some (.int .i64 a1_1):=(blk_cell BK354.out 1).trans rfl;have hcz19_2:w16.cell? ⟨gb354,2,none⟩ = some (.float .f64 a1_2):=(blk_cell BK354.out 2).trans rfl;have hcz19_3:w16.cell? ⟨gb354,3,none⟩ = some (.float .f64 a1_3):=(blk_cell BK354.out 3).trans rfl;have hcz19_4:w16.cell? ⟨gb354,4,none⟩ = some (.int .i64 a1_4):=(blk_cell BK354.out 4).trans rfl;have hfz19_0:=blk_frozen BK354.out 0;have hfz19_1:=blk_frozen BK354.out 1;have hfz19_2:=blk_frozen BK354.out 2;have hfz19_3:=blk_frozen BK354.out 3;have hfz19_4:=blk_frozen BK354.out 4))
 go_ret
 exact ⟨by first | rfl | (simp [errW_none,errW_some] <;> rfl) | (simp [*,errW_none,errW_some] <;> rfl),by repeat (first | (with_reducible first | exact HB.out | apply below_alloc | apply pw_below_drewN | apply below_drew1 | refine below_set ?_ GE353.out | refine below_set ?_ GE354.out) | exact HB.out)⟩
end Go.Proofs.Ytjcnmpkaiopihaa.PA
