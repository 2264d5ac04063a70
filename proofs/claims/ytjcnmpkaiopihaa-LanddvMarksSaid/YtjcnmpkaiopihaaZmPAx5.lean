/- Printed by a program of this session (wip/tools/patch_print.py and pr.py, over the kit's print): each Go function as a plain Lean function, and that the Go code comes to just its answers. Conditions: those that each theorem names. -/
import Derived.Test.YtjcnmpkaiopihaaZmMn
import Derived.Test.YtjcnmpkaiopihaaZmPAx0
import Derived.Test.YtjcnmpkaiopihaaZmPAx4
namespace Go.Proofs.Ytjcnmpkaiopihaa.PA
open Go.RowKit Go.Proofs.YtjcnmpkaiopihaaW.PrintWords Go.Proofs.YtjcnmpkaiopihaaW.PrintLast Go.Proofs.YtjcnmpkaiopihaaW.PrintMore
attribute [local go_sem] max2_int min2_int max_two min_two max_three min_three max_four min_four
set_option linter.unusedVariables false
set_option linter.unusedSimpArgs false
mutual
def beaconref15_Check.l0:Nat → Int → List (S54) → Int → Option (Int)
 | 0,_,_,_ => none
 | k + 1,x0,x1,x5 => if x5 < (x1.length:Int) then (if 0 ≤ x5 then ((beaconref15_number.f ((rd_T54 x1 x5).f0)).bind fun t139 => (if t139 = true then (if ((rd_T54 x1 x5).f0) = x0 then (beaconref15_Check.j1 k x0 x1 x5 true) else (if x5 > 0 then (if 0 ≤ (wrap64 (x5 - 1)) then (if (wrap64 (x5 - 1)) < (x1.length:Int) then (if ((rd_T54 x1 (wrap64 (x5 - 1))).f0) ≥ ((rd_T54 x1 x5).f0) then (beaconref15_Check.j1 k x0 x1 x5 true) else ((beaconref01_Weight.f ((rd_T54 x1 x5).f1)).bind fun t141 => (if t141 = 0 then ((beaconref14_List.f k ((rd_T54 x1 x5).f2)).bind fun t142 => (beaconref15_Check.j1 k x0 x1 x5 (!t142))) else (beaconref15_Check.j1 k x0 x1 x5 true)))) else (none)) else (none)) else ((beaconref01_Weight.f ((rd_T54 x1 x5).f1)).bind fun t143 => (if t143 = 0 then ((beaconref14_List.f k ((rd_T54 x1 x5).f2)).bind fun t144 => (beaconref15_Check.j1 k x0 x1 x5 (!t144))) else (beaconref15_Check.j1 k x0 x1 x5 true))))) else (beaconref15_Check.j1 k x0 x1 x5 true))) else (none)) else (some 0)
def beaconref15_Check.j1:Nat → Int → List (S54) → Int → Bool → Option (Int)
 | 0,_,_,_,_ => none
 | k + 1,x0,x1,x5,x56 => if x56 = true then (some 1) else (beaconref15_Check.l0 k x0 x1 (wrap64 (x5 + 1)))
end
def beaconref15_Check.f (k:Nat) (a0:Int) (l1:List (S54)):Option (Int):=(beaconref15_number.f a0).bind fun t136 => (if t136 = true then (beaconref15_Check.l0 k a0 l1 0) else (some 20))
def beaconref15_Check.T7:Bool × List (List Nat × List Nat):=(true,[([],[]),([0],[0]),([1],[1]),([2],[2]),([3,2],[3]),([4],[4]),([5,4],[4,5]),([4],[4]),([6,7,4],[4,6,7]),([4,8],[4,8]),([9,4],[9]),([10],[10]),([11,10],[10,11]),([12,10,10],[10,12]),([13],[13]),([13],[13]),([15,13],[13,15]),([14,16,13],[13,14,16]),([17,13],[13,17]),([18,13],[13,18]),([13],[13]),([20,13],[13,20]),([19,21,13],[13,19,21]),([13,22,10],[10,13,22]),([10,23],[10,23]),([24,13],[24]),([25],[25]),([26,25],[25,26]),([27,25,25],[25,27]),([28,25],[25,28]),([25,29],[25,29]),([30,28],[30]),([31],[31]),([32,31],[31,32]),([33,31,31],[31,33]),([34,31],[31,34]),([31,35],[31,35])])
def beaconref15_Check.B7:List Nat:=[0,1,3,7,15,31,63,31,255,511,1023,2047,4095,8191,16383,16383,49151,131071,262143,524287,16383,1064959,4194303,8388607,16777215,33554431,67108863,134217727,268435455,536870911,1073741823,2147483647,4294967295,8589934591,17179869183,34359738367,68719476735]
theorem beaconref15_Check.tab7:rtab .any (opsOf Try.f18 7) = beaconref15_Check.T7:=by kernel_rfl
theorem beaconref15_Check.bits7:waitsOk beaconref15_Check.T7.2 beaconref15_Check.B7 = true:=by kernel_rfl
set_option maxHeartbeats 8000000 in
set_option maxRecDepth 100000 in
theorem beaconref15_Check.calls (k:Nat) (a0:Int) (A1:Option Addr) (c1:Nat) (l1:List (S54)) (r:Int) (w:World) (hr1:Kd.C k54 w A1 l1.length l1) (hc1:l1.length ≤ c1) (h:beaconref15_Check.f k a0 l1 = some r) :
  Calls Try.prog 18 #[.int .i64 a0,.slice A1 l1.length c1] w fun e w' => e = .returned (.int .i64 r) ∧ Below w.heap.size w w':=by
 have hu54:=Try.underlying54
 have HR1:=Aside0.mk hr1
 have HC1:=Aside0.mk hc1
 clear hr1 hc1
 have HB:=Aside0.mk (Below.refl w.heap.size w)
 have H:((beaconref15_number.f a0).bind fun t136 => (if t136 = true then (beaconref15_Check.l0 k a0 l1 0) else (some 20))) = some r:=h
 clear h
 replace H:=Option.bind_eq_some_iff.mp H
 obtain ⟨t136,A30,H⟩:=H
 replace H:(if t136 = true then (beaconref15_Check.l0 k a0 l1 0) else (some 20)) = some r:=H
 have A3:=Aside0.mk A30
 clear A30
 by_cases c4:t136 = true
 rotate_left
 ·replace c4:=Bool.eq_false_iff.mpr c4
  subst c4
  have H1:(some 20) = some r:=by rw [if_neg (show ¬ (false = true) by decide)] at H;exact H
  clear H
  have H:=H1
  clear H1
  obtain rfl:=Option.some.inj H
  go_enter Try.func18,Try.ntmps18
  go_wp2_with (first | ((with_reducible refine gate_callee (f:=52) rfl ?_);refine goesL_ (some 8) rfl rfl Try.func52 (by kernel_rfl) rfl #[.int .i64 a0] rfl (by (try simp only [List.map_toArray,List.map_cons,List.map_nil]);first | done | rfl | (simp only [List.length_drop,List.length_take];rfl)) ?_;(with_reducible refine (beaconref15_number.calls a0 false _ A3.out).mono ?_);rintro e w' ⟨rfl,⟨nd,rfl⟩⟩;refine ⟨_,rfl,?_⟩))
  go_ret
  exact ⟨by first | rfl | (simp [errW_none,errW_some] <;> rfl) | (simp [*,errW_none,errW_some] <;> rfl),by repeat (first | (with_reducible first | exact HB.out | apply below_alloc | apply pw_below_drewN | apply below_drew1) | exact HB.out)⟩
 subst c4
 have H1:(beaconref15_Check.l0 k a0 l1 0) = some r:=by rw [if_pos rfl] at H;exact H
 clear H
 have H:=H1
 clear H1
 have H':=Aside0.mk H
 clear H
 go_enter Try.func18,Try.ntmps18
 go_wp2_with (first | ((with_reducible refine gate_callee (f:=52) rfl ?_);refine goesL_ (some 8) rfl rfl Try.func52 (by kernel_rfl) rfl #[.int .i64 a0] rfl (by (try simp only [List.map_toArray,List.map_cons,List.map_nil]);first | done | rfl | (simp only [List.length_drop,List.length_take];rfl)) ?_;(with_reducible refine (beaconref15_number.calls a0 true _ A3.out).mono ?_);rintro e w' ⟨rfl,⟨nd,rfl⟩⟩;refine ⟨_,rfl,?_⟩))
 go_loopg [5] k (fun kq v5 w' => ∃ (x5_1:Int),v5 = .int .i64 x5_1 ∧ Aside0 (beaconref15_Check.l0 kq a0 l1 x5_1 = some r) ∧ Aside0 (kq ≤ k) ∧ Aside0 (Below w.heap.size w w'))
 case atStart => exact ⟨(0),(by first | rfl | (simp;done) | (simp [*];done)),H',⟨Nat.le_refl _⟩,⟨by repeat (first | (with_reducible first | exact HB.out | apply below_alloc | apply pw_below_drewN | apply below_drew1) | exact HB.out)⟩⟩
 case round =>
  clear H'
  obtain ⟨x5_1,rfl,HA,HK1,HB⟩:=hrel
  cases gk with
  | zero => exact absurd HA.out (by simp [beaconref15_Check.l0])
  | succ k1 =>
   have H:=HA.out
   clear HA
   simp only [beaconref15_Check.l0] at H
   by_cases c5:x5_1 < (l1.length:Int)
   rotate_left
   ·rw [if_neg c5] at H
    have c5b0:decide (x5_1 < (l1.length:Int)) = false:=decide_eq_false c5
    clear c5
    obtain rfl:=Option.some.inj H
    go_wp2
    go_ret
    exact ⟨by first | rfl | (simp [errW_none,errW_some] <;> rfl) | (simp [*,errW_none,errW_some] <;> rfl),by repeat (first | (with_reducible first | exact HB.out | apply below_alloc | apply pw_below_drewN | apply below_drew1) | exact HB.out)⟩
   rw [if_pos c5] at H
   have c5b0:decide (x5_1 < (l1.length:Int)) = true:=decide_eq_true c5
   clear c5
   by_cases c6:0 ≤ x5_1
   rotate_left
   ·rw [if_neg c6] at H
    exact absurd H (by simp)
   rw [if_pos c6] at H
   have c6b0:decide (0 ≤ x5_1) = true:=decide_eq_true c6
   clear c6
   have HC7:=Aside0.mk H
   clear H
   have p137:0 ≤ (x5_1:Int):=of_decide_eq_true (by first | (with_reducible assumption) | assumption)
   have q137:x5_1 < (l1.length:Int):=of_decide_eq_true (by first | (with_reducible assumption) | assumption)
   obtain ⟨ad137,A137_2,c137_2,e137,hx137_0,hx137_1,hx137_2,hl137_2,hi137_2⟩:=at_T54 HR1.out x5_1 p137 q137
   cases e137
   replace hx137_0:=(HB.out.cell (World.block_lt_of_cell? w _ hx137_0)).trans hx137_0
   replace hx137_1:=(HB.out.cell (World.block_lt_of_cell? w _ hx137_1)).trans hx137_1
   replace hx137_2:=(HB.out.cell (World.block_lt_of_cell? w _ hx137_2)).trans hx137_2
   have HR137_2:=Aside0.mk hi137_2
   have HC137_2:=Aside0.mk hl137_2
   clear hi137_2 hl137_2
   replace p137:=eq_true p137
   replace q137:=eq_true q137
   go_upto_region 7 with (first | ((with_reducible refine gate_dst (N:=6) rfl ?_);refine box_event ?hg (N:=6) ?hd (cs:=#[.int .i64 0,.float .f64 0,.slice none 0 0]) (t:=54) ?hr ?_;(case hd => rfl);(case hg => rfl);(case hr => first | (go_simp;done) | (go_simp;rfl));intro gb138 hg w8 hbox hb;have n0_:=Aside0.mk (below_step (by repeat (first | (with_reducible first | exact HB.out | apply below_alloc | apply pw_below_drewN | apply below_drew1) | exact HB.out)) hb);have n1_:=Aside0.mk (hbox);have n2_:=Aside0.mk ((by rw [hg];exact (below_size (by repeat (first | (with_reducible first | exact HB.out | apply below_alloc | apply pw_below_drewN | apply below_drew1) | exact HB.out))):w.heap.size ≤ gb138));have n3_:=Aside0.mk ((by rw [hg];exact (below_size (by repeat (first | (with_reducible first | exact HB.out | apply below_alloc | apply pw_below_drewN | apply below_drew1) | exact HB.out))):w.heap.size ≤ gb138));clear HB;have HB:=n0_;have BK138:=n1_;have GW138:=n2_;have GE138:=n3_;clear n0_ n1_ n2_ n3_;clear hb hbox hg;have hcz9_0:w8.cell? ⟨gb138,0,none⟩ = some (.int .i64 0):=(blk_cell BK138.out 0).trans rfl;have hcz9_1:w8.cell? ⟨gb138,1,none⟩ = some (.float .f64 0):=(blk_cell BK138.out 1).trans rfl;have hcz9_2:w8.cell? ⟨gb138,2,none⟩ = some (.slice none 0 0):=(blk_cell BK138.out 2).trans rfl;have hfz9_0:=blk_frozen BK138.out 0;have hfz9_1:=blk_frozen BK138.out 1;have hfz9_2:=blk_frozen BK138.out 2))
   (try simp only [Act.put,List.setIfInBounds_toArray,List.set_cons_zero,List.set_cons_succ])
   go_cut [56] (fun v56 wc => ∃ (kq:Nat) (x56_6:Bool),v56 = .bool x56_6 ∧ Aside0 (beaconref15_Check.j1 kq a0 l1 x5_1 x56_6 = some r) ∧ Aside0 (kq ≤ k1) ∧ Aside0 (wc.heap[gb138]? = some (.cells #[.int .i64 ((rd_T54 l1 x5_1).f0),.float .f64 ((rd_T54 l1 x5_1).f1),(.slice A137_2 ((rd_T54 l1 x5_1).f2).length c137_2)] 54 (0,0))) ∧ Aside0 (Below w.heap.size w wc))
   case first =>
    have H:=HC7.out
    clear HC7
    replace H:=Option.bind_eq_some_iff.mp H
    obtain ⟨t139,A100,H⟩:=H
    replace H:(if t139 = true then (if ((rd_T54 l1 x5_1).f0) = a0 then (beaconref15_Check.j1 k1 a0 l1 x5_1 true) else (if x5_1 > 0 then (if 0 ≤ (wrap64 (x5_1 - 1)) then (if (wrap64 (x5_1 - 1)) < (l1.length:Int) then (if ((rd_T54 l1 (wrap64 (x5_1 - 1))).f0) ≥ ((rd_T54 l1 x5_1).f0) then (beaconref15_Check.j1 k1 a0 l1 x5_1 true) else ((beaconref01_Weight.f ((rd_T54 l1 x5_1).f1)).bind fun t141 => (if t141 = 0 then ((beaconref14_List.f k1 ((rd_T54 l1 x5_1).f2)).bind fun t142 => (beaconref15_Check.j1 k1 a0 l1 x5_1 (!t142))) else (beaconref15_Check.j1 k1 a0 l1 x5_1 true)))) else (none)) else (none)) else ((beaconref01_Weight.f ((rd_T54 l1 x5_1).f1)).bind fun t143 => (if t143 = 0 then ((beaconref14_List.f k1 ((rd_T54 l1 x5_1).f2)).bind fun t144 => (beaconref15_Check.j1 k1 a0 l1 x5_1 (!t144))) else (beaconref15_Check.j1 k1 a0 l1 x5_1 true))))) else (beaconref15_Check.j1 k1 a0 l1 x5_1 true)) = some r:=H
    have A10:=Aside0.mk A100
    clear A100
    by_cases c11:t139 = true
    rotate_left
    ·replace c11:=Bool.eq_false_iff.mpr c11
     subst c11
     have H1:(beaconref15_Check.j1 k1 a0 l1 x5_1 true) = some r:=by rw [if_neg (show ¬ (false = true) by decide)] at H;exact H
     clear H
     have H:=H1
     clear H1
     have H':=Aside0.mk H
     clear H
     try go_wp2
     have n0_:Aside0 ((((w8.setCell ⟨gb138,0,none⟩ (.int .i64 ((rd_T54 l1 x5_1).f0))).setCell ⟨gb138,1,none⟩ (.float .f64 ((rd_T54 l1 x5_1).f1))).setCell ⟨gb138,2,none⟩ (.slice A137_2 ((rd_T54 l1 x5_1).f2).length c137_2)).heap[gb138]? = some (.cells #[.int .i64 ((rd_T54 l1 x5_1).f0),.float .f64 ((rd_T54 l1 x5_1).f1),.slice A137_2 ((rd_T54 l1 x5_1).f2).length c137_2] 54 (0,0))):=⟨by (with_reducible repeat (first | refine blk_drewN ?_ _ | refine blk_drew ?_ | refine blk_alloc ?_ _));refine blk_put (cs:=#[.int .i64 ((rd_T54 l1 x5_1).f0),.float .f64 ((rd_T54 l1 x5_1).f1),.slice none 0 0]) ?_ 2 _ rfl;(with_reducible repeat (first | refine blk_drewN ?_ _ | refine blk_drew ?_ | refine blk_alloc ?_ _));refine blk_put (cs:=#[.int .i64 ((rd_T54 l1 x5_1).f0),.float .f64 0,.slice none 0 0]) ?_ 1 _ rfl;(with_reducible repeat (first | refine blk_drewN ?_ _ | refine blk_drew ?_ | refine blk_alloc ?_ _));refine blk_put (cs:=#[.int .i64 0,.float .f64 0,.slice none 0 0]) ?_ 0 _ rfl;(with_reducible repeat (first | refine blk_drewN ?_ _ | refine blk_drew ?_ | refine blk_alloc ?_ _));exact BK138.out⟩
     have n1_:Aside0 (Below w.heap.size w (((w8.setCell ⟨gb138,0,none⟩ (.int .i64 ((rd_T54 l1 x5_1).f0))).setCell ⟨gb138,1,none⟩ (.float .f64 ((rd_T54 l1 x5_1).f1))).setCell ⟨gb138,2,none⟩ (.slice A137_2 ((rd_T54 l1 x5_1).f2).length c137_2))):=⟨by repeat (first | (with_reducible first | exact HB.out | apply below_alloc | apply pw_below_drewN | apply below_drew1 | refine below_set ?_ GE138.out) | exact HB.out)⟩
     (try clear BK138)
     (try clear HB)
     generalize (((w8.setCell ⟨gb138,0,none⟩ (.int .i64 ((rd_T54 l1 x5_1).f0))).setCell ⟨gb138,1,none⟩ (.float .f64 ((rd_T54 l1 x5_1).f1))).setCell ⟨gb138,2,none⟩ (.slice A137_2 ((rd_T54 l1 x5_1).f2).length c137_2)) = w38 at n0_ n1_ ⊢
     have BK138:=n0_
     have HB:=n1_
     clear n0_ n1_
     have n0_:=Aside0.mk (blk_drew BK138.out)
     have n1_:=Aside0.mk (below_drew1 HB.out)
     clear BK138
     clear HB
     have BK138:=n0_
     have HB:=n1_
     clear n0_ n1_
     refine start_ (n:=37) (S:=fun w' => w'.cell? ⟨gb138,0,none⟩ = some (.int .i64 ((rd_T54 l1 x5_1).f0)) ∧ w'.cell? ⟨gb138,1,none⟩ = some (.float .f64 ((rd_T54 l1 x5_1).f1)) ∧ w'.cell? ⟨gb138,2,none⟩ = some (.slice A137_2 ((rd_T54 l1 x5_1).f2).length c137_2)) (ds:=[]) #[false,false,false,false,false,false,false,false,false,false,false,false,false,false,false,false,false,false,false,false,false,false,false,false,false,false,false,false,false,false,false,false,false,false,false,false,false] (by kernel_rfl) rfl rfl ⟨(blk_cell BK138.out 0).trans rfl,(blk_cell BK138.out 1).trans rfl,(blk_cell BK138.out 2).trans rfl⟩ (fun hHeld => ?_);refine with_tabW beaconref15_Check.tab7 beaconref15_Check.bits7 (fun HT_ HW_ => ?_)
     generalize w38.drew = w39 at BK138 HB hHeld ⊢
     refine manyW_ (fuel:=35) (a':=?_) ((0,0) :: (1,2) :: []) #[true,true,false,false,false,false,false,false,false,false,false,false,false,false,false,false,false,false,false,false,false,false,false,false,false,false,false,false,false,false,false,false,false,false,false,false,false] rfl HT_ HW_ (by kernel_rfl) (fun _ _ _ _ _ h => h) (fun _ => hHeld) ?_ ?_
     rotate_left
     ·repeat (first | exact Chain.nil _ | (apply Chain.on;rfl;rfl;(focus intro w';go_simp;with_reducible rfl);(focus simp only [Act.put,List.setIfInBounds_toArray,List.set_cons_zero,List.set_cons_succ,i64_w,i32_w];rfl)) | (apply Chain.take;rfl;rfl;(focus rintro w' ⟨s0,s1,s2⟩;go_simp;with_reducible rfl);(focus simp only [Act.put,List.setIfInBounds_toArray,List.set_cons_zero,List.set_cons_succ,i64_w,i32_w];rfl)))
     refine one_ (i:=2) (N:=some 22) #[true,true,true,false,false,false,false,false,false,false,false,false,false,false,false,false,false,false,false,false,false,false,false,false,false,false,false,false,false,false,false,false,false,false,false,false,false] rfl rfl (one_of HT_.out (by kernel_rfl)) (by decide) (fun K hK => ?_)
     refine goes_ Try.func52 (by kernel_rfl) rfl #[.int .i64 ((rd_T54 l1 x5_1).f0)] (by rfl) rfl rfl (by (try simp only [List.map_toArray,List.map_cons,List.map_nil]);first | done | rfl | (simp only [List.length_drop,List.length_take];rfl)) ?_
     with_reducible refine (beaconref15_number.calls ((rd_T54 l1 x5_1).f0) false _ A10.out).mono ?_
     rintro e w' ⟨rfl,⟨nd,rfl⟩⟩
     refine ⟨_,rfl,?_⟩
     refine hK.out _ _ ⟨(blk_cell BK138.out 0).trans rfl,(blk_cell BK138.out 1).trans rfl,(blk_cell BK138.out 2).trans rfl⟩ (fun hHeld => ?_)
     clear hK K
     refine norm_ (a':=?_) ?_ ?_
     rotate_left
     ·show Act.put _ (some 22) _ = _
      simp only [Act.put,List.setIfInBounds_toArray,List.set_cons_zero,List.set_cons_succ,i64_w,i32_w]
      rfl
     refine manyT_ (fuel:=0) (a':=?_) ((3,0) :: (4,0) :: (5,1) :: (6,1) :: (7,1) :: (8,1) :: (9,0) :: (10,0) :: (11,1) :: (12,1) :: (13,1) :: (14,1) :: (15,1) :: (16,1) :: (17,1) :: (18,1) :: (19,1) :: (20,1) :: (21,1) :: (22,1) :: (23,1) :: (24,0) :: (25,0) :: (26,1) :: (27,1) :: (28,1) :: (29,1) :: (30,0) :: (31,0) :: (32,1) :: (33,1) :: (34,1) :: (35,1) :: (36,0) :: []) #[true,true,true,true,true,true,true,true,true,true,true,true,true,true,true,true,true,true,true,true,true,true,true,true,true,true,true,true,true,true,true,true,true,true,true,true,true] rfl HT_ (by kernel_rfl) (fun _ _ _ _ _ h => h) (fun h => absurd h (by decide)) ?_ ?_
     rotate_left
     ·repeat (first | exact Chain.nil _ | (apply Chain.on;rfl;rfl;(focus intro w';go_simp;with_reducible rfl);(focus simp only [Act.put,List.setIfInBounds_toArray,List.set_cons_zero,List.set_cons_succ,i64_w,i32_w];rfl)) | (apply Chain.off;rfl;rfl;(focus simp only [Act.put,List.setIfInBounds_toArray,List.set_cons_zero,List.set_cons_succ,i64_w,i32_w];rfl)))
     refine done_ (done_of HT_.out (by kernel_rfl)) ?_
     try go_wp2
     go_meet
     case rel => exact ⟨_,(true),(by first | rfl | (simp;done) | (simp [*];done)),H',⟨by have:=HK1.out;first | omega | exact Nat.le_refl _⟩,⟨by (with_reducible repeat (first | refine blk_drewN ?_ _ | refine blk_drew ?_ | refine blk_alloc ?_ _));exact BK138.out⟩,⟨by repeat (first | (with_reducible first | exact HB.out | apply below_alloc | apply pw_below_drewN | apply below_drew1 | refine below_set ?_ GE138.out) | exact HB.out)⟩⟩
    subst c11
    have H1:(if ((rd_T54 l1 x5_1).f0) = a0 then (beaconref15_Check.j1 k1 a0 l1 x5_1 true) else (if x5_1 > 0 then (if 0 ≤ (wrap64 (x5_1 - 1)) then (if (wrap64 (x5_1 - 1)) < (l1.length:Int) then (if ((rd_T54 l1 (wrap64 (x5_1 - 1))).f0) ≥ ((rd_T54 l1 x5_1).f0) then (beaconref15_Check.j1 k1 a0 l1 x5_1 true) else ((beaconref01_Weight.f ((rd_T54 l1 x5_1).f1)).bind fun t141 => (if t141 = 0 then ((beaconref14_List.f k1 ((rd_T54 l1 x5_1).f2)).bind fun t142 => (beaconref15_Check.j1 k1 a0 l1 x5_1 (!t142))) else (beaconref15_Check.j1 k1 a0 l1 x5_1 true)))) else (none)) else (none)) else ((beaconref01_Weight.f ((rd_T54 l1 x5_1).f1)).bind fun t143 => (if t143 = 0 then ((beaconref14_List.f k1 ((rd_T54 l1 x5_1).f2)).bind fun t144 => (beaconref15_Check.j1 k1 a0 l1 x5_1 (!t144))) else (beaconref15_Check.j1 k1 a0 l1 x5_1 true))))) = some r:=by rw [if_pos rfl] at H;exact H
    clear H
    have H:=H1
    clear H1
    by_cases c12:((rd_T54 l1 x5_1).f0) = a0
    ·rw [if_pos c12] at H
     have c12b0:(((rd_T54 l1 x5_1).f0) == a0) = true:=beq_iff_eq.mpr c12
     have c12b1:(((rd_T54 l1 x5_1).f0) != a0) = false:=bne_eq_false_iff_eq.mpr c12
     clear c12
     (first | rw [c12b0] | (simp only [i64_w,i32_w];rw [c12b0]) | skip)
     have H':=Aside0.mk H
     clear H
     try go_wp2
     have n0_:Aside0 ((((w8.setCell ⟨gb138,0,none⟩ (.int .i64 ((rd_T54 l1 x5_1).f0))).setCell ⟨gb138,1,none⟩ (.float .f64 ((rd_T54 l1 x5_1).f1))).setCell ⟨gb138,2,none⟩ (.slice A137_2 ((rd_T54 l1 x5_1).f2).length c137_2)).heap[gb138]? = some (.cells #[.int .i64 ((rd_T54 l1 x5_1).f0),.float .f64 ((rd_T54 l1 x5_1).f1),.slice A137_2 ((rd_T54 l1 x5_1).f2).length c137_2] 54 (0,0))):=⟨by (with_reducible repeat (first | refine blk_drewN ?_ _ | refine blk_drew ?_ | refine blk_alloc ?_ _));refine blk_put (cs:=#[.int .i64 ((rd_T54 l1 x5_1).f0),.float .f64 ((rd_T54 l1 x5_1).f1),.slice none 0 0]) ?_ 2 _ rfl;(with_reducible repeat (first | refine blk_drewN ?_ _ | refine blk_drew ?_ | refine blk_alloc ?_ _));refine blk_put (cs:=#[.int .i64 ((rd_T54 l1 x5_1).f0),.float .f64 0,.slice none 0 0]) ?_ 1 _ rfl;(with_reducible repeat (first | refine blk_drewN ?_ _ | refine blk_drew ?_ | refine blk_alloc ?_ _));refine blk_put (cs:=#[.int .i64 0,.float .f64 0,.slice none 0 0]) ?_ 0 _ rfl;(with_reducible repeat (first | refine blk_drewN ?_ _ | refine blk_drew ?_ | refine blk_alloc ?_ _));exact BK138.out⟩
     have n1_:Aside0 (Below w.heap.size w (((w8.setCell ⟨gb138,0,none⟩ (.int .i64 ((rd_T54 l1 x5_1).f0))).setCell ⟨gb138,1,none⟩ (.float .f64 ((rd_T54 l1 x5_1).f1))).setCell ⟨gb138,2,none⟩ (.slice A137_2 ((rd_T54 l1 x5_1).f2).length c137_2))):=⟨by repeat (first | (with_reducible first | exact HB.out | apply below_alloc | apply pw_below_drewN | apply below_drew1 | refine below_set ?_ GE138.out) | exact HB.out)⟩
     (try clear BK138)
     (try clear HB)
     generalize (((w8.setCell ⟨gb138,0,none⟩ (.int .i64 ((rd_T54 l1 x5_1).f0))).setCell ⟨gb138,1,none⟩ (.float .f64 ((rd_T54 l1 x5_1).f1))).setCell ⟨gb138,2,none⟩ (.slice A137_2 ((rd_T54 l1 x5_1).f2).length c137_2)) = w13 at n0_ n1_ ⊢
     have BK138:=n0_
     have HB:=n1_
     clear n0_ n1_
     have n0_:=Aside0.mk (blk_drew BK138.out)
     have n1_:=Aside0.mk (below_drew1 HB.out)
     clear BK138
     clear HB
     have BK138:=n0_
     have HB:=n1_
     clear n0_ n1_
     refine start_ (n:=37) (S:=fun w' => w'.cell? ⟨gb138,0,none⟩ = some (.int .i64 ((rd_T54 l1 x5_1).f0)) ∧ w'.cell? ⟨gb138,1,none⟩ = some (.float .f64 ((rd_T54 l1 x5_1).f1)) ∧ w'.cell? ⟨gb138,2,none⟩ = some (.slice A137_2 ((rd_T54 l1 x5_1).f2).length c137_2)) (ds:=[]) #[false,false,false,false,false,false,false,false,false,false,false,false,false,false,false,false,false,false,false,false,false,false,false,false,false,false,false,false,false,false,false,false,false,false,false,false,false] (by kernel_rfl) rfl rfl ⟨(blk_cell BK138.out 0).trans rfl,(blk_cell BK138.out 1).trans rfl,(blk_cell BK138.out 2).trans rfl⟩ (fun hHeld => ?_);refine with_tabW beaconref15_Check.tab7 beaconref15_Check.bits7 (fun HT_ HW_ => ?_)
     generalize w13.drew = w14 at BK138 HB hHeld ⊢
     refine manyW_ (fuel:=35) (a':=?_) ((0,0) :: (1,2) :: []) #[true,true,false,false,false,false,false,false,false,false,false,false,false,false,false,false,false,false,false,false,false,false,false,false,false,false,false,false,false,false,false,false,false,false,false,false,false] rfl HT_ HW_ (by kernel_rfl) (fun _ _ _ _ _ h => h) (fun _ => hHeld) ?_ ?_
     rotate_left
     ·repeat (first | exact Chain.nil _ | (apply Chain.on;rfl;rfl;(focus intro w';go_simp;with_reducible rfl);(focus simp only [Act.put,List.setIfInBounds_toArray,List.set_cons_zero,List.set_cons_succ,i64_w,i32_w];rfl)) | (apply Chain.take;rfl;rfl;(focus rintro w' ⟨s0,s1,s2⟩;go_simp;with_reducible rfl);(focus simp only [Act.put,List.setIfInBounds_toArray,List.set_cons_zero,List.set_cons_succ,i64_w,i32_w];rfl)))
     refine one_ (i:=2) (N:=some 22) #[true,true,true,false,false,false,false,false,false,false,false,false,false,false,false,false,false,false,false,false,false,false,false,false,false,false,false,false,false,false,false,false,false,false,false,false,false] rfl rfl (one_of HT_.out (by kernel_rfl)) (by decide) (fun K hK => ?_)
     refine goes_ Try.func52 (by kernel_rfl) rfl #[.int .i64 ((rd_T54 l1 x5_1).f0)] (by rfl) rfl rfl (by (try simp only [List.map_toArray,List.map_cons,List.map_nil]);first | done | rfl | (simp only [List.length_drop,List.length_take];rfl)) ?_
     with_reducible refine (beaconref15_number.calls ((rd_T54 l1 x5_1).f0) true _ A10.out).mono ?_
     rintro e w' ⟨rfl,⟨nd,rfl⟩⟩
     refine ⟨_,rfl,?_⟩
     refine hK.out _ _ ⟨(blk_cell BK138.out 0).trans rfl,(blk_cell BK138.out 1).trans rfl,(blk_cell BK138.out 2).trans rfl⟩ (fun hHeld => ?_)
     clear hK K
     refine norm_ (a':=?_) ?_ ?_
     rotate_left
     ·show Act.put _ (some 22) _ = _
      simp only [Act.put,List.setIfInBounds_toArray,List.set_cons_zero,List.set_cons_succ,i64_w,i32_w]
      rfl
     refine manyW_ (fuel:=0) (a':=?_) ((3,0) :: (4,0) :: (5,0) :: (7,0) :: (6,2) :: (8,0) :: (9,0) :: (10,0) :: (11,1) :: (12,1) :: (13,1) :: (14,1) :: (15,1) :: (16,1) :: (17,1) :: (18,1) :: (19,1) :: (20,1) :: (21,1) :: (22,1) :: (23,1) :: (24,0) :: (25,0) :: (26,1) :: (27,1) :: (28,1) :: (29,1) :: (30,0) :: (31,0) :: (32,1) :: (33,1) :: (34,1) :: (35,1) :: (36,0) :: []) #[true,true,true,true,true,true,true,true,true,true,true,true,true,true,true,true,true,true,true,true,true,true,true,true,true,true,true,true,true,true,true,true,true,true,true,true,true] rfl HT_ HW_ (by kernel_rfl) (fun _ _ _ _ _ h => h) (fun _ => hHeld) ?_ ?_
     rotate_left
     ·repeat (first | exact Chain.nil _ | (apply Chain.on;rfl;rfl;(focus intro w';go_simp;with_reducible rfl);(focus simp only [Act.put,List.setIfInBounds_toArray,List.set_cons_zero,List.set_cons_succ,i64_w,i32_w];rfl)) | (apply Chain.take;rfl;rfl;(focus rintro w' ⟨s0,s1,s2⟩;go_simp;with_reducible rfl);(focus simp only [Act.put,List.setIfInBounds_toArray,List.set_cons_zero,List.set_cons_succ,i64_w,i32_w];rfl)) | (apply Chain.off;rfl;rfl;(focus simp only [Act.put,List.setIfInBounds_toArray,List.set_cons_zero,List.set_cons_succ,i64_w,i32_w];rfl)))
     refine done_ (done_of HT_.out (by kernel_rfl)) ?_
     try go_wp2
     go_meet
     case rel => exact ⟨_,(true),(by first | rfl | (simp;done) | (simp [*];done)),H',⟨by have:=HK1.out;first | omega | exact Nat.le_refl _⟩,⟨by (with_reducible repeat (first | refine blk_drewN ?_ _ | refine blk_drew ?_ | refine blk_alloc ?_ _));exact BK138.out⟩,⟨by repeat (first | (with_reducible first | exact HB.out | apply below_alloc | apply pw_below_drewN | apply below_drew1 | refine below_set ?_ GE138.out) | exact HB.out)⟩⟩
    rw [if_neg c12] at H
    have c12b0:(((rd_T54 l1 x5_1).f0) == a0) = false:=beq_eq_false_iff_ne.mpr c12
    have c12b1:(((rd_T54 l1 x5_1).f0) != a0) = true:=bne_iff_ne.mpr c12
    (first | rw [c12b0] | (simp only [i64_w,i32_w];rw [c12b0]) | skip)
    by_cases c15:x5_1 > 0
    rotate_left
    ·rw [if_neg c15] at H
     have c15b0:decide (0 < x5_1) = false:=decide_eq_false c15
     clear c15
     replace H:=Option.bind_eq_some_iff.mp H
     obtain ⟨t143,A300,H⟩:=H
     replace H:(if t143 = 0 then ((beaconref14_List.f k1 ((rd_T54 l1 x5_1).f2)).bind fun t144 => (beaconref15_Check.j1 k1 a0 l1 x5_1 (!t144))) else (beaconref15_Check.j1 k1 a0 l1 x5_1 true)) = some r:=H
     have A30:=Aside0.mk A300
     clear A300
     by_cases c31:t143 = 0
     rotate_left
     ·rw [if_neg c31] at H
      have c31b0:(t143 == 0) = false:=beq_eq_false_iff_ne.mpr c31
      have c31b1:(t143 != 0) = true:=bne_iff_ne.mpr c31
      have H':=Aside0.mk H
      clear H
      try go_wp2
      have n0_:Aside0 ((((w8.setCell ⟨gb138,0,none⟩ (.int .i64 ((rd_T54 l1 x5_1).f0))).setCell ⟨gb138,1,none⟩ (.float .f64 ((rd_T54 l1 x5_1).f1))).setCell ⟨gb138,2,none⟩ (.slice A137_2 ((rd_T54 l1 x5_1).f2).length c137_2)).heap[gb138]? = some (.cells #[.int .i64 ((rd_T54 l1 x5_1).f0),.float .f64 ((rd_T54 l1 x5_1).f1),.slice A137_2 ((rd_T54 l1 x5_1).f2).length c137_2] 54 (0,0))):=⟨by (with_reducible repeat (first | refine blk_drewN ?_ _ | refine blk_drew ?_ | refine blk_alloc ?_ _));refine blk_put (cs:=#[.int .i64 ((rd_T54 l1 x5_1).f0),.float .f64 ((rd_T54 l1 x5_1).f1),.slice none 0 0]) ?_ 2 _ rfl;(with_reducible repeat (first | refine blk_drewN ?_ _ | refine blk_drew ?_ | refine blk_alloc ?_ _));refine blk_put (cs:=#[.int .i64 ((rd_T54 l1 x5_1).f0),.float .f64 0,.slice none 0 0]) ?_ 1 _ rfl;(with_reducible repeat (first | refine blk_drewN ?_ _ | refine blk_drew ?_ | refine blk_alloc ?_ _));refine blk_put (cs:=#[.int .i64 0,.float .f64 0,.slice none 0 0]) ?_ 0 _ rfl;(with_reducible repeat (first | refine blk_drewN ?_ _ | refine blk_drew ?_ | refine blk_alloc ?_ _));exact BK138.out⟩
      have n1_:Aside0 (Below w.heap.size w (((w8.setCell ⟨gb138,0,none⟩ (.int .i64 ((rd_T54 l1 x5_1).f0))).setCell ⟨gb138,1,none⟩ (.float .f64 ((rd_T54 l1 x5_1).f1))).setCell ⟨gb138,2,none⟩ (.slice A137_2 ((rd_T54 l1 x5_1).f2).length c137_2))):=⟨by repeat (first | (with_reducible first | exact HB.out | apply below_alloc | apply pw_below_drewN | apply below_drew1 | refine below_set ?_ GE138.out) | exact HB.out)⟩
      (try clear BK138)
      (try clear HB)
      generalize (((w8.setCell ⟨gb138,0,none⟩ (.int .i64 ((rd_T54 l1 x5_1).f0))).setCell ⟨gb138,1,none⟩ (.float .f64 ((rd_T54 l1 x5_1).f1))).setCell ⟨gb138,2,none⟩ (.slice A137_2 ((rd_T54 l1 x5_1).f2).length c137_2)) = w36 at n0_ n1_ ⊢
      have BK138:=n0_
      have HB:=n1_
      clear n0_ n1_
      have n0_:=Aside0.mk (blk_drew BK138.out)
      have n1_:=Aside0.mk (below_drew1 HB.out)
      clear BK138
      clear HB
      have BK138:=n0_
      have HB:=n1_
      clear n0_ n1_
      refine start_ (n:=37) (S:=fun w' => w'.cell? ⟨gb138,0,none⟩ = some (.int .i64 ((rd_T54 l1 x5_1).f0)) ∧ w'.cell? ⟨gb138,1,none⟩ = some (.float .f64 ((rd_T54 l1 x5_1).f1)) ∧ w'.cell? ⟨gb138,2,none⟩ = some (.slice A137_2 ((rd_T54 l1 x5_1).f2).length c137_2)) (ds:=[]) #[false,false,false,false,false,false,false,false,false,false,false,false,false,false,false,false,false,false,false,false,false,false,false,false,false,false,false,false,false,false,false,false,false,false,false,false,false] (by kernel_rfl) rfl rfl ⟨(blk_cell BK138.out 0).trans rfl,(blk_cell BK138.out 1).trans rfl,(blk_cell BK138.out 2).trans rfl⟩ (fun hHeld => ?_);refine with_tabW beaconref15_Check.tab7 beaconref15_Check.bits7 (fun HT_ HW_ => ?_)
      generalize w36.drew = w37 at BK138 HB hHeld ⊢
      refine manyW_ (fuel:=35) (a':=?_) ((0,0) :: (1,2) :: []) #[true,true,false,false,false,false,false,false,false,false,false,false,false,false,false,false,false,false,false,false,false,false,false,false,false,false,false,false,false,false,false,false,false,false,false,false,false] rfl HT_ HW_ (by kernel_rfl) (fun _ _ _ _ _ h => h) (fun _ => hHeld) ?_ ?_
      rotate_left
      ·repeat (first | exact Chain.nil _ | (apply Chain.on;rfl;rfl;(focus intro w';go_simp;with_reducible rfl);(focus simp only [Act.put,List.setIfInBounds_toArray,List.set_cons_zero,List.set_cons_succ,i64_w,i32_w];rfl)) | (apply Chain.take;rfl;rfl;(focus rintro w' ⟨s0,s1,s2⟩;go_simp;with_reducible rfl);(focus simp only [Act.put,List.setIfInBounds_toArray,List.set_cons_zero,List.set_cons_succ,i64_w,i32_w];rfl)))
      refine one_ (i:=2) (N:=some 22) #[true,true,true,false,false,false,false,false,false,false,false,false,false,false,false,false,false,false,false,false,false,false,false,false,false,false,false,false,false,false,false,false,false,false,false,false,false] rfl rfl (one_of HT_.out (by kernel_rfl)) (by decide) (fun K hK => ?_)
      refine goes_ Try.func52 (by kernel_rfl) rfl #[.int .i64 ((rd_T54 l1 x5_1).f0)] (by rfl) rfl rfl (by (try simp only [List.map_toArray,List.map_cons,List.map_nil]);first | done | rfl | (simp only [List.length_drop,List.length_take];rfl)) ?_
      with_reducible refine (beaconref15_number.calls ((rd_T54 l1 x5_1).f0) true _ A10.out).mono ?_
      rintro e w' ⟨rfl,⟨nd,rfl⟩⟩
      refine ⟨_,rfl,?_⟩
      refine hK.out _ _ ⟨(blk_cell BK138.out 0).trans rfl,(blk_cell BK138.out 1).trans rfl,(blk_cell BK138.out 2).trans rfl⟩ (fun hHeld => ?_)
      clear hK K
      refine norm_ (a':=?_) ?_ ?_
      rotate_left
      ·show Act.put _ (some 22) _ = _
       simp only [Act.put,List.setIfInBounds_toArray,List.set_cons_zero,List.set_cons_succ,i64_w,i32_w]
       rfl
      refine manyW_ (fuel:=9) (a':=?_) ((3,0) :: (4,0) :: (5,0) :: (7,0) :: (6,2) :: (8,0) :: (9,0) :: (10,0) :: (11,0) :: (12,0) :: (13,0) :: (14,1) :: (15,1) :: (16,1) :: (17,1) :: (18,1) :: (19,1) :: (20,1) :: (21,1) :: (22,1) :: (23,0) :: (24,0) :: (25,0) :: (26,0) :: (27,2) :: []) #[true,true,true,true,true,true,true,true,true,true,true,true,true,true,true,true,true,true,true,true,true,true,true,true,true,true,true,true,false,false,false,false,false,false,false,false,false] rfl HT_ HW_ (by kernel_rfl) (fun _ _ _ _ _ h => h) (fun _ => hHeld) ?_ ?_
      rotate_left
      ·repeat (first | exact Chain.nil _ | (apply Chain.on;rfl;rfl;(focus intro w';go_simp;with_reducible rfl);(focus simp only [Act.put,List.setIfInBounds_toArray,List.set_cons_zero,List.set_cons_succ,i64_w,i32_w];rfl)) | (apply Chain.take;rfl;rfl;(focus rintro w' ⟨s0,s1,s2⟩;go_simp;with_reducible rfl);(focus simp only [Act.put,List.setIfInBounds_toArray,List.set_cons_zero,List.set_cons_succ,i64_w,i32_w];rfl)) | (apply Chain.off;rfl;rfl;(focus simp only [Act.put,List.setIfInBounds_toArray,List.set_cons_zero,List.set_cons_succ,i64_w,i32_w];rfl)))
      refine one_ (i:=28) (N:=some 48) #[true,true,true,true,true,true,true,true,true,true,true,true,true,true,true,true,true,true,true,true,true,true,true,true,true,true,true,true,true,false,false,false,false,false,false,false,false] rfl rfl (one_of HT_.out (by kernel_rfl)) (by decide) (fun K hK => ?_)
      refine goes_ Try.func53 (by kernel_rfl) rfl #[.float .f64 ((rd_T54 l1 x5_1).f1)] (by rfl) rfl rfl (by (try simp only [List.map_toArray,List.map_cons,List.map_nil]);first | done | rfl | (simp only [List.length_drop,List.length_take];rfl)) ?_
      with_reducible refine (beaconref01_Weight.calls ((rd_T54 l1 x5_1).f1) t143 _ A30.out).mono ?_
      rintro e w' ⟨rfl,⟨nd,rfl⟩⟩
      refine ⟨_,rfl,?_⟩
      refine hK.out _ _ ⟨(blk_cell BK138.out 0).trans rfl,(blk_cell BK138.out 1).trans rfl,(blk_cell BK138.out 2).trans rfl⟩ (fun hHeld => ?_)
      clear hK K
      refine norm_ (a':=?_) ?_ ?_
      rotate_left
      ·show Act.put _ (some 48) _ = _
       simp only [Act.put,List.setIfInBounds_toArray,List.set_cons_zero,List.set_cons_succ,i64_w,i32_w]
       rfl
      refine manyT_ (fuel:=0) (a':=?_) ((29,0) :: (30,0) :: (31,0) :: (32,1) :: (33,1) :: (34,1) :: (35,1) :: (36,0) :: []) #[true,true,true,true,true,true,true,true,true,true,true,true,true,true,true,true,true,true,true,true,true,true,true,true,true,true,true,true,true,true,true,true,true,true,true,true,true] rfl HT_ (by kernel_rfl) (fun _ _ _ _ _ h => h) (fun h => absurd h (by decide)) ?_ ?_
      rotate_left
      ·repeat (first | exact Chain.nil _ | (apply Chain.on;rfl;rfl;(focus intro w';go_simp;with_reducible rfl);(focus simp only [Act.put,List.setIfInBounds_toArray,List.set_cons_zero,List.set_cons_succ,i64_w,i32_w];rfl)) | (apply Chain.off;rfl;rfl;(focus simp only [Act.put,List.setIfInBounds_toArray,List.set_cons_zero,List.set_cons_succ,i64_w,i32_w];rfl)))
      refine done_ (done_of HT_.out (by kernel_rfl)) ?_
      try go_wp2
      go_meet
      case rel => exact ⟨_,(true),(by first | rfl | (simp;done) | (simp [*];done)),H',⟨by have:=HK1.out;first | omega | exact Nat.le_refl _⟩,⟨by (with_reducible repeat (first | refine blk_drewN ?_ _ | refine blk_drew ?_ | refine blk_alloc ?_ _));exact BK138.out⟩,⟨by repeat (first | (with_reducible first | exact HB.out | apply below_alloc | apply pw_below_drewN | apply below_drew1 | refine below_set ?_ GE138.out) | exact HB.out)⟩⟩
     rw [if_pos c31] at H
     have c31b0:(t143 == 0) = true:=beq_iff_eq.mpr c31
     have c31b1:(t143 != 0) = false:=bne_eq_false_iff_eq.mpr c31
     clear c31
     replace H:=Option.bind_eq_some_iff.mp H
     obtain ⟨t144,A320,H⟩:=H
     replace H:(beaconref15_Check.j1 k1 a0 l1 x5_1 (!t144)) = some r:=H
     have A32:=Aside0.mk A320
     clear A320
     have H':=Aside0.mk H
     clear H
     try go_wp2
     have n0_:Aside0 ((((w8.setCell ⟨gb138,0,none⟩ (.int .i64 ((rd_T54 l1 x5_1).f0))).setCell ⟨gb138,1,none⟩ (.float .f64 ((rd_T54 l1 x5_1).f1))).setCell ⟨gb138,2,none⟩ (.slice A137_2 ((rd_T54 l1 x5_1).f2).length c137_2)).heap[gb138]? = some (.cells #[.int .i64 ((rd_T54 l1 x5_1).f0),.float .f64 ((rd_T54 l1 x5_1).f1),.slice A137_2 ((rd_T54 l1 x5_1).f2).length c137_2] 54 (0,0))):=⟨by (with_reducible repeat (first | refine blk_drewN ?_ _ | refine blk_drew ?_ | refine blk_alloc ?_ _));refine blk_put (cs:=#[.int .i64 ((rd_T54 l1 x5_1).f0),.float .f64 ((rd_T54 l1 x5_1).f1),.slice none 0 0]) ?_ 2 _ rfl;(with_reducible repeat (first | refine blk_drewN ?_ _ | refine blk_drew ?_ | refine blk_alloc ?_ _));refine blk_put (cs:=#[.int .i64 ((rd_T54 l1 x5_1).f0),.float .f64 0,.slice none 0 0]) ?_ 1 _ rfl;(with_reducible repeat (first | refine blk_drewN ?_ _ | refine blk_drew ?_ | refine blk_alloc ?_ _));refine blk_put (cs:=#[.int .i64 0,.float .f64 0,.slice none 0 0]) ?_ 0 _ rfl;(with_reducible repeat (first | refine blk_drewN ?_ _ | refine blk_drew ?_ | refine blk_alloc ?_ _));exact BK138.out⟩
     have n1_:Aside0 (Below w.heap.size w (((w8.setCell ⟨gb138,0,none⟩ (.int .i64 ((rd_T54 l1 x5_1).f0))).setCell ⟨gb138,1,none⟩ (.float .f64 ((rd_T54 l1 x5_1).f1))).setCell ⟨gb138,2,none⟩ (.slice A137_2 ((rd_T54 l1 x5_1).f2).length c137_2))):=⟨by repeat (first | (with_reducible first | exact HB.out | apply below_alloc | apply pw_below_drewN | apply below_drew1 | refine below_set ?_ GE138.out) | exact HB.out)⟩
     (try clear BK138)
     (try clear HB)
     generalize (((w8.setCell ⟨gb138,0,none⟩ (.int .i64 ((rd_T54 l1 x5_1).f0))).setCell ⟨gb138,1,none⟩ (.float .f64 ((rd_T54 l1 x5_1).f1))).setCell ⟨gb138,2,none⟩ (.slice A137_2 ((rd_T54 l1 x5_1).f2).length c137_2)) = w33 at n0_ n1_ ⊢
     have BK138:=n0_
     have HB:=n1_
     clear n0_ n1_
     have n0_:=Aside0.mk (blk_drew BK138.out)
     have n1_:=Aside0.mk (below_drew1 HB.out)
     clear BK138
     clear HB
     have BK138:=n0_
     have HB:=n1_
     clear n0_ n1_
     refine start_ (n:=37) (S:=fun w' => w'.cell? ⟨gb138,0,none⟩ = some (.int .i64 ((rd_T54 l1 x5_1).f0)) ∧ w'.cell? ⟨gb138,1,none⟩ = some (.float .f64 ((rd_T54 l1 x5_1).f1)) ∧ w'.cell? ⟨gb138,2,none⟩ = some (.slice A137_2 ((rd_T54 l1 x5_1).f2).length c137_2)) (ds:=[]) #[false,false,false,false,false,false,false,false,false,false,false,false,false,false,false,false,false,false,false,false,false,false,false,false,false,false,false,false,false,false,false,false,false,false,false,false,false] (by kernel_rfl) rfl rfl ⟨(blk_cell BK138.out 0).trans rfl,(blk_cell BK138.out 1).trans rfl,(blk_cell BK138.out 2).trans rfl⟩ (fun hHeld => ?_);refine with_tabW beaconref15_Check.tab7 beaconref15_Check.bits7 (fun HT_ HW_ => ?_)
     generalize w33.drew = w34 at BK138 HB hHeld ⊢
     refine manyW_ (fuel:=35) (a':=?_) ((0,0) :: (1,2) :: []) #[true,true,false,false,false,false,false,false,false,false,false,false,false,false,false,false,false,false,false,false,false,false,false,false,false,false,false,false,false,false,false,false,false,false,false,false,false] rfl HT_ HW_ (by kernel_rfl) (fun _ _ _ _ _ h => h) (fun _ => hHeld) ?_ ?_
     rotate_left
     ·repeat (first | exact Chain.nil _ | (apply Chain.on;rfl;rfl;(focus intro w';go_simp;with_reducible rfl);(focus simp only [Act.put,List.setIfInBounds_toArray,List.set_cons_zero,List.set_cons_succ,i64_w,i32_w];rfl)) | (apply Chain.take;rfl;rfl;(focus rintro w' ⟨s0,s1,s2⟩;go_simp;with_reducible rfl);(focus simp only [Act.put,List.setIfInBounds_toArray,List.set_cons_zero,List.set_cons_succ,i64_w,i32_w];rfl)))
     refine one_ (i:=2) (N:=some 22) #[true,true,true,false,false,false,false,false,false,false,false,false,false,false,false,false,false,false,false,false,false,false,false,false,false,false,false,false,false,false,false,false,false,false,false,false,false] rfl rfl (one_of HT_.out (by kernel_rfl)) (by decide) (fun K hK => ?_)
     refine goes_ Try.func52 (by kernel_rfl) rfl #[.int .i64 ((rd_T54 l1 x5_1).f0)] (by rfl) rfl rfl (by (try simp only [List.map_toArray,List.map_cons,List.map_nil]);first | done | rfl | (simp only [List.length_drop,List.length_take];rfl)) ?_
     with_reducible refine (beaconref15_number.calls ((rd_T54 l1 x5_1).f0) true _ A10.out).mono ?_
     rintro e w' ⟨rfl,⟨nd,rfl⟩⟩
     refine ⟨_,rfl,?_⟩
     refine hK.out _ _ ⟨(blk_cell BK138.out 0).trans rfl,(blk_cell BK138.out 1).trans rfl,(blk_cell BK138.out 2).trans rfl⟩ (fun hHeld => ?_)
     clear hK K
     refine norm_ (a':=?_) ?_ ?_
     rotate_left
     ·show Act.put _ (some 22) _ = _
      simp only [Act.put,List.setIfInBounds_toArray,List.set_cons_zero,List.set_cons_succ,i64_w,i32_w]
      rfl
     refine manyW_ (fuel:=9) (a':=?_) ((3,0) :: (4,0) :: (5,0) :: (7,0) :: (6,2) :: (8,0) :: (9,0) :: (10,0) :: (11,0) :: (12,0) :: (13,0) :: (14,1) :: (15,1) :: (16,1) :: (17,1) :: (18,1) :: (19,1) :: (20,1) :: (21,1) :: (22,1) :: (23,0) :: (24,0) :: (25,0) :: (26,0) :: (27,2) :: []) #[true,true,true,true,true,true,true,true,true,true,true,true,true,true,true,true,true,true,true,true,true,true,true,true,true,true,true,true,false,false,false,false,false,false,false,false,false] rfl HT_ HW_ (by kernel_rfl) (fun _ _ _ _ _ h => h) (fun _ => hHeld) ?_ ?_
     rotate_left
     ·repeat (first | exact Chain.nil _ | (apply Chain.on;rfl;rfl;(focus intro w';go_simp;with_reducible rfl);(focus simp only [Act.put,List.setIfInBounds_toArray,List.set_cons_zero,List.set_cons_succ,i64_w,i32_w];rfl)) | (apply Chain.take;rfl;rfl;(focus rintro w' ⟨s0,s1,s2⟩;go_simp;with_reducible rfl);(focus simp only [Act.put,List.setIfInBounds_toArray,List.set_cons_zero,List.set_cons_succ,i64_w,i32_w];rfl)) | (apply Chain.off;rfl;rfl;(focus simp only [Act.put,List.setIfInBounds_toArray,List.set_cons_zero,List.set_cons_succ,i64_w,i32_w];rfl)))
     refine one_ (i:=28) (N:=some 48) #[true,true,true,true,true,true,true,true,true,true,true,true,true,true,true,true,true,true,true,true,true,true,true,true,true,true,true,true,true,false,false,false,false,false,false,false,false] rfl rfl (one_of HT_.out (by kernel_rfl)) (by decide) (fun K hK => ?_)
     refine goes_ Try.func53 (by kernel_rfl) rfl #[.float .f64 ((rd_T54 l1 x5_1).f1)] (by rfl) rfl rfl (by (try simp only [List.map_toArray,List.map_cons,List.map_nil]);first | done | rfl | (simp only [List.length_drop,List.length_take];rfl)) ?_
     with_reducible refine (beaconref01_Weight.calls ((rd_T54 l1 x5_1).f1) t143 _ A30.out).mono ?_
     rintro e w' ⟨rfl,⟨nd,rfl⟩⟩
     refine ⟨_,rfl,?_⟩
     refine hK.out _ _ ⟨(blk_cell BK138.out 0).trans rfl,(blk_cell BK138.out 1).trans rfl,(blk_cell BK138.out 2).trans rfl⟩ (fun hHeld => ?_)
     clear hK K
     refine norm_ (a':=?_) ?_ ?_
     rotate_left
     ·show Act.put _ (some 48) _ = _
      simp only [Act.put,List.setIfInBounds_toArray,List.set_cons_zero,List.set_cons_succ,i64_w,i32_w]
      rfl
     refine manyW_ (fuel:=3) (a':=?_) ((29,0) :: (30,0) :: (31,0) :: (32,0) :: (33,2) :: []) #[true,true,true,true,true,true,true,true,true,true,true,true,true,true,true,true,true,true,true,true,true,true,true,true,true,true,true,true,true,true,true,true,true,true,false,false,false] rfl HT_ HW_ (by kernel_rfl) (fun _ _ _ _ _ h => h) (fun _ => hHeld) ?_ ?_
     rotate_left
     ·repeat (first | exact Chain.nil _ | (apply Chain.on;rfl;rfl;(focus intro w';go_simp;with_reducible rfl);(focus simp only [Act.put,List.setIfInBounds_toArray,List.set_cons_zero,List.set_cons_succ,i64_w,i32_w];rfl)) | (apply Chain.take;rfl;rfl;(focus rintro w' ⟨s0,s1,s2⟩;go_simp;with_reducible rfl);(focus simp only [Act.put,List.setIfInBounds_toArray,List.set_cons_zero,List.set_cons_succ,i64_w,i32_w];rfl)))
     refine one_ (i:=34) (N:=some 54) #[true,true,true,true,true,true,true,true,true,true,true,true,true,true,true,true,true,true,true,true,true,true,true,true,true,true,true,true,true,true,true,true,true,true,true,false,false] rfl rfl (one_of HT_.out (by kernel_rfl)) (by decide) (fun K hK => ?_)
     refine goes_ Try.func25 (by kernel_rfl) rfl #[.slice A137_2 ((rd_T54 l1 x5_1).f2).length c137_2] (by rfl) rfl rfl (by (try simp only [List.map_toArray,List.map_cons,List.map_nil]);first | done | rfl | (simp only [List.length_drop,List.length_take];rfl)) ?_
     with_reducible refine (beaconref14_List.calls k1 _ _ ((rd_T54 l1 x5_1).f2) t144 _ ?side1 ?side2 A32.out).mono ?_
     (case side1 => repeat (first | exact (Kd.C_below HR137_2.out (by repeat (first | (with_reducible first | exact HB.out | apply below_alloc | apply pw_below_drewN | apply below_drew1 | refine below_set ?_ GE138.out) | exact HB.out))) | (with_reducible refine Kd.C_alloc ?_ _) | (with_reducible refine Kd.C_drewN ?_ _) | (with_reducible refine Kd.C_drew ?_)))
     (case side2 => exact HC137_2.out)
     rintro e w35 ⟨rfl,hb⟩
     refine ⟨_,rfl,?_⟩
     have n0_:=Aside0.mk (blk_below (g:=gb138) (o:=.cells #[.int .i64 ((rd_T54 l1 x5_1).f0),.float .f64 ((rd_T54 l1 x5_1).f1),.slice A137_2 ((rd_T54 l1 x5_1).f2).length c137_2] 54 (0,0)) (by (with_reducible repeat (first | refine blk_drewN ?_ _ | refine blk_drew ?_ | refine blk_alloc ?_ _));exact BK138.out) hb)
     have n1_:=Aside0.mk (below_step (by repeat (first | (with_reducible first | exact HB.out | apply below_alloc | apply pw_below_drewN | apply below_drew1 | refine below_set ?_ GE138.out) | exact HB.out)) hb)
     clear BK138
     clear HB
     have BK138:=n0_
     have HB:=n1_
     clear n0_ n1_
     (try clear hb)
     (try clear hb2)
     (try clear hk)
     (try clear hi)
     refine hK.out _ _ ⟨(blk_cell BK138.out 0).trans rfl,(blk_cell BK138.out 1).trans rfl,(blk_cell BK138.out 2).trans rfl⟩ (fun hHeld => ?_)
     clear hK K
     refine norm_ (a':=?_) ?_ ?_
     rotate_left
     ·show Act.put _ (some 54) _ = _
      simp only [Act.put,List.setIfInBounds_toArray,List.set_cons_zero,List.set_cons_succ,i64_w,i32_w]
      rfl
     refine manyT_ (fuel:=0) (a':=?_) ((35,0) :: (36,0) :: []) #[true,true,true,true,true,true,true,true,true,true,true,true,true,true,true,true,true,true,true,true,true,true,true,true,true,true,true,true,true,true,true,true,true,true,true,true,true] rfl HT_ (by kernel_rfl) (fun _ _ _ _ _ h => h) (fun h => absurd h (by decide)) ?_ ?_
     rotate_left
     ·repeat (first | exact Chain.nil _ | (apply Chain.on;rfl;rfl;(focus intro w';go_simp;with_reducible rfl);(focus simp only [Act.put,List.setIfInBounds_toArray,List.set_cons_zero,List.set_cons_succ,i64_w,i32_w];rfl)))
     refine done_ (done_of HT_.out (by kernel_rfl)) ?_
     try go_wp2
     go_meet
     case rel => exact ⟨_,(!t144),(by first | rfl | (simp;done) | (simp [*];done)),H',⟨by have:=HK1.out;first | omega | exact Nat.le_refl _⟩,⟨by (with_reducible repeat (first | refine blk_drewN ?_ _ | refine blk_drew ?_ | refine blk_alloc ?_ _));exact BK138.out⟩,⟨by repeat (first | (with_reducible first | exact HB.out | apply below_alloc | apply pw_below_drewN | apply below_drew1 | refine below_set ?_ GE138.out) | exact HB.out)⟩⟩
    rw [if_pos c15] at H
    have c15b0:decide (0 < x5_1) = true:=decide_eq_true c15
    clear c15
    obtain ⟨ji16,hji16⟩:∃ j_:Int,(wrap64 (x5_1 - 1)) = j_:=⟨_,rfl⟩
    replace H:(if 0 ≤ (ji16) then (if (ji16) < (l1.length:Int) then (if ((rd_T54 l1 (ji16)).f0) ≥ ((rd_T54 l1 x5_1).f0) then (beaconref15_Check.j1 k1 a0 l1 x5_1 true) else ((beaconref01_Weight.f ((rd_T54 l1 x5_1).f1)).bind fun t141 => (if t141 = 0 then ((beaconref14_List.f k1 ((rd_T54 l1 x5_1).f2)).bind fun t142 => (beaconref15_Check.j1 k1 a0 l1 x5_1 (!t142))) else (beaconref15_Check.j1 k1 a0 l1 x5_1 true)))) else (none)) else (none)) = some r:=by first | (rw [hji16] at H;exact H) | (simp only [hji16] at H ⊢;exact H)
    (try rw [hji16] at A10)
    have hji16w:(IntKind.i64.wrap (x5_1 - 1)) = ji16:=(i64_w _).trans hji16
    by_cases c17:0 ≤ (ji16)
    rotate_left
    ·rw [if_neg c17] at H
     exact absurd H (by simp)
    rw [if_pos c17] at H
    have c17b0:decide (0 ≤ (ji16)) = true:=decide_eq_true c17
    clear c17
    by_cases c18:(ji16) < (l1.length:Int)
    rotate_left
    ·rw [if_neg c18] at H
     exact absurd H (by simp)
    rw [if_pos c18] at H
    have c18b0:decide ((ji16) < (l1.length:Int)) = true:=decide_eq_true c18
    clear c18
    by_cases c19:((rd_T54 l1 (ji16)).f0) ≥ ((rd_T54 l1 x5_1).f0)
    ·rw [if_pos c19] at H
     have c19b0:decide (((rd_T54 l1 x5_1).f0) ≤ ((rd_T54 l1 (ji16)).f0)) = true:=decide_eq_true c19
     clear c19
     have H':=Aside0.mk H
     clear H
     try go_wp2
     have n0_:Aside0 ((((w8.setCell ⟨gb138,0,none⟩ (.int .i64 ((rd_T54 l1 x5_1).f0))).setCell ⟨gb138,1,none⟩ (.float .f64 ((rd_T54 l1 x5_1).f1))).setCell ⟨gb138,2,none⟩ (.slice A137_2 ((rd_T54 l1 x5_1).f2).length c137_2)).heap[gb138]? = some (.cells #[.int .i64 ((rd_T54 l1 x5_1).f0),.float .f64 ((rd_T54 l1 x5_1).f1),.slice A137_2 ((rd_T54 l1 x5_1).f2).length c137_2] 54 (0,0))):=⟨by (with_reducible repeat (first | refine blk_drewN ?_ _ | refine blk_drew ?_ | refine blk_alloc ?_ _));refine blk_put (cs:=#[.int .i64 ((rd_T54 l1 x5_1).f0),.float .f64 ((rd_T54 l1 x5_1).f1),.slice none 0 0]) ?_ 2 _ rfl;(with_reducible repeat (first | refine blk_drewN ?_ _ | refine blk_drew ?_ | refine blk_alloc ?_ _));refine blk_put (cs:=#[.int .i64 ((rd_T54 l1 x5_1).f0),.float .f64 0,.slice none 0 0]) ?_ 1 _ rfl;(with_reducible repeat (first | refine blk_drewN ?_ _ | refine blk_drew ?_ | refine blk_alloc ?_ _));refine blk_put (cs:=#[.int .i64 0,.float .f64 0,.slice none 0 0]) ?_ 0 _ rfl;(with_reducible repeat (first | refine blk_drewN ?_ _ | refine blk_drew ?_ | refine blk_alloc ?_ _));exact BK138.out⟩
     have n1_:Aside0 (Below w.heap.size w (((w8.setCell ⟨gb138,0,none⟩ (.int .i64 ((rd_T54 l1 x5_1).f0))).setCell ⟨gb138,1,none⟩ (.float .f64 ((rd_T54 l1 x5_1).f1))).setCell ⟨gb138,2,none⟩ (.slice A137_2 ((rd_T54 l1 x5_1).f2).length c137_2))):=⟨by repeat (first | (with_reducible first | exact HB.out | apply below_alloc | apply pw_below_drewN | apply below_drew1 | refine below_set ?_ GE138.out) | exact HB.out)⟩
     (try clear BK138)
     (try clear HB)
     generalize (((w8.setCell ⟨gb138,0,none⟩ (.int .i64 ((rd_T54 l1 x5_1).f0))).setCell ⟨gb138,1,none⟩ (.float .f64 ((rd_T54 l1 x5_1).f1))).setCell ⟨gb138,2,none⟩ (.slice A137_2 ((rd_T54 l1 x5_1).f2).length c137_2)) = w20 at n0_ n1_ ⊢
     have BK138:=n0_
     have HB:=n1_
     clear n0_ n1_
     have n0_:=Aside0.mk (blk_drew BK138.out)
     have n1_:=Aside0.mk (below_drew1 HB.out)
     clear BK138
     clear HB
     have BK138:=n0_
     have HB:=n1_
     clear n0_ n1_
     have p140:0 ≤ ((ji16):Int):=of_decide_eq_true (by first | (with_reducible assumption) | assumption)
     have q140:(ji16) < (l1.length:Int):=of_decide_eq_true (by first | (with_reducible assumption) | assumption)
     obtain ⟨ad140,A140_2,c140_2,e140,hx140_0,hx140_1,hx140_2,hl140_2,hi140_2⟩:=at_T54 HR1.out (ji16) p140 q140
     have hw140_2:=hx140_2
     have hw140_1:=hx140_1
     have hw140_0:=hx140_0
     obtain rfl:ad137 = ad140:=(by injection e140)
     replace hx140_0:=(HB.out.cell (World.block_lt_of_cell? w _ hx140_0)).trans hx140_0
     replace hx140_1:=(HB.out.cell (World.block_lt_of_cell? w _ hx140_1)).trans hx140_1
     replace hx140_2:=(HB.out.cell (World.block_lt_of_cell? w _ hx140_2)).trans hx140_2
     have HR140_2:=Aside0.mk hi140_2
     have HC140_2:=Aside0.mk hl140_2
     clear hi140_2 hl140_2
     replace p140:=eq_true p140
     replace q140:=eq_true q140
     refine start_ (n:=37) (S:=fun w' => w'.cell? ⟨gb138,0,none⟩ = some (.int .i64 ((rd_T54 l1 x5_1).f0)) ∧ w'.cell? ⟨gb138,1,none⟩ = some (.float .f64 ((rd_T54 l1 x5_1).f1)) ∧ w'.cell? ⟨gb138,2,none⟩ = some (.slice A137_2 ((rd_T54 l1 x5_1).f2).length c137_2) ∧ w'.cell? (ad137.add (((ji16)).toNat * 3)) = some (.int .i64 ((rd_T54 l1 (ji16)).f0)) ∧ w'.cell? ⟨(ad137.add (((ji16)).toNat * 3)).block,(ad137.add (((ji16)).toNat * 3)).off + 1,none⟩ = some (.float .f64 ((rd_T54 l1 (ji16)).f1)) ∧ w'.cell? ⟨(ad137.add (((ji16)).toNat * 3)).block,(ad137.add (((ji16)).toNat * 3)).off + 2,none⟩ = some (.slice A140_2 ((rd_T54 l1 (ji16)).f2).length c140_2)) (ds:=[]) #[false,false,false,false,false,false,false,false,false,false,false,false,false,false,false,false,false,false,false,false,false,false,false,false,false,false,false,false,false,false,false,false,false,false,false,false,false] (by kernel_rfl) rfl rfl ⟨(blk_cell BK138.out 0).trans rfl,(blk_cell BK138.out 1).trans rfl,(blk_cell BK138.out 2).trans rfl,((HB.out.cell (World.block_lt_of_cell? w _ hw140_0)).trans hw140_0),((HB.out.cell (World.block_lt_of_cell? w _ hw140_1)).trans hw140_1),((HB.out.cell (World.block_lt_of_cell? w _ hw140_2)).trans hw140_2)⟩ (fun hHeld => ?_);refine with_tabW beaconref15_Check.tab7 beaconref15_Check.bits7 (fun HT_ HW_ => ?_)
     generalize w20.drew = w21 at BK138 HB HR140_2 hx140_0 hx140_1 hx140_2 hHeld ⊢
     refine manyW_ (fuel:=35) (a':=?_) ((0,0) :: (1,2) :: []) #[true,true,false,false,false,false,false,false,false,false,false,false,false,false,false,false,false,false,false,false,false,false,false,false,false,false,false,false,false,false,false,false,false,false,false,false,false] rfl HT_ HW_ (by kernel_rfl) (fun _ _ _ _ _ h => h) (fun _ => hHeld) ?_ ?_
     rotate_left
     ·repeat (first | exact Chain.nil _ | (apply Chain.on;rfl;rfl;(focus intro w';go_simp;with_reducible rfl);(focus simp only [Act.put,List.setIfInBounds_toArray,List.set_cons_zero,List.set_cons_succ,i64_w,i32_w];rfl)) | (apply Chain.take;rfl;rfl;(focus rintro w' ⟨s0,s1,s2,s3,s4,s5⟩;go_simp;with_reducible rfl);(focus simp only [Act.put,List.setIfInBounds_toArray,List.set_cons_zero,List.set_cons_succ,i64_w,i32_w];rfl)))
     refine one_ (i:=2) (N:=some 22) #[true,true,true,false,false,false,false,false,false,false,false,false,false,false,false,false,false,false,false,false,false,false,false,false,false,false,false,false,false,false,false,false,false,false,false,false,false] rfl rfl (one_of HT_.out (by kernel_rfl)) (by decide) (fun K hK => ?_)
     refine goes_ Try.func52 (by kernel_rfl) rfl #[.int .i64 ((rd_T54 l1 x5_1).f0)] (by rfl) rfl rfl (by (try simp only [List.map_toArray,List.map_cons,List.map_nil]);first | done | rfl | (simp only [List.length_drop,List.length_take];rfl)) ?_
     with_reducible refine (beaconref15_number.calls ((rd_T54 l1 x5_1).f0) true _ A10.out).mono ?_
     rintro e w' ⟨rfl,⟨nd,rfl⟩⟩
     refine ⟨_,rfl,?_⟩
     refine hK.out _ _ ⟨(blk_cell BK138.out 0).trans rfl,(blk_cell BK138.out 1).trans rfl,(blk_cell BK138.out 2).trans rfl,((HB.out.cell (World.block_lt_of_cell? w _ hw140_0)).trans hw140_0),((HB.out.cell (World.block_lt_of_cell? w _ hw140_1)).trans hw140_1),((HB.out.cell (World.block_lt_of_cell? w _ hw140_2)).trans hw140_2)⟩ (fun hHeld => ?_)
     clear hK K
     refine norm_ (a':=?_) ?_ ?_
     rotate_left
     ·show Act.put _ (some 22) _ = _
      simp only [Act.put,List.setIfInBounds_toArray,List.set_cons_zero,List.set_cons_succ,i64_w,i32_w]
      rfl
     refine manyW_ (fuel:=0) (a':=?_) ((3,0) :: (4,0) :: (5,0) :: (7,0) :: (6,2) :: (8,0) :: (9,0) :: (10,0) :: (11,0) :: (12,0) :: (13,0) :: (14,0) :: (15,0) :: (16,0) :: (17,0) :: (18,0) :: (20,0) :: (19,2) :: (21,2) :: (22,0) :: (23,0) :: (24,0) :: (25,0) :: (26,1) :: (27,1) :: (28,1) :: (29,1) :: (30,0) :: (31,0) :: (32,1) :: (33,1) :: (34,1) :: (35,1) :: (36,0) :: []) #[true,true,true,true,true,true,true,true,true,true,true,true,true,true,true,true,true,true,true,true,true,true,true,true,true,true,true,true,true,true,true,true,true,true,true,true,true] rfl HT_ HW_ (by kernel_rfl) (fun _ _ _ _ _ h => h) (fun _ => hHeld) ?_ ?_
     rotate_left
     ·repeat (first | exact Chain.nil _ | (apply Chain.on;rfl;rfl;(focus intro w';go_simp;with_reducible rfl);(focus simp only [Act.put,List.setIfInBounds_toArray,List.set_cons_zero,List.set_cons_succ,i64_w,i32_w];rfl)) | (apply Chain.take;rfl;rfl;(focus rintro w' ⟨s0,s1,s2,s3,s4,s5⟩;go_simp;with_reducible rfl);(focus simp only [Act.put,List.setIfInBounds_toArray,List.set_cons_zero,List.set_cons_succ,i64_w,i32_w];rfl)) | (apply Chain.off;rfl;rfl;(focus simp only [Act.put,List.setIfInBounds_toArray,List.set_cons_zero,List.set_cons_succ,i64_w,i32_w];rfl)))
     refine done_ (done_of HT_.out (by kernel_rfl)) ?_
     try go_wp2
     go_meet
     case rel => exact ⟨_,(true),(by first | rfl | (simp;done) | (simp [*];done)),H',⟨by have:=HK1.out;first | omega | exact Nat.le_refl _⟩,⟨by (with_reducible repeat (first | refine blk_drewN ?_ _ | refine blk_drew ?_ | refine blk_alloc ?_ _));exact BK138.out⟩,⟨by repeat (first | (with_reducible first | exact HB.out | apply below_alloc | apply pw_below_drewN | apply below_drew1 | refine below_set ?_ GE138.out) | exact HB.out)⟩⟩
    rw [if_neg c19] at H
    have c19b0:decide (((rd_T54 l1 x5_1).f0) ≤ ((rd_T54 l1 (ji16)).f0)) = false:=decide_eq_false c19
    clear c19
    replace H:=Option.bind_eq_some_iff.mp H
    obtain ⟨t141,A220,H⟩:=H
    replace H:(if t141 = 0 then ((beaconref14_List.f k1 ((rd_T54 l1 x5_1).f2)).bind fun t142 => (beaconref15_Check.j1 k1 a0 l1 x5_1 (!t142))) else (beaconref15_Check.j1 k1 a0 l1 x5_1 true)) = some r:=H
    have A22:=Aside0.mk A220
    clear A220
    by_cases c23:t141 = 0
    rotate_left
    ·rw [if_neg c23] at H
     have c23b0:(t141 == 0) = false:=beq_eq_false_iff_ne.mpr c23
     have c23b1:(t141 != 0) = true:=bne_iff_ne.mpr c23
     have H':=Aside0.mk H
     clear H
     try go_wp2
     have n0_:Aside0 ((((w8.setCell ⟨gb138,0,none⟩ (.int .i64 ((rd_T54 l1 x5_1).f0))).setCell ⟨gb138,1,none⟩ (.float .f64 ((rd_T54 l1 x5_1).f1))).setCell ⟨gb138,2,none⟩ (.slice A137_2 ((rd_T54 l1 x5_1).f2).length c137_2)).heap[gb138]? = some (.cells #[.int .i64 ((rd_T54 l1 x5_1).f0),.float .f64 ((rd_T54 l1 x5_1).f1),.slice A137_2 ((rd_T54 l1 x5_1).f2).length c137_2] 54 (0,0))):=⟨by (with_reducible repeat (first | refine blk_drewN ?_ _ | refine blk_drew ?_ | refine blk_alloc ?_ _));refine blk_put (cs:=#[.int .i64 ((rd_T54 l1 x5_1).f0),.float .f64 ((rd_T54 l1 x5_1).f1),.slice none 0 0]) ?_ 2 _ rfl;(with_reducible repeat (first | refine blk_drewN ?_ _ | refine blk_drew ?_ | refine blk_alloc ?_ _));refine blk_put (cs:=#[.int .i64 ((rd_T54 l1 x5_1).f0),.float .f64 0,.slice none 0 0]) ?_ 1 _ rfl;(with_reducible repeat (first | refine blk_drewN ?_ _ | refine blk_drew ?_ | refine blk_alloc ?_ _));refine blk_put (cs:=#[.int .i64 0,.float .f64 0,.slice none 0 0]) ?_ 0 _ rfl;(with_reducible repeat (first | refine blk_drewN ?_ _ | refine blk_drew ?_ | refine blk_alloc ?_ _));exact BK138.out⟩
     have n1_:Aside0 (Below w.heap.size w (((w8.setCell ⟨gb138,0,none⟩ (.int .i64 ((rd_T54 l1 x5_1).f0))).setCell ⟨gb138,1,none⟩ (.float .f64 ((rd_T54 l1 x5_1).f1))).setCell ⟨gb138,2,none⟩ (.slice A137_2 ((rd_T54 l1 x5_1).f2).length c137_2))):=⟨by repeat (first | (with_reducible first | exact HB.out | apply below_alloc | apply pw_below_drewN | apply below_drew1 | refine below_set ?_ GE138.out) | exact HB.out)⟩
     (try clear BK138)
     (try clear HB)
     generalize (((w8.setCell ⟨gb138,0,none⟩ (.int .i64 ((rd_T54 l1 x5_1).f0))).setCell ⟨gb138,1,none⟩ (.float .f64 ((rd_T54 l1 x5_1).f1))).setCell ⟨gb138,2,none⟩ (.slice A137_2 ((rd_T54 l1 x5_1).f2).length c137_2)) = w28 at n0_ n1_ ⊢
     have BK138:=n0_
     have HB:=n1_
     clear n0_ n1_
     have n0_:=Aside0.mk (blk_drew BK138.out)
     have n1_:=Aside0.mk (below_drew1 HB.out)
     clear BK138
     clear HB
     have BK138:=n0_
     have HB:=n1_
     clear n0_ n1_
     have p140:0 ≤ ((ji16):Int):=of_decide_eq_true (by first | (with_reducible assumption) | assumption)
     have q140:(ji16) < (l1.length:Int):=of_decide_eq_true (by first | (with_reducible assumption) | assumption)
     obtain ⟨ad140,A140_2,c140_2,e140,hx140_0,hx140_1,hx140_2,hl140_2,hi140_2⟩:=at_T54 HR1.out (ji16) p140 q140
     have hw140_2:=hx140_2
     have hw140_1:=hx140_1
     have hw140_0:=hx140_0
     obtain rfl:ad137 = ad140:=(by injection e140)
     replace hx140_0:=(HB.out.cell (World.block_lt_of_cell? w _ hx140_0)).trans hx140_0
     replace hx140_1:=(HB.out.cell (World.block_lt_of_cell? w _ hx140_1)).trans hx140_1
     replace hx140_2:=(HB.out.cell (World.block_lt_of_cell? w _ hx140_2)).trans hx140_2
     have HR140_2:=Aside0.mk hi140_2
     have HC140_2:=Aside0.mk hl140_2
     clear hi140_2 hl140_2
     replace p140:=eq_true p140
     replace q140:=eq_true q140
     refine start_ (n:=37) (S:=fun w' => w'.cell? ⟨gb138,0,none⟩ = some (.int .i64 ((rd_T54 l1 x5_1).f0)) ∧ w'.cell? ⟨gb138,1,none⟩ = some (.float .f64 ((rd_T54 l1 x5_1).f1)) ∧ w'.cell? ⟨gb138,2,none⟩ = some (.slice A137_2 ((rd_T54 l1 x5_1).f2).length c137_2) ∧ w'.cell? (ad137.add (((ji16)).toNat * 3)) = some (.int .i64 ((rd_T54 l1 (ji16)).f0)) ∧ w'.cell? ⟨(ad137.add (((ji16)).toNat * 3)).block,(ad137.add (((ji16)).toNat * 3)).off + 1,none⟩ = some (.float .f64 ((rd_T54 l1 (ji16)).f1)) ∧ w'.cell? ⟨(ad137.add (((ji16)).toNat * 3)).block,(ad137.add (((ji16)).toNat * 3)).off + 2,none⟩ = some (.slice A140_2 ((rd_T54 l1 (ji16)).f2).length c140_2)) (ds:=[]) #[false,false,false,false,false,false,false,false,false,false,false,false,false,false,false,false,false,false,false,false,false,false,false,false,false,false,false,false,false,false,false,false,false,false,false,false,false] (by kernel_rfl) rfl rfl ⟨(blk_cell BK138.out 0).trans rfl,(blk_cell BK138.out 1).trans rfl,(blk_cell BK138.out 2).trans rfl,((HB.out.cell (World.block_lt_of_cell? w _ hw140_0)).trans hw140_0),((HB.out.cell (World.block_lt_of_cell? w _ hw140_1)).trans hw140_1),((HB.out.cell (World.block_lt_of_cell? w _ hw140_2)).trans hw140_2)⟩ (fun hHeld => ?_);refine with_tabW beaconref15_Check.tab7 beaconref15_Check.bits7 (fun HT_ HW_ => ?_)
     generalize w28.drew = w29 at BK138 HB HR140_2 hx140_0 hx140_1 hx140_2 hHeld ⊢
     refine manyW_ (fuel:=35) (a':=?_) ((0,0) :: (1,2) :: []) #[true,true,false,false,false,false,false,false,false,false,false,false,false,false,false,false,false,false,false,false,false,false,false,false,false,false,false,false,false,false,false,false,false,false,false,false,false] rfl HT_ HW_ (by kernel_rfl) (fun _ _ _ _ _ h => h) (fun _ => hHeld) ?_ ?_
     rotate_left
     ·repeat (first | exact Chain.nil _ | (apply Chain.on;rfl;rfl;(focus intro w';go_simp;with_reducible rfl);(focus simp only [Act.put,List.setIfInBounds_toArray,List.set_cons_zero,List.set_cons_succ,i64_w,i32_w];rfl)) | (apply Chain.take;rfl;rfl;(focus rintro w' ⟨s0,s1,s2,s3,s4,s5⟩;go_simp;with_reducible rfl);(focus simp only [Act.put,List.setIfInBounds_toArray,List.set_cons_zero,List.set_cons_succ,i64_w,i32_w];rfl)))
     refine one_ (i:=2) (N:=some 22) #[true,true,true,false,false,false,false,false,false,false,false,false,false,false,false,false,false,false,false,false,false,false,false,false,false,false,false,false,false,false,false,false,false,false,false,false,false] rfl rfl (one_of HT_.out (by kernel_rfl)) (by decide) (fun K hK => ?_)
     refine goes_ Try.func52 (by kernel_rfl) rfl #[.int .i64 ((rd_T54 l1 x5_1).f0)] (by rfl) rfl rfl (by (try simp only [List.map_toArray,List.map_cons,List.map_nil]);first | done | rfl | (simp only [List.length_drop,List.length_take];rfl)) ?_
     with_reducible refine (beaconref15_number.calls ((rd_T54 l1 x5_1).f0) true _ A10.out).mono ?_
     rintro e w' ⟨rfl,⟨nd,rfl⟩⟩
     refine ⟨_,rfl,?_⟩
     refine hK.out _ _ ⟨(blk_cell BK138.out 0).trans rfl,(blk_cell BK138.out 1).trans rfl,(blk_cell BK138.out 2).trans rfl,((HB.out.cell (World.block_lt_of_cell? w _ hw140_0)).trans hw140_0),((HB.out.cell (World.block_lt_of_cell? w _ hw140_1)).trans hw140_1),((HB.out.cell (World.block_lt_of_cell? w _ hw140_2)).trans hw140_2)⟩ (fun hHeld => ?_)
     clear hK K
     refine norm_ (a':=?_) ?_ ?_
     rotate_left
     ·show Act.put _ (some 22) _ = _
      simp only [Act.put,List.setIfInBounds_toArray,List.set_cons_zero,List.set_cons_succ,i64_w,i32_w]
      rfl
     refine manyW_ (fuel:=9) (a':=?_) ((3,0) :: (4,0) :: (5,0) :: (7,0) :: (6,2) :: (8,0) :: (9,0) :: (10,0) :: (11,0) :: (12,0) :: (13,0) :: (14,0) :: (15,0) :: (16,0) :: (17,0) :: (18,0) :: (20,0) :: (19,2) :: (21,2) :: (22,0) :: (23,0) :: (24,0) :: (25,0) :: (26,0) :: (27,2) :: []) #[true,true,true,true,true,true,true,true,true,true,true,true,true,true,true,true,true,true,true,true,true,true,true,true,true,true,true,true,false,false,false,false,false,false,false,false,false] rfl HT_ HW_ (by kernel_rfl) (fun _ _ _ _ _ h => h) (fun _ => hHeld) ?_ ?_
     rotate_left
     ·repeat (first | exact Chain.nil _ | (apply Chain.on;rfl;rfl;(focus intro w';go_simp;with_reducible rfl);(focus simp only [Act.put,List.setIfInBounds_toArray,List.set_cons_zero,List.set_cons_succ,i64_w,i32_w];rfl)) | (apply Chain.take;rfl;rfl;(focus rintro w' ⟨s0,s1,s2,s3,s4,s5⟩;go_simp;with_reducible rfl);(focus simp only [Act.put,List.setIfInBounds_toArray,List.set_cons_zero,List.set_cons_succ,i64_w,i32_w];rfl)))
     refine one_ (i:=28) (N:=some 48) #[true,true,true,true,true,true,true,true,true,true,true,true,true,true,true,true,true,true,true,true,true,true,true,true,true,true,true,true,true,false,false,false,false,false,false,false,false] rfl rfl (one_of HT_.out (by kernel_rfl)) (by decide) (fun K hK => ?_)
     refine goes_ Try.func53 (by kernel_rfl) rfl #[.float .f64 ((rd_T54 l1 x5_1).f1)] (by rfl) rfl rfl (by (try simp only [List.map_toArray,List.map_cons,List.map_nil]);first | done | rfl | (simp only [List.length_drop,List.length_take];rfl)) ?_
     with_reducible refine (beaconref01_Weight.calls ((rd_T54 l1 x5_1).f1) t141 _ A22.out).mono ?_
     rintro e w' ⟨rfl,⟨nd,rfl⟩⟩
     refine ⟨_,rfl,?_⟩
     refine hK.out _ _ ⟨(blk_cell BK138.out 0).trans rfl,(blk_cell BK138.out 1).trans rfl,(blk_cell BK138.out 2).trans rfl,((HB.out.cell (World.block_lt_of_cell? w _ hw140_0)).trans hw140_0),((HB.out.cell (World.block_lt_of_cell? w _ hw140_1)).trans hw140_1),((HB.out.cell (World.block_lt_of_cell? w _ hw140_2)).trans hw140_2)⟩ (fun hHeld => ?_)
     clear hK K
     refine norm_ (a':=?_) ?_ ?_
     rotate_left
     ·show Act.put _ (some 48) _ = _
      simp only [Act.put,List.setIfInBounds_toArray,List.set_cons_zero,List.set_cons_succ,i64_w,i32_w]
      rfl
     refine manyT_ (fuel:=0) (a':=?_) ((29,0) :: (30,0) :: (31,0) :: (32,1) :: (33,1) :: (34,1) :: (35,1) :: (36,0) :: []) #[true,true,true,true,true,true,true,true,true,true,true,true,true,true,true,true,true,true,true,true,true,true,true,true,true,true,true,true,true,true,true,true,true,true,true,true,true] rfl HT_ (by kernel_rfl) (fun _ _ _ _ _ h => h) (fun h => absurd h (by decide)) ?_ ?_
     rotate_left
     ·repeat (first | exact Chain.nil _ | (apply Chain.on;rfl;rfl;(focus intro w';go_simp;with_reducible rfl);(focus simp only [Act.put,List.setIfInBounds_toArray,List.set_cons_zero,List.set_cons_succ,i64_w,i32_w];rfl)) | (apply Chain.off;rfl;rfl;(focus simp only [Act.put,List.setIfInBounds_toArray,List.set_cons_zero,List.set_cons_succ,i64_w,i32_w];rfl)))
     refine done_ (done_of HT_.out (by kernel_rfl)) ?_
     try go_wp2
     go_meet
     case rel => exact ⟨_,(true),(by first | rfl | (simp;done) | (simp [*];done)),H',⟨by have:=HK1.out;first | omega | exact Nat.le_refl _⟩,⟨by (with_reducible repeat (first | refine blk_drewN ?_ _ | refine blk_drew ?_ | refine blk_alloc ?_ _));exact BK138.out⟩,⟨by repeat (first | (with_reducible first | exact HB.out | apply below_alloc | apply pw_below_drewN | apply below_drew1 | refine below_set ?_ GE138.out) | exact HB.out)⟩⟩
    rw [if_pos c23] at H
    have c23b0:(t141 == 0) = true:=beq_iff_eq.mpr c23
    have c23b1:(t141 != 0) = false:=bne_eq_false_iff_eq.mpr c23
    clear c23
    replace H:=Option.bind_eq_some_iff.mp H
    obtain ⟨t142,A240,H⟩:=H
    replace H:(beaconref15_Check.j1 k1 a0 l1 x5_1 (!t142)) = some r:=H
    have A24:=Aside0.mk A240
    clear A240
    have H':=Aside0.mk H
    clear H
    try go_wp2
    have n0_:Aside0 ((((w8.setCell ⟨gb138,0,none⟩ (.int .i64 ((rd_T54 l1 x5_1).f0))).setCell ⟨gb138,1,none⟩ (.float .f64 ((rd_T54 l1 x5_1).f1))).setCell ⟨gb138,2,none⟩ (.slice A137_2 ((rd_T54 l1 x5_1).f2).length c137_2)).heap[gb138]? = some (.cells #[.int .i64 ((rd_T54 l1 x5_1).f0),.float .f64 ((rd_T54 l1 x5_1).f1),.slice A137_2 ((rd_T54 l1 x5_1).f2).length c137_2] 54 (0,0))):=⟨by (with_reducible repeat (first | refine blk_drewN ?_ _ | refine blk_drew ?_ | refine blk_alloc ?_ _));refine blk_put (cs:=#[.int .i64 ((rd_T54 l1 x5_1).f0),.float .f64 ((rd_T54 l1 x5_1).f1),.slice none 0 0]) ?_ 2 _ rfl;(with_reducible repeat (first | refine blk_drewN ?_ _ | refine blk_drew ?_ | refine blk_alloc ?_ _));refine blk_put (cs:=#[.int .i64 ((rd_T54 l1 x5_1).f0),.float .f64 0,.slice none 0 0]) ?_ 1 _ rfl;(with_reducible repeat (first | refine blk_drewN ?_ _ | refine blk_drew ?_ | refine blk_alloc ?_ _));refine blk_put (cs:=#[.int .i64 0,.float .f64 0,.slice none 0 0]) ?_ 0 _ rfl;(with_reducible repeat (first | refine blk_drewN ?_ _ | refine blk_drew ?_ | refine blk_alloc ?_ _));exact BK138.out⟩
    have n1_:Aside0 (Below w.heap.size w (((w8.setCell ⟨gb138,0,none⟩ (.int .i64 ((rd_T54 l1 x5_1).f0))).setCell ⟨gb138,1,none⟩ (.float .f64 ((rd_T54 l1 x5_1).f1))).setCell ⟨gb138,2,none⟩ (.slice A137_2 ((rd_T54 l1 x5_1).f2).length c137_2))):=⟨by repeat (first | (with_reducible first | exact HB.out | apply below_alloc | apply pw_below_drewN | apply below_drew1 | refine below_set ?_ GE138.out) | exact HB.out)⟩
    (try clear BK138)
    (try clear HB)
    generalize (((w8.setCell ⟨gb138,0,none⟩ (.int .i64 ((rd_T54 l1 x5_1).f0))).setCell ⟨gb138,1,none⟩ (.float .f64 ((rd_T54 l1 x5_1).f1))).setCell ⟨gb138,2,none⟩ (.slice A137_2 ((rd_T54 l1 x5_1).f2).length c137_2)) = w25 at n0_ n1_ ⊢
    have BK138:=n0_
    have HB:=n1_
    clear n0_ n1_
    have n0_:=Aside0.mk (blk_drew BK138.out)
    have n1_:=Aside0.mk (below_drew1 HB.out)
    clear BK138
    clear HB
    have BK138:=n0_
    have HB:=n1_
    clear n0_ n1_
    have p140:0 ≤ ((ji16):Int):=of_decide_eq_true (by first | (with_reducible assumption) | assumption)
    have q140:(ji16) < (l1.length:Int):=of_decide_eq_true (by first | (with_reducible assumption) | assumption)
    obtain ⟨ad140,A140_2,c140_2,e140,hx140_0,hx140_1,hx140_2,hl140_2,hi140_2⟩:=at_T54 HR1.out (ji16) p140 q140
    have hw140_2:=hx140_2
    have hw140_1:=hx140_1
    have hw140_0:=hx140_0
    obtain rfl:ad137 = ad140:=(by injection e140)
    replace hx140_0:=(HB.out.cell (World.block_lt_of_cell? w _ hx140_0)).trans hx140_0
    replace hx140_1:=(HB.out.cell (World.block_lt_of_cell? w _ hx140_1)).trans hx140_1
    replace hx140_2:=(HB.out.cell (World.block_lt_of_cell? w _ hx140_2)).trans hx140_2
    have HR140_2:=Aside0.mk hi140_2
    have HC140_2:=Aside0.mk hl140_2
    clear hi140_2 hl140_2
    replace p140:=eq_true p140
    replace q140:=eq_true q140
    refine start_ (n:=37) (S:=fun w' => w'.cell? ⟨gb138,0,none⟩ = some (.int .i64 ((rd_T54 l1 x5_1).f0)) ∧ w'.cell? ⟨gb138,1,none⟩ = some (.float .f64 ((rd_T54 l1 x5_1).f1)) ∧ w'.cell? ⟨gb138,2,none⟩ = some (.slice A137_2 ((rd_T54 l1 x5_1).f2).length c137_2) ∧ w'.cell? (ad137.add (((ji16)).toNat * 3)) = some (.int .i64 ((rd_T54 l1 (ji16)).f0)) ∧ w'.cell? ⟨(ad137.add (((ji16)).toNat * 3)).block,(ad137.add (((ji16)).toNat * 3)).off + 1,none⟩ = some (.float .f64 ((rd_T54 l1 (ji16)).f1)) ∧ w'.cell? ⟨(ad137.add (((ji16)).toNat * 3)).block,(ad137.add (((ji16)).toNat * 3)).off + 2,none⟩ = some (.slice A140_2 ((rd_T54 l1 (ji16)).f2).length c140_2)) (ds:=[]) #[false,false,false,false,false,false,false,false,false,false,false,false,false,false,false,false,false,false,false,false,false,false,false,false,false,false,false,false,false,false,false,false,false,false,false,false,false] (by kernel_rfl) rfl rfl ⟨(blk_cell BK138.out 0).trans rfl,(blk_cell BK138.out 1).trans rfl,(blk_cell BK138.out 2).trans rfl,((HB.out.cell (World.block_lt_of_cell? w _ hw140_0)).trans hw140_0),((HB.out.cell (World.block_lt_of_cell? w _ hw140_1)).trans hw140_1),((HB.out.cell (World.block_lt_of_cell? w _ hw140_2)).trans hw140_2)⟩ (fun hHeld => ?_);refine with_tabW beaconref15_Check.tab7 beaconref15_Check.bits7 (fun HT_ HW_ => ?_)
    generalize w25.drew = w26 at BK138 HB HR140_2 hx140_0 hx140_1 hx140_2 hHeld ⊢
    refine manyW_ (fuel:=35) (a':=?_) ((0,0) :: (1,2) :: []) #[true,true,false,false,false,false,false,false,false,false,false,false,false,false,false,false,false,false,false,false,false,false,false,false,false,false,false,false,false,false,false,false,false,false,false,false,false] rfl HT_ HW_ (by kernel_rfl) (fun _ _ _ _ _ h => h) (fun _ => hHeld) ?_ ?_
    rotate_left
    ·repeat (first | exact Chain.nil _ | (apply Chain.on;rfl;rfl;(focus intro w';go_simp;with_reducible rfl);(focus simp only [Act.put,List.setIfInBounds_toArray,List.set_cons_zero,List.set_cons_succ,i64_w,i32_w];rfl)) | (apply Chain.take;rfl;rfl;(focus rintro w' ⟨s0,s1,s2,s3,s4,s5⟩;go_simp;with_reducible rfl);(focus simp only [Act.put,List.setIfInBounds_toArray,List.set_cons_zero,List.set_cons_succ,i64_w,i32_w];rfl)))
    refine one_ (i:=2) (N:=some 22) #[true,true,true,false,false,false,false,false,false,false,false,false,false,false,false,false,false,false,false,false,false,false,false,false,false,false,false,false,false,false,false,false,false,false,false,false,false] rfl rfl (one_of HT_.out (by kernel_rfl)) (by decide) (fun K hK => ?_)
    refine goes_ Try.func52 (by kernel_rfl) rfl #[.int .i64 ((rd_T54 l1 x5_1).f0)] (by rfl) rfl rfl (by (try simp only [List.map_toArray,List.map_cons,List.map_nil]);first | done | rfl | (simp only [List.length_drop,List.length_take];rfl)) ?_
    with_reducible refine (beaconref15_number.calls ((rd_T54 l1 x5_1).f0) true _ A10.out).mono ?_
    rintro e w' ⟨rfl,⟨nd,rfl⟩⟩
    refine ⟨_,rfl,?_⟩
    refine hK.out _ _ ⟨(blk_cell BK138.out 0).trans rfl,(blk_cell BK138.out 1).trans rfl,(blk_cell BK138.out 2).trans rfl,((HB.out.cell (World.block_lt_of_cell? w _ hw140_0)).trans hw140_0),((HB.out.cell (World.block_lt_of_cell? w _ hw140_1)).trans hw140_1),((HB.out.cell (World.block_lt_of_cell? w _ hw140_2)).trans hw140_2)⟩ (fun hHeld => ?_)
    clear hK K
    refine norm_ (a':=?_) ?_ ?_
    rotate_left
    ·show Act.put _ (some 22) _ = _
     simp only [Act.put,List.setIfInBounds_toArray,List.set_cons_zero,List.set_cons_succ,i64_w,i32_w]
     rfl
    refine manyW_ (fuel:=9) (a':=?_) ((3,0) :: (4,0) :: (5,0) :: (7,0) :: (6,2) :: (8,0) :: (9,0) :: (10,0) :: (11,0) :: (12,0) :: (13,0) :: (14,0) :: (15,0) :: (16,0) :: (17,0) :: (18,0) :: (20,0) :: (19,2) :: (21,2) :: (22,0) :: (23,0) :: (24,0) :: (25,0) :: (26,0) :: (27,2) :: []) #[true,true,true,true,true,true,true,true,true,true,true,true,true,true,true,true,true,true,true,true,true,true,true,true,true,true,true,true,false,false,false,false,false,false,false,false,false] rfl HT_ HW_ (by kernel_rfl) (fun _ _ _ _ _ h => h) (fun _ => hHeld) ?_ ?_
    rotate_left
    ·repeat (first | exact Chain.nil _ | (apply Chain.on;rfl;rfl;(focus intro w';go_simp;with_reducible rfl);(focus simp only [Act.put,List.setIfInBounds_toArray,List.set_cons_zero,List.set_cons_succ,i64_w,i32_w];rfl)) | (apply Chain.take;rfl;rfl;(focus rintro w' ⟨s0,s1,s2,s3,s4,s5⟩;go_simp;with_reducible rfl);(focus simp only [Act.put,List.setIfInBounds_toArray,List.set_cons_zero,List.set_cons_succ,i64_w,i32_w];rfl)))
    refine one_ (i:=28) (N:=some 48) #[true,true,true,true,true,true,true,true,true,true,true,true,true,true,true,true,true,true,true,true,true,true,true,true,true,true,true,true,true,false,false,false,false,false,false,false,false] rfl rfl (one_of HT_.out (by kernel_rfl)) (by decide) (fun K hK => ?_)
    refine goes_ Try.func53 (by kernel_rfl) rfl #[.float .f64 ((rd_T54 l1 x5_1).f1)] (by rfl) rfl rfl (by (try simp only [List.map_toArray,List.map_cons,List.map_nil]);first | done | rfl | (simp only [List.length_drop,List.length_take];rfl)) ?_
    with_reducible refine (beaconref01_Weight.calls ((rd_T54 l1 x5_1).f1) t141 _ A22.out).mono ?_
    rintro e w' ⟨rfl,⟨nd,rfl⟩⟩
    refine ⟨_,rfl,?_⟩
    refine hK.out _ _ ⟨(blk_cell BK138.out 0).trans rfl,(blk_cell BK138.out 1).trans rfl,(blk_cell BK138.out 2).trans rfl,((HB.out.cell (World.block_lt_of_cell? w _ hw140_0)).trans hw140_0),((HB.out.cell (World.block_lt_of_cell? w _ hw140_1)).trans hw140_1),((HB.out.cell (World.block_lt_of_cell? w _ hw140_2)).trans hw140_2)⟩ (fun hHeld => ?_)
    clear hK K
    refine norm_ (a':=?_) ?_ ?_
    rotate_left
    ·show Act.put _ (some 48) _ = _
     simp only [Act.put,List.setIfInBounds_toArray,List.set_cons_zero,List.set_cons_succ,i64_w,i32_w]
     rfl
    refine manyW_ (fuel:=3) (a':=?_) ((29,0) :: (30,0) :: (31,0) :: (32,0) :: (33,2) :: []) #[true,true,true,true,true,true,true,true,true,true,true,true,true,true,true,true,true,true,true,true,true,true,true,true,true,true,true,true,true,true,true,true,true,true,false,false,false] rfl HT_ HW_ (by kernel_rfl) (fun _ _ _ _ _ h => h) (fun _ => hHeld) ?_ ?_
    rotate_left
    ·repeat (first | exact Chain.nil _ | (apply Chain.on;rfl;rfl;(focus intro w';go_simp;with_reducible rfl);(focus simp only [Act.put,List.setIfInBounds_toArray,List.set_cons_zero,List.set_cons_succ,i64_w,i32_w];rfl)) | (apply Chain.take;rfl;rfl;(focus rintro w' ⟨s0,s1,s2,s3,s4,s5⟩;go_simp;with_reducible rfl);(focus simp only [Act.put,List.setIfInBounds_toArray,List.set_cons_zero,List.set_cons_succ,i64_w,i32_w];rfl)))
    refine one_ (i:=34) (N:=some 54) #[true,true,true,true,true,true,true,true,true,true,true,true,true,true,true,true,true,true,true,true,true,true,true,true,true,true,true,true,true,true,true,true,true,true,true,false,false] rfl rfl (one_of HT_.out (by kernel_rfl)) (by decide) (fun K hK => ?_)
    refine goes_ Try.func25 (by kernel_rfl) rfl #[.slice A137_2 ((rd_T54 l1 x5_1).f2).length c137_2] (by rfl) rfl rfl (by (try simp only [List.map_toArray,List.map_cons,List.map_nil]);first | done | rfl | (simp only [List.length_drop,List.length_take];rfl)) ?_
    with_reducible refine (beaconref14_List.calls k1 _ _ ((rd_T54 l1 x5_1).f2) t142 _ ?side1 ?side2 A24.out).mono ?_
    (case side1 => repeat (first | exact (Kd.C_below HR137_2.out (by repeat (first | (with_reducible first | exact HB.out | apply below_alloc | apply pw_below_drewN | apply below_drew1 | refine below_set ?_ GE138.out) | exact HB.out))) | (with_reducible refine Kd.C_alloc ?_ _) | (with_reducible refine Kd.C_drewN ?_ _) | (with_reducible refine Kd.C_drew ?_)))
    (case side2 => exact HC137_2.out)
    rintro e w27 ⟨rfl,hb⟩
    refine ⟨_,rfl,?_⟩
    have n0_:=Aside0.mk (blk_below (g:=gb138) (o:=.cells #[.int .i64 ((rd_T54 l1 x5_1).f0),.float .f64 ((rd_T54 l1 x5_1).f1),.slice A137_2 ((rd_T54 l1 x5_1).f2).length c137_2] 54 (0,0)) (by (with_reducible repeat (first | refine blk_drewN ?_ _ | refine blk_drew ?_ | refine blk_alloc ?_ _));exact BK138.out) hb)
    have n1_:=Aside0.mk (below_step (by repeat (first | (with_reducible first | exact HB.out | apply below_alloc | apply pw_below_drewN | apply below_drew1 | refine below_set ?_ GE138.out) | exact HB.out)) hb)
    clear BK138
    clear HB
    have BK138:=n0_
    have HB:=n1_
    clear n0_ n1_
    (try clear hb)
    (try clear hb2)
    (try clear hk)
    (try clear hi)
    refine hK.out _ _ ⟨(blk_cell BK138.out 0).trans rfl,(blk_cell BK138.out 1).trans rfl,(blk_cell BK138.out 2).trans rfl,((HB.out.cell (World.block_lt_of_cell? w _ hw140_0)).trans hw140_0),((HB.out.cell (World.block_lt_of_cell? w _ hw140_1)).trans hw140_1),((HB.out.cell (World.block_lt_of_cell? w _ hw140_2)).trans hw140_2)⟩ (fun hHeld => ?_)
    clear hK K
    refine norm_ (a':=?_) ?_ ?_
    rotate_left
    ·show Act.put _ (some 54) _ = _
     simp only [Act.put,List.setIfInBounds_toArray,List.set_cons_zero,List.set_cons_succ,i64_w,i32_w]
     rfl
    refine manyT_ (fuel:=0) (a':=?_) ((35,0) :: (36,0) :: []) #[true,true,true,true,true,true,true,true,true,true,true,true,true,true,true,true,true,true,true,true,true,true,true,true,true,true,true,true,true,true,true,true,true,true,true,true,true] rfl HT_ (by kernel_rfl) (fun _ _ _ _ _ h => h) (fun h => absurd h (by decide)) ?_ ?_
    rotate_left
    ·repeat (first | exact Chain.nil _ | (apply Chain.on;rfl;rfl;(focus intro w';go_simp;with_reducible rfl);(focus simp only [Act.put,List.setIfInBounds_toArray,List.set_cons_zero,List.set_cons_succ,i64_w,i32_w];rfl)))
    refine done_ (done_of HT_.out (by kernel_rfl)) ?_
    try go_wp2
    go_meet
    case rel => exact ⟨_,(!t142),(by first | rfl | (simp;done) | (simp [*];done)),H',⟨by have:=HK1.out;first | omega | exact Nat.le_refl _⟩,⟨by (with_reducible repeat (first | refine blk_drewN ?_ _ | refine blk_drew ?_ | refine blk_alloc ?_ _));exact BK138.out⟩,⟨by repeat (first | (with_reducible first | exact HB.out | apply below_alloc | apply pw_below_drewN | apply below_drew1 | refine below_set ?_ GE138.out) | exact HB.out)⟩⟩
   case rest =>
    clear HC7
    obtain ⟨kq,x56_6,rfl,HA,HJ6,BK138,HB⟩:=hcut
    cases kq with
    | zero => exact absurd HA.out (by simp [beaconref15_Check.j1])
    | succ kj6 =>
     have H:=HA.out
     clear HA
     simp only [beaconref15_Check.j1] at H
     by_cases c40:x56_6 = true
     ·subst c40
      have H1:(some 1) = some r:=by rw [if_pos rfl] at H;exact H
      clear H
      have H:=H1
      clear H1
      obtain rfl:=Option.some.inj H
      go_wp2
      go_ret
      exact ⟨by first | rfl | (simp [errW_none,errW_some] <;> rfl) | (simp [*,errW_none,errW_some] <;> rfl),by repeat (first | (with_reducible first | exact HB.out | apply below_alloc | apply pw_below_drewN | apply below_drew1 | refine below_set ?_ GE138.out) | exact HB.out)⟩
     replace c40:=Bool.eq_false_iff.mpr c40
     subst c40
     have H1:(beaconref15_Check.l0 kj6 a0 l1 (wrap64 (x5_1 + 1))) = some r:=by rw [if_neg (show ¬ (false = true) by decide)] at H;exact H
     clear H
     have H:=H1
     clear H1
     have H':=Aside0.mk H
     clear H
     go_wp2
     go_roundg kj6
     case measure => have:=HK1.out;have:=HJ6.out;omega
     case rel => exact ⟨(wrap64 (x5_1 + 1)),(by first | rfl | (simp;done) | (simp [*];done)),H',⟨by have:=HK1.out;have:=HJ6.out;omega⟩,⟨by repeat (first | (with_reducible first | exact HB.out | apply below_alloc | apply pw_below_drewN | apply below_drew1 | refine below_set ?_ GE138.out) | exact HB.out)⟩⟩
end Go.Proofs.Ytjcnmpkaiopihaa.PA
