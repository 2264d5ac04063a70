/- Printed by a program of this session (wip/tools/patch_print.py and pr.py, over the kit's print): each Go function as a plain Lean function, and that the Go code comes to just its answers. Conditions: those that each theorem names. -/
import Derived.Test.YtjcnmpkaiopihaaZgMn
import Derived.Test.YtjcnmpkaiopihaaZgPAx0
import Derived.Test.YtjcnmpkaiopihaaZgHn
import Derived.Test.YtjcnmpkaiopihaaZgPAx10
namespace Go.Proofs.Ytjcnmpkaiopihaa.PA
open Go.RowKit Go.Proofs.YtjcnmpkaiopihaaW.PrintWords Go.Proofs.YtjcnmpkaiopihaaW.PrintLast Go.Proofs.YtjcnmpkaiopihaaW.PrintMore
attribute [local go_sem] max2_int min2_int max_two min_two max_three min_three max_four min_four
set_option linter.unusedVariables false
set_option linter.unusedSimpArgs false
mutual
def beaconref15_Tell.l0:Nat → Int → List (S58) → List (S56) → Bool → Int → Int → Int → Nat → Nat → Int → Option ((List (S56)) × Int)
 | 0,_,_,_,_,_,_,_,_,_,_ => none
 | k + 1,x0,x2,x10,x11,x12,x251000,x251001,x251002,x251003,x251004 => if x12 < (x2.length:Int) then (if x11 = true then (beaconref15_Tell.j1 k x0 x2 x10 x11 x12 false x251000 x251001 x251002 x251003 x251004) else (if 0 ≤ x12 then (beaconref15_Tell.j1 k x0 x2 x10 x11 x12 (decide (((rd_T58 x2 x12).f0) > x0)) x251000 x251001 x251002 x251003 x251004) else (none))) else (if x11 = true then (some (x10,0)) else (if x10.length < 3518437208883 then (some ((x10 ++ [(⟨x251000,x251001,x251002,x251003,x251004⟩:S56)]),0)) else (none)))
def beaconref15_Tell.j1:Nat → Int → List (S58) → List (S56) → Bool → Int → Bool → Int → Int → Nat → Nat → Int → Option ((List (S56)) × Int)
 | 0,_,_,_,_,_,_,_,_,_,_,_ => none
 | k + 1,x0,x2,x10,x11,x12,x40,x251000,x251001,x251002,x251003,x251004 => if x40 = true then (if x10.length < 3518437208883 then (beaconref15_Tell.j2 k x0 x2 (x10 ++ [(⟨x251000,x251001,x251002,x251003,x251004⟩:S56)]) true x12 x251000 x251001 x251002 x251003 x251004) else (none)) else (beaconref15_Tell.j2 k x0 x2 x10 x11 x12 x251000 x251001 x251002 x251003 x251004)
def beaconref15_Tell.j2:Nat → Int → List (S58) → List (S56) → Bool → Int → Int → Int → Nat → Nat → Int → Option ((List (S56)) × Int)
 | 0,_,_,_,_,_,_,_,_,_,_ => none
 | k + 1,x0,x2,x10,x11,x12,x251000,x251001,x251002,x251003,x251004 => if 0 ≤ x12 then (if x12 < (x2.length:Int) then ((beaconref15_Far.f ((rd_T58 x2 x12).f2)).bind fun t259 => (if t259 = true then (beaconref15_Tell.l0 k x0 x2 x10 x11 (wrap64 (x12 + 1)) x251000 x251001 x251002 x251003 x251004) else (if x10.length < 3518437208883 then (beaconref15_Tell.l0 k x0 x2 (x10 ++ [(⟨(rd_T58 x2 x12).f0,1,(rd_T58 x2 x12).f2,0,0⟩:S56)]) x11 (wrap64 (x12 + 1)) x251000 x251001 x251002 x251003 x251004) else (none)))) else (none)) else (none)
end
def beaconref15_Tell.f (k:Nat) (a0:Int) (a1:Bool) (l2:List (S58)):Option ((List (S56)) × Int):=(beaconref15_may.f k a0 l2).bind fun t249 => (if t249 = 0 then (beaconref15_Tell.l0 k a0 l2 (([]:List (S56))) (!a1) 0 a0 1 0 0 0) else (some (([]:List (S56)),t249)))
def beaconref15_Tell.T13:Bool × List (List Nat × List Nat):=(true,[([],[]),([],[]),([],[]),([1,2],[1,2]),([3],[3]),([4],[4]),([],[]),([],[]),([6,7],[6,7]),([8],[8]),([9],[9]),([5,10],[5,10]),([11],[11]),([0,12],[0,12]),([13,13,0,1,2,3,4,5,6,7,8,9,10,11,12,13],[0,13])])
def beaconref15_Tell.B13:List Nat:=[0,0,0,6,14,30,0,0,192,448,960,2046,4094,8191,16383]
theorem beaconref15_Tell.tab13:rtab .any (opsOf Try.f31 13) = beaconref15_Tell.T13:=by kernel_rfl
theorem beaconref15_Tell.bits13:waitsOk beaconref15_Tell.T13.2 beaconref15_Tell.B13 = true:=by kernel_rfl
set_option maxHeartbeats 8000000 in
set_option maxRecDepth 100000 in
theorem beaconref15_Tell.calls (k:Nat) (a0:Int) (a1:Bool) (A2:Option Addr) (c2:Nat) (l2:List (S58)) (r1:List (S56)) (r2:Int) (w:World) (hr2:Kd.C k58 w A2 l2.length l2) (hc2:l2.length ≤ c2) (h:beaconref15_Tell.f k a0 a1 l2 = some (r1,r2)) :
  Calls Try.prog 31 #[.int .i64 a0,.bool a1,.slice A2 l2.length c2] w fun e w' => ∃ v0_:Value,e = .returned (.tuple #[v0_,.int .i64 r2]) ∧ Kd.R k56 56 w' w.heap.size (fun _ => True) v0_ r1 ∧ Below w.heap.size w w':=by
 have hu56:=Try.underlying56
 have HR2:=Aside0.mk hr2
 have HC2:=Aside0.mk hc2
 clear hr2 hc2
 have HB:=Aside0.mk (Below.refl w.heap.size w)
 have H:((beaconref15_may.f k a0 l2).bind fun t249 => (if t249 = 0 then (beaconref15_Tell.l0 k a0 l2 (([]:List (S56))) (!a1) 0 a0 1 0 0 0) else (some (([]:List (S56)),t249)))) = some (r1,r2):=h
 clear h
 replace H:=Option.bind_eq_some_iff.mp H
 obtain ⟨t249,A40,H⟩:=H
 replace H:(if t249 = 0 then (beaconref15_Tell.l0 k a0 l2 (([]:List (S56))) (!a1) 0 a0 1 0 0 0) else (some (([]:List (S56)),t249))) = some (r1,r2):=H
 have A4:=Aside0.mk A40
 clear A40
 by_cases c5:t249 = 0
 rotate_left
 ·rw [if_neg c5] at H
  have c5b0:(t249 == 0) = false:=beq_eq_false_iff_ne.mpr c5
  have c5b1:(t249 != 0) = true:=bne_iff_ne.mpr c5
  simp only [Option.some.injEq,Prod.mk.injEq] at H
  obtain ⟨rfl,rfl⟩:=H
  go_enter Try.func31,Try.ntmps31
  go_wp2_with (first | ((with_reducible refine gate_callee (f:=65) rfl ?_);refine goesL_ (some 15) rfl rfl Try.func65 (by kernel_rfl) rfl #[.int .i64 a0,.slice A2 l2.length c2] rfl (by (try simp only [List.map_toArray,List.map_cons,List.map_nil]);first | done | rfl | (simp only [List.length_drop,List.length_take];rfl)) ?_;(with_reducible refine (beaconref15_may.calls k a0 _ _ l2 t249 _ ?side1 ?side2 A4.out).mono ?_);(case side1 => repeat (first | exact HR2.out | (with_reducible refine Kd.C_alloc ?_ _) | (with_reducible refine Kd.C_drewN ?_ _) | (with_reducible refine Kd.C_drew ?_)));(case side2 => exact HC2.out);rintro e w31 ⟨rfl,hb⟩;refine ⟨_,rfl,?_⟩;have n0_:=Aside0.mk (below_step (by repeat (first | (with_reducible first | exact HB.out | apply below_alloc | apply pw_below_drewN | apply below_drew1) | exact HB.out)) hb);clear HB;have HB:=n0_;clear n0_;(try clear hb);(try clear hb2);(try clear hk);(try clear hi)))
  go_ret2
  exact ⟨_,by first | rfl | (simp [errW_none,errW_some] <;> rfl) | (simp [*,errW_none,errW_some] <;> rfl),by first | exact Kd.R_nil _ _ _ _ _ | exact Kd.N_nil _ _ _ _ _ | exact Kd.V_nil _ _ _ _ _ | exact Kd.Q_nil _ _ _ _ _ | exact Kd.S_nil _ _ _ _ _,by repeat (first | (with_reducible first | exact HB.out | apply below_alloc | apply pw_below_drewN | apply below_drew1) | exact HB.out)⟩
 rw [if_pos c5] at H
 have c5b0:(t249 == 0) = true:=beq_iff_eq.mpr c5
 have c5b1:(t249 != 0) = false:=bne_eq_false_iff_eq.mpr c5
 clear c5
 obtain ⟨y251,hy251⟩:∃ y_:List (S56),y_ = (([]:List (S56))):=⟨_,rfl⟩
 replace H:(beaconref15_Tell.l0 k a0 l2 y251 (!a1) 0 a0 1 0 0 0) = some (r1,r2):=by first | (rw [hy251];with_reducible exact H) | (have H2_:=(Option.bind_some _ _).symm.trans H;rw [hy251];with_reducible exact H2_) | (have H2_:=(Option.bind_some _ _).symm.trans H;with_reducible exact H2_) | with_reducible exact H | (rw [hy251];exact H) | exact H
 have Ny251:=Aside0.mk hy251
 clear hy251
 have H':=Aside0.mk H
 clear H
 go_enter Try.func31,Try.ntmps31
 go_wp2_with (first | ((with_reducible refine gate_callee (f:=65) rfl ?_);refine goesL_ (some 15) rfl rfl Try.func65 (by kernel_rfl) rfl #[.int .i64 a0,.slice A2 l2.length c2] rfl (by (try simp only [List.map_toArray,List.map_cons,List.map_nil]);first | done | rfl | (simp only [List.length_drop,List.length_take];rfl)) ?_;(with_reducible refine (beaconref15_may.calls k a0 _ _ l2 t249 _ ?side1 ?side2 A4.out).mono ?_);(case side1 => repeat (first | exact HR2.out | (with_reducible refine Kd.C_alloc ?_ _) | (with_reducible refine Kd.C_drewN ?_ _) | (with_reducible refine Kd.C_drew ?_)));(case side2 => exact HC2.out);rintro e w6 ⟨rfl,hb⟩;refine ⟨_,rfl,?_⟩;have n0_:=Aside0.mk (below_step (by repeat (first | (with_reducible first | exact HB.out | apply below_alloc | apply pw_below_drewN | apply below_drew1) | exact HB.out)) hb);clear HB;have HB:=n0_;clear n0_;(try clear hb);(try clear hb2);(try clear hk);(try clear hi)) | ((with_reducible refine gate_dst (N:=9) rfl ?_);refine box_event ?hg (N:=9) ?hd (cs:=#[.int .i64 0,.int .i64 0,.float .f64 0,.float .f64 0,.int .i64 0]) (t:=56) ?hr ?_;(case hd => rfl);(case hg => rfl);(case hr => first | (go_simp;done) | (go_simp;rfl));intro gb250 hg w7 hbox hb;have n0_:=Aside0.mk (below_step (by repeat (first | (with_reducible first | exact HB.out | apply below_alloc | apply pw_below_drewN | apply below_drew1) | exact HB.out)) hb);have n1_:=Aside0.mk (hbox);have n2_:=Aside0.mk ((by rw [hg];exact (below_size (by repeat (first | (with_reducible first | exact HB.out | apply below_alloc | apply pw_below_drewN | apply below_drew1) | exact HB.out))):w.heap.size ≤ gb250));have n3_:=Aside0.mk ((by rw [hg];exact (below_size (by repeat (first | (with_reducible first | exact HB.out | apply below_alloc | apply pw_below_drewN | apply below_drew1) | exact HB.out))):w.heap.size ≤ gb250));clear HB;have HB:=n0_;have BK250:=n1_;have GW250:=n2_;have GE250:=n3_;clear n0_ n1_ n2_ n3_;clear hb hbox hg;have hcz8_0:w7.cell? ⟨gb250,0,none⟩ = some (.int .i64 0):=(blk_cell BK250.out 0).trans rfl;have hcz8_1:w7.cell? ⟨gb250,1,none⟩ = some (.int .i64 0):=(blk_cell BK250.out 1).trans rfl;have hcz8_2:w7.cell? ⟨gb250,2,none⟩ = some (.float .f64 0):=(blk_cell BK250.out 2).trans rfl;have hcz8_3:w7.cell? ⟨gb250,3,none⟩ = some (.float .f64 0):=(blk_cell BK250.out 3).trans rfl;have hcz8_4:w7.cell? ⟨gb250,4,none⟩ = some (.int .i64 0):=(blk_cell BK250.out 4).trans rfl;have hfz8_0:=blk_frozen BK250.out 0;have hfz8_1:=blk_frozen BK250.out 1;have hfz8_2:=blk_frozen BK250.out 2;have hfz8_3:=blk_frozen BK250.out 3;have hfz8_4:=blk_frozen BK250.out 4) | ((with_reducible refine gate_dst (N:=21) rfl ?_);refine Kd.R_lit k56 _ 56 ?hg (N:=21) ?hd (xs:=([]:List (S56))) (inner:=[]) (ok:=fun _ => True) (okp:=fun _ => True) ?hr ?hp (fun _ hk => hk) trivial (Below.refl _ _) (Nat.le_refl _) (by simp) ?_;(case hd => rfl);(case hg => rfl);(case hr => first | (go_simp;done) | (go_simp;rfl));(case hp => exact (Reps.none _ _));intro v252 w9 ho10 hb hg_ hnew_;clear hg_ hnew_;(first | rw [← Ny251.out] at ho10 | (simp only [Int.reduceToNat] at ho10;rw [← Ny251.out] at ho10));have n0_:=Aside0.mk (Kd.R_lower (Kd.R_newB ho10 (g:=gb250) (o:=.cells #[.int .i64 a0,.int .i64 1,.float .f64 0,.float .f64 0,.int .i64 0] 56 (0,0)) (by (with_reducible repeat (first | refine blk_drewN ?_ _ | refine blk_drew ?_ | refine blk_alloc ?_ _));refine blk_put (cs:=#[.int .i64 a0,.int .i64 1,.float .f64 0,.float .f64 0,.int .i64 0]) ?_ 4 _ rfl;(with_reducible repeat (first | refine blk_drewN ?_ _ | refine blk_drew ?_ | refine blk_alloc ?_ _));refine blk_put (cs:=#[.int .i64 a0,.int .i64 1,.float .f64 0,.float .f64 0,.int .i64 0]) ?_ 3 _ rfl;(with_reducible repeat (first | refine blk_drewN ?_ _ | refine blk_drew ?_ | refine blk_alloc ?_ _));refine blk_put (cs:=#[.int .i64 a0,.int .i64 1,.float .f64 0,.float .f64 0,.int .i64 0]) ?_ 2 _ rfl;(with_reducible repeat (first | refine blk_drewN ?_ _ | refine blk_drew ?_ | refine blk_alloc ?_ _));refine blk_put (cs:=#[.int .i64 a0,.int .i64 0,.float .f64 0,.float .f64 0,.int .i64 0]) ?_ 1 _ rfl;(with_reducible repeat (first | refine blk_drewN ?_ _ | refine blk_drew ?_ | refine blk_alloc ?_ _));refine blk_put (cs:=#[.int .i64 0,.int .i64 0,.float .f64 0,.float .f64 0,.int .i64 0]) ?_ 0 _ rfl;(with_reducible repeat (first | refine blk_drewN ?_ _ | refine blk_drew ?_ | refine blk_alloc ?_ _));exact BK250.out)) (below_size (by repeat (first | (with_reducible first | exact HB.out | apply below_alloc | apply pw_below_drewN | apply below_drew1 | refine below_set ?_ GE250.out) | exact HB.out))));have n1_:=Aside0.mk (blk_below (g:=gb250) (o:=.cells #[.int .i64 a0,.int .i64 1,.float .f64 0,.float .f64 0,.int .i64 0] 56 (0,0)) (by (with_reducible repeat (first | refine blk_drewN ?_ _ | refine blk_drew ?_ | refine blk_alloc ?_ _));refine blk_put (cs:=#[.int .i64 a0,.int .i64 1,.float .f64 0,.float .f64 0,.int .i64 0]) ?_ 4 _ rfl;(with_reducible repeat (first | refine blk_drewN ?_ _ | refine blk_drew ?_ | refine blk_alloc ?_ _));refine blk_put (cs:=#[.int .i64 a0,.int .i64 1,.float .f64 0,.float .f64 0,.int .i64 0]) ?_ 3 _ rfl;(with_reducible repeat (first | refine blk_drewN ?_ _ | refine blk_drew ?_ | refine blk_alloc ?_ _));refine blk_put (cs:=#[.int .i64 a0,.int .i64 1,.float .f64 0,.float .f64 0,.int .i64 0]) ?_ 2 _ rfl;(with_reducible repeat (first | refine blk_drewN ?_ _ | refine blk_drew ?_ | refine blk_alloc ?_ _));refine blk_put (cs:=#[.int .i64 a0,.int .i64 0,.float .f64 0,.float .f64 0,.int .i64 0]) ?_ 1 _ rfl;(with_reducible repeat (first | refine blk_drewN ?_ _ | refine blk_drew ?_ | refine blk_alloc ?_ _));refine blk_put (cs:=#[.int .i64 0,.int .i64 0,.float .f64 0,.float .f64 0,.int .i64 0]) ?_ 0 _ rfl;(with_reducible repeat (first | refine blk_drewN ?_ _ | refine blk_drew ?_ | refine blk_alloc ?_ _));exact BK250.out) hb);have n2_:=Aside0.mk (below_step (by repeat (first | (with_reducible first | exact HB.out | apply below_alloc | apply pw_below_drewN | apply below_drew1 | refine below_set ?_ GE250.out) | exact HB.out)) hb);clear BK250;clear HB;have HO253:=n0_;have BK250:=n1_;have HB:=n2_;clear n0_ n1_ n2_;clear hb ho10))
 go_loopg [10,11,12] k (fun kq v10 v11 v12 w' => ∃ (x10_1:List (S56)) (x11_1:Bool) (x12_1:Int),v11 = .bool x11_1 ∧ v12 = .int .i64 x12_1 ∧ Aside0 (beaconref15_Tell.l0 kq a0 l2 x10_1 x11_1 x12_1 a0 1 0 0 0 = some (r1,r2)) ∧ Aside0 (kq ≤ k) ∧ Aside0 (Kd.R k56 56 w' w.heap.size (fun k_ => k_ ≠ gb250) v10 x10_1) ∧ Aside0 (w'.heap[gb250]? = some (.cells #[.int .i64 a0,.int .i64 1,.float .f64 0,.float .f64 0,.int .i64 0] 56 (0,0))) ∧ Aside0 (Below w.heap.size w w'))
 case atStart => exact ⟨(y251),(!a1),(0),(by first | rfl | (simp;done) | (simp [*];done)),(by first | rfl | (simp;done) | (simp [*];done)),H',⟨Nat.le_refl _⟩,⟨by (with_reducible repeat (first | apply Kd.R_alloc | apply Kd.R_drewN | apply Kd.R_drew));exact Kd.R_mono HO253.out (fun _ hk => hk.2)⟩,⟨by (with_reducible repeat (first | refine blk_drewN ?_ _ | refine blk_drew ?_ | refine blk_alloc ?_ _));exact BK250.out⟩,⟨by repeat (first | (with_reducible first | exact HB.out | apply below_alloc | apply pw_below_drewN | apply below_drew1 | refine below_set ?_ GE250.out) | exact HB.out)⟩⟩
 case round =>
  clear H'
  obtain ⟨x10_1,x11_1,x12_1,rfl,rfl,HA,HK1,HO_10,BK250,HB⟩:=hrel
  cases gk with
  | zero => exact absurd HA.out (by simp [beaconref15_Tell.l0])
  | succ k1 =>
   have H:=HA.out
   clear HA
   simp only [beaconref15_Tell.l0] at H
   by_cases c11:x12_1 < (l2.length:Int)
   rotate_left
   ·rw [if_neg c11] at H
    have c11b0:decide (x12_1 < (l2.length:Int)) = false:=decide_eq_false c11
    clear c11
    by_cases c27:x11_1 = true
    ·subst c27
     have H1:(some (x10_1,0)) = some (r1,r2):=by rw [if_pos rfl] at H;exact H
     clear H
     have H:=H1
     clear H1
     simp only [Option.some.injEq,Prod.mk.injEq] at H
     obtain ⟨rfl,rfl⟩:=H
     go_wp2
     go_ret2
     exact ⟨_,by first | rfl | (simp [errW_none,errW_some] <;> rfl) | (simp [*,errW_none,errW_some] <;> rfl),by (with_reducible repeat (first | apply Kd.R_alloc | apply Kd.R_drewN | apply Kd.R_drew));exact Kd.R_mono HO_10.out (fun _ hk => trivial),by repeat (first | (with_reducible first | exact HB.out | apply below_alloc | apply pw_below_drewN | apply below_drew1 | refine below_set ?_ GE250.out) | exact HB.out)⟩
    replace c27:=Bool.eq_false_iff.mpr c27
    subst c27
    have H1:(if x10_1.length < 3518437208883 then (some ((x10_1 ++ [(⟨a0,1,0,0,0⟩:S56)]),0)) else (none)) = some (r1,r2):=by rw [if_neg (show ¬ (false = true) by decide)] at H;exact H
    clear H
    have H:=H1
    clear H1
    by_cases c28:x10_1.length < 3518437208883
    ·rw [if_pos c28] at H
     have LMc28:=Aside0.mk c28
     clear c28
     obtain ⟨y265,hy265⟩:∃ y_:List (S56),y_ = (x10_1 ++ [(⟨a0,1,0,0,0⟩:S56)]):=⟨_,rfl⟩
     replace H:(some (y265,0)) = some (r1,r2):=by first | (rw [hy265];with_reducible exact H) | (have H2_:=(Option.bind_some _ _).symm.trans H;rw [hy265];with_reducible exact H2_) | (have H2_:=(Option.bind_some _ _).symm.trans H;with_reducible exact H2_) | with_reducible exact H | (rw [hy265];exact H) | exact H
     have Ny265:=Aside0.mk hy265
     clear hy265
     simp only [Option.some.injEq,Prod.mk.injEq] at H
     obtain ⟨rfl,rfl⟩:=H
     have hcz29_0:wr.cell? ⟨gb250,0,none⟩ = some (.int .i64 a0):=(blk_cell BK250.out 0).trans rfl
     have hcz29_1:wr.cell? ⟨gb250,1,none⟩ = some (.int .i64 1):=(blk_cell BK250.out 1).trans rfl
     have hcz29_2:wr.cell? ⟨gb250,2,none⟩ = some (.float .f64 0):=(blk_cell BK250.out 2).trans rfl
     have hcz29_3:wr.cell? ⟨gb250,3,none⟩ = some (.float .f64 0):=(blk_cell BK250.out 3).trans rfl
     have hcz29_4:wr.cell? ⟨gb250,4,none⟩ = some (.int .i64 0):=(blk_cell BK250.out 4).trans rfl
     have hfz29_0:=blk_frozen BK250.out 0
     have hfz29_1:=blk_frozen BK250.out 1
     have hfz29_2:=blk_frozen BK250.out 2
     have hfz29_3:=blk_frozen BK250.out 3
     have hfz29_4:=blk_frozen BK250.out 4
     go_wp2_with (first | ((with_reducible refine gate_builtin (b:=.append) (xs:=#[.tmp 68,.tmp 70]) rfl ?_);at_builtin;refine Kd.R_append k56 (w0:=w) w.heap.size rfl (.tmp 68) (.tmp 70) 35 56 (.agg #[(.int .i64 0),(.int .i64 0),(.float .f64 0),(.float .f64 0),(.int .i64 0)]) 40 rfl Try.underlying35 info56 rfl (by decide) (by omega) u10 x10_1 (⟨a0,1,0,0,0⟩:S56) [.int .i64 a0,.int .i64 1,.float .f64 0,.float .f64 0,.int .i64 0] (fun k_ => k_ ≠ gb250) (fun _ => False) rfl rfl ?aP (fun _ hk => hk.elim) ?aF ?aO ?aB ?aS ?aL ?_;(case aP => exact k56_mkM _ _ _ (⟨a0,1,0,0,0⟩:S56));(case aB => exact (by repeat (first | (with_reducible first | exact HB.out | apply below_alloc | apply pw_below_drewN | apply below_drew1 | refine below_set ?_ GE250.out) | exact HB.out)));(case aF => exact (fun k_ hk => Kd.freshB (g:=gb250) (o:=.cells #[.int .i64 a0,.int .i64 1,.float .f64 0,.float .f64 0,.int .i64 0] 56 (0,0)) (by (with_reducible repeat (first | refine blk_drewN ?_ _ | refine blk_drew ?_ | refine blk_alloc ?_ _));exact BK250.out) k_ hk));(case aO => exact (by (with_reducible repeat (first | apply Kd.R_alloc | apply Kd.R_drewN | apply Kd.R_drew));exact HO_10.out));(case aS => exact (below_size (by repeat (first | (with_reducible first | exact HB.out | apply below_alloc | apply pw_below_drewN | apply below_drew1 | refine below_set ?_ GE250.out) | exact HB.out))));(case aL => have:=LMc28.out;omega);intro v266 w30 ho hb hg hat;rw [← Ny265.out] at ho;have n0_:=Aside0.mk (blk_grown (g:=gb250) (o:=.cells #[.int .i64 a0,.int .i64 1,.float .f64 0,.float .f64 0,.int .i64 0] 56 (0,0)) (by (with_reducible repeat (first | refine blk_drewN ?_ _ | refine blk_drew ?_ | refine blk_alloc ?_ _));exact BK250.out) hg (Kd.R_away HO_10.out (fun _ hk => hk)));have n1_:=Aside0.mk (hb);have n2_:=Aside0.mk (ho);clear BK250;clear HB;clear HO_10;have BK250:=n0_;have HB:=n1_;have HO267:=n2_;clear n0_ n1_ n2_;clear ho hb hg hat))
     go_ret2
     exact ⟨_,by first | rfl | (simp [errW_none,errW_some] <;> rfl) | (simp [*,errW_none,errW_some] <;> rfl),by (with_reducible repeat (first | apply Kd.R_alloc | apply Kd.R_drewN | apply Kd.R_drew));exact Kd.R_mono HO267.out (fun _ hk => trivial),by repeat (first | (with_reducible first | exact HB.out | apply below_alloc | apply pw_below_drewN | apply below_drew1 | refine below_set ?_ GE250.out) | exact HB.out)⟩
    rw [if_neg c28] at H
    exact absurd H (by simp)
   rw [if_pos c11] at H
   have c11b0:decide (x12_1 < (l2.length:Int)) = true:=decide_eq_true c11
   clear c11
   have HC12:=Aside0.mk H
   clear H
   go_upto_region 9 with (fail)
   go_cut [40] (fun v40 wc => ∃ (kq:Nat) (x40_11:Bool),v40 = .bool x40_11 ∧ Aside0 (beaconref15_Tell.j1 kq a0 l2 x10_1 x11_1 x12_1 x40_11 a0 1 0 0 0 = some (r1,r2)) ∧ Aside0 (kq ≤ k1) ∧ Aside0 (Kd.R k56 56 wc w.heap.size (fun k_ => k_ ≠ gb250) u10 x10_1) ∧ Aside0 (wc.heap[gb250]? = some (.cells #[.int .i64 a0,.int .i64 1,.float .f64 0,.float .f64 0,.int .i64 0] 56 (0,0))) ∧ Aside0 (Below w.heap.size w wc))
   case first =>
    have H:=HC12.out
    clear HC12
    by_cases c13:x11_1 = true
    ·subst c13
     have H1:(beaconref15_Tell.j1 k1 a0 l2 x10_1 true x12_1 false a0 1 0 0 0) = some (r1,r2):=by rw [if_pos rfl] at H;exact H
     clear H
     have H:=H1
     clear H1
     have H':=Aside0.mk H
     clear H
     go_wp2
     go_meet
     case rel => exact ⟨_,(false),(by first | rfl | (simp;done) | (simp [*];done)),H',⟨by have:=HK1.out;first | omega | exact Nat.le_refl _⟩,⟨by (with_reducible repeat (first | apply Kd.R_alloc | apply Kd.R_drewN | apply Kd.R_drew));exact HO_10.out⟩,⟨by (with_reducible repeat (first | refine blk_drewN ?_ _ | refine blk_drew ?_ | refine blk_alloc ?_ _));exact BK250.out⟩,⟨by repeat (first | (with_reducible first | exact HB.out | apply below_alloc | apply pw_below_drewN | apply below_drew1 | refine below_set ?_ GE250.out) | exact HB.out)⟩⟩
    replace c13:=Bool.eq_false_iff.mpr c13
    subst c13
    have H1:(if 0 ≤ x12_1 then (beaconref15_Tell.j1 k1 a0 l2 x10_1 false x12_1 (decide (((rd_T58 l2 x12_1).f0) > a0)) a0 1 0 0 0) else (none)) = some (r1,r2):=by rw [if_neg (show ¬ (false = true) by decide)] at H;exact H
    clear H
    have H:=H1
    clear H1
    by_cases c14:0 ≤ x12_1
    ·rw [if_pos c14] at H
     have c14b0:decide (0 ≤ x12_1) = true:=decide_eq_true c14
     clear c14
     (first | rw [c14b0] | (simp only [i64_w,i32_w];rw [c14b0]) | skip)
     have H':=Aside0.mk H
     clear H
     have p254:0 ≤ (x12_1:Int):=of_decide_eq_true (by first | (with_reducible assumption) | assumption)
     have q254:x12_1 < (l2.length:Int):=of_decide_eq_true (by first | (with_reducible assumption) | assumption)
     obtain ⟨ad254,e254,hx254_0,hx254_1,hx254_2,hx254_3,hx254_4,hx254_5⟩:=at_T58 HR2.out x12_1 p254 q254
     cases e254
     replace hx254_0:=(HB.out.cell (World.block_lt_of_cell? w _ hx254_0)).trans hx254_0
     replace hx254_1:=(HB.out.cell (World.block_lt_of_cell? w _ hx254_1)).trans hx254_1
     replace hx254_2:=(HB.out.cell (World.block_lt_of_cell? w _ hx254_2)).trans hx254_2
     replace hx254_3:=(HB.out.cell (World.block_lt_of_cell? w _ hx254_3)).trans hx254_3
     replace hx254_4:=(HB.out.cell (World.block_lt_of_cell? w _ hx254_4)).trans hx254_4
     replace hx254_5:=(HB.out.cell (World.block_lt_of_cell? w _ hx254_5)).trans hx254_5
     replace p254:=eq_true p254
     replace q254:=eq_true q254
     go_wp2
     go_meet
     case rel => exact ⟨_,(decide (((rd_T58 l2 x12_1).f0) > a0)),(by first | rfl | (simp;done) | (simp [*];done)),H',⟨by have:=HK1.out;first | omega | exact Nat.le_refl _⟩,⟨by (with_reducible repeat (first | apply Kd.R_alloc | apply Kd.R_drewN | apply Kd.R_drew));exact HO_10.out⟩,⟨by (with_reducible repeat (first | refine blk_drewN ?_ _ | refine blk_drew ?_ | refine blk_alloc ?_ _));exact BK250.out⟩,⟨by repeat (first | (with_reducible first | exact HB.out | apply below_alloc | apply pw_below_drewN | apply below_drew1 | refine below_set ?_ GE250.out) | exact HB.out)⟩⟩
    rw [if_neg c14] at H
    exact absurd H (by simp)
   case rest =>
    clear HC12
    obtain ⟨kq,x40_11,rfl,HA,HJ11,HO_10,BK250,HB⟩:=hcut
    cases kq with
    | zero => exact absurd HA.out (by simp [beaconref15_Tell.j1])
    | succ kj11 =>
     have H:=HA.out
     clear HA
     simp only [beaconref15_Tell.j1] at H
     have HC15:=Aside0.mk H
     clear H
     go_upto_if 40 with (fail)
     go_cut [10,11] (fun v10 v11 wc => ∃ (kq:Nat) (x10_14:List (S56)) (x11_14:Bool),v11 = .bool x11_14 ∧ Aside0 (beaconref15_Tell.j2 kq a0 l2 x10_14 x11_14 x12_1 a0 1 0 0 0 = some (r1,r2)) ∧ Aside0 (kq ≤ kj11) ∧ Aside0 (Kd.R k56 56 wc w.heap.size (fun k_ => k_ ≠ gb250) v10 x10_14) ∧ Aside0 (wc.heap[gb250]? = some (.cells #[.int .i64 a0,.int .i64 1,.float .f64 0,.float .f64 0,.int .i64 0] 56 (0,0))) ∧ Aside0 (Below w.heap.size w wc))
     case first =>
      have H:=HC15.out
      clear HC15
      by_cases c16:x40_11 = true
      ·subst c16
       have H1:(if x10_1.length < 3518437208883 then (beaconref15_Tell.j2 kj11 a0 l2 (x10_1 ++ [(⟨a0,1,0,0,0⟩:S56)]) true x12_1 a0 1 0 0 0) else (none)) = some (r1,r2):=by rw [if_pos rfl] at H;exact H
       clear H
       have H:=H1
       clear H1
       by_cases c17:x10_1.length < 3518437208883
       ·rw [if_pos c17] at H
        have LMc17:=Aside0.mk c17
        clear c17
        obtain ⟨y255,hy255⟩:∃ y_:List (S56),y_ = (x10_1 ++ [(⟨a0,1,0,0,0⟩:S56)]):=⟨_,rfl⟩
        replace H:(beaconref15_Tell.j2 kj11 a0 l2 y255 true x12_1 a0 1 0 0 0) = some (r1,r2):=by first | (rw [hy255];with_reducible exact H) | (have H2_:=(Option.bind_some _ _).symm.trans H;rw [hy255];with_reducible exact H2_) | (have H2_:=(Option.bind_some _ _).symm.trans H;with_reducible exact H2_) | with_reducible exact H | (rw [hy255];exact H) | exact H
        have Ny255:=Aside0.mk hy255
        clear hy255
        have H':=Aside0.mk H
        clear H
        have hcz18_0:wc.cell? ⟨gb250,0,none⟩ = some (.int .i64 a0):=(blk_cell BK250.out 0).trans rfl
        have hcz18_1:wc.cell? ⟨gb250,1,none⟩ = some (.int .i64 1):=(blk_cell BK250.out 1).trans rfl
        have hcz18_2:wc.cell? ⟨gb250,2,none⟩ = some (.float .f64 0):=(blk_cell BK250.out 2).trans rfl
        have hcz18_3:wc.cell? ⟨gb250,3,none⟩ = some (.float .f64 0):=(blk_cell BK250.out 3).trans rfl
        have hcz18_4:wc.cell? ⟨gb250,4,none⟩ = some (.int .i64 0):=(blk_cell BK250.out 4).trans rfl
        have hfz18_0:=blk_frozen BK250.out 0
        have hfz18_1:=blk_frozen BK250.out 1
        have hfz18_2:=blk_frozen BK250.out 2
        have hfz18_3:=blk_frozen BK250.out 3
        have hfz18_4:=blk_frozen BK250.out 4
        go_wp2_with (first | ((with_reducible refine gate_builtin (b:=.append) (xs:=#[.tmp 41,.tmp 43]) rfl ?_);at_builtin;refine Kd.R_append k56 (w0:=w) w.heap.size rfl (.tmp 41) (.tmp 43) 35 56 (.agg #[(.int .i64 0),(.int .i64 0),(.float .f64 0),(.float .f64 0),(.int .i64 0)]) 40 rfl Try.underlying35 info56 rfl (by decide) (by omega) u10 x10_1 (⟨a0,1,0,0,0⟩:S56) [.int .i64 a0,.int .i64 1,.float .f64 0,.float .f64 0,.int .i64 0] (fun k_ => k_ ≠ gb250) (fun _ => False) rfl rfl ?aP (fun _ hk => hk.elim) ?aF ?aO ?aB ?aS ?aL ?_;(case aP => exact k56_mkM _ _ _ (⟨a0,1,0,0,0⟩:S56));(case aB => exact (by repeat (first | (with_reducible first | exact HB.out | apply below_alloc | apply pw_below_drewN | apply below_drew1 | refine below_set ?_ GE250.out) | exact HB.out)));(case aF => exact (fun k_ hk => Kd.freshB (g:=gb250) (o:=.cells #[.int .i64 a0,.int .i64 1,.float .f64 0,.float .f64 0,.int .i64 0] 56 (0,0)) (by (with_reducible repeat (first | refine blk_drewN ?_ _ | refine blk_drew ?_ | refine blk_alloc ?_ _));exact BK250.out) k_ hk));(case aO => exact (by (with_reducible repeat (first | apply Kd.R_alloc | apply Kd.R_drewN | apply Kd.R_drew));exact HO_10.out));(case aS => exact (below_size (by repeat (first | (with_reducible first | exact HB.out | apply below_alloc | apply pw_below_drewN | apply below_drew1 | refine below_set ?_ GE250.out) | exact HB.out))));(case aL => have:=LMc17.out;omega);intro v256 w19 ho hb hg hat;rw [← Ny255.out] at ho;have n0_:=Aside0.mk (blk_grown (g:=gb250) (o:=.cells #[.int .i64 a0,.int .i64 1,.float .f64 0,.float .f64 0,.int .i64 0] 56 (0,0)) (by (with_reducible repeat (first | refine blk_drewN ?_ _ | refine blk_drew ?_ | refine blk_alloc ?_ _));exact BK250.out) hg (Kd.R_away HO_10.out (fun _ hk => hk)));have n1_:=Aside0.mk (hb);have n2_:=Aside0.mk (ho);clear BK250;clear HB;clear HO_10;have BK250:=n0_;have HB:=n1_;have HO257:=n2_;clear n0_ n1_ n2_;clear ho hb hg hat))
        go_meet
        case rel => exact ⟨_,(y255),(true),(by first | rfl | (simp;done) | (simp [*];done)),H',⟨by have:=HK1.out;have:=HJ11.out;first | omega | exact Nat.le_refl _⟩,⟨by (with_reducible repeat (first | apply Kd.R_alloc | apply Kd.R_drewN | apply Kd.R_drew));exact HO257.out⟩,⟨by (with_reducible repeat (first | refine blk_drewN ?_ _ | refine blk_drew ?_ | refine blk_alloc ?_ _));exact BK250.out⟩,⟨by repeat (first | (with_reducible first | exact HB.out | apply below_alloc | apply pw_below_drewN | apply below_drew1 | refine below_set ?_ GE250.out) | exact HB.out)⟩⟩
       rw [if_neg c17] at H
       exact absurd H (by simp)
      replace c16:=Bool.eq_false_iff.mpr c16
      subst c16
      have H1:(beaconref15_Tell.j2 kj11 a0 l2 x10_1 x11_1 x12_1 a0 1 0 0 0) = some (r1,r2):=by rw [if_neg (show ¬ (false = true) by decide)] at H;exact H
      clear H
      have H:=H1
      clear H1
      have H':=Aside0.mk H
      clear H
      go_wp2
      go_meet
      case rel => exact ⟨_,(x10_1),(x11_1),(by first | rfl | (simp;done) | (simp [*];done)),H',⟨by have:=HK1.out;have:=HJ11.out;first | omega | exact Nat.le_refl _⟩,⟨by (with_reducible repeat (first | apply Kd.R_alloc | apply Kd.R_drewN | apply Kd.R_drew));exact HO_10.out⟩,⟨by (with_reducible repeat (first | refine blk_drewN ?_ _ | refine blk_drew ?_ | refine blk_alloc ?_ _));exact BK250.out⟩,⟨by repeat (first | (with_reducible first | exact HB.out | apply below_alloc | apply pw_below_drewN | apply below_drew1 | refine below_set ?_ GE250.out) | exact HB.out)⟩⟩
     case rest =>
      clear HC15
      obtain ⟨kq,x10_14,x11_14,rfl,HA,HJ14,HO_10,BK250,HB⟩:=hcut
      cases kq with
      | zero => exact absurd HA.out (by simp [beaconref15_Tell.j2])
      | succ kj14 =>
       have H:=HA.out
       clear HA
       simp only [beaconref15_Tell.j2] at H
       by_cases c20:0 ≤ x12_1
       rotate_left
       ·rw [if_neg c20] at H
        exact absurd H (by simp)
       rw [if_pos c20] at H
       have c20b0:decide (0 ≤ x12_1) = true:=decide_eq_true c20
       clear c20
       by_cases c21:x12_1 < (l2.length:Int)
       rotate_left
       ·rw [if_neg c21] at H
        exact absurd H (by simp)
       rw [if_pos c21] at H
       have c21b0:decide (x12_1 < (l2.length:Int)) = true:=decide_eq_true c21
       clear c21
       replace H:=Option.bind_eq_some_iff.mp H
       obtain ⟨t259,A220,H⟩:=H
       replace H:(if t259 = true then (beaconref15_Tell.l0 kj14 a0 l2 x10_14 x11_14 (wrap64 (x12_1 + 1)) a0 1 0 0 0) else (if x10_14.length < 3518437208883 then (beaconref15_Tell.l0 kj14 a0 l2 (x10_14 ++ [(⟨(rd_T58 l2 x12_1).f0,1,(rd_T58 l2 x12_1).f2,0,0⟩:S56)]) x11_14 (wrap64 (x12_1 + 1)) a0 1 0 0 0) else (none))) = some (r1,r2):=H
       have A22:=Aside0.mk A220
       clear A220
       by_cases c23:t259 = true
       ·subst c23
        have H1:(beaconref15_Tell.l0 kj14 a0 l2 x10_14 x11_14 (wrap64 (x12_1 + 1)) a0 1 0 0 0) = some (r1,r2):=by rw [if_pos rfl] at H;exact H
        clear H
        have H:=H1
        clear H1
        have H':=Aside0.mk H
        clear H
        have p258:0 ≤ (x12_1:Int):=of_decide_eq_true (by first | (with_reducible assumption) | assumption)
        have q258:x12_1 < (l2.length:Int):=of_decide_eq_true (by first | (with_reducible assumption) | assumption)
        obtain ⟨ad258,e258,hx258_0,hx258_1,hx258_2,hx258_3,hx258_4,hx258_5⟩:=at_T58 HR2.out x12_1 p258 q258
        cases e258
        replace hx258_0:=(HB.out.cell (World.block_lt_of_cell? w _ hx258_0)).trans hx258_0
        replace hx258_1:=(HB.out.cell (World.block_lt_of_cell? w _ hx258_1)).trans hx258_1
        replace hx258_2:=(HB.out.cell (World.block_lt_of_cell? w _ hx258_2)).trans hx258_2
        replace hx258_3:=(HB.out.cell (World.block_lt_of_cell? w _ hx258_3)).trans hx258_3
        replace hx258_4:=(HB.out.cell (World.block_lt_of_cell? w _ hx258_4)).trans hx258_4
        replace hx258_5:=(HB.out.cell (World.block_lt_of_cell? w _ hx258_5)).trans hx258_5
        replace p258:=eq_true p258
        replace q258:=eq_true q258
        go_wp2_with (first | ((with_reducible refine gate_callee (f:=67) rfl ?_);refine goesL_ (some 50) rfl rfl Try.func67 (by kernel_rfl) rfl #[.float .f64 ((rd_T58 l2 x12_1).f2)] rfl (by (try simp only [List.map_toArray,List.map_cons,List.map_nil]);first | done | rfl | (simp only [List.length_drop,List.length_take];rfl)) ?_;(with_reducible refine (beaconref15_Far.calls ((rd_T58 l2 x12_1).f2) true _ A22.out).mono ?_);rintro e w' ⟨rfl,⟨nd,rfl⟩⟩;refine ⟨_,rfl,?_⟩))
        go_roundg kj14
        case measure => have:=HK1.out;have:=HJ11.out;have:=HJ14.out;omega
        case rel => exact ⟨(x10_14),(x11_14),(wrap64 (x12_1 + 1)),(by first | rfl | (simp;done) | (simp [*];done)),(by first | rfl | (simp;done) | (simp [*];done)),H',⟨by have:=HK1.out;have:=HJ11.out;have:=HJ14.out;omega⟩,⟨by (with_reducible repeat (first | apply Kd.R_alloc | apply Kd.R_drewN | apply Kd.R_drew));exact HO_10.out⟩,⟨by (with_reducible repeat (first | refine blk_drewN ?_ _ | refine blk_drew ?_ | refine blk_alloc ?_ _));exact BK250.out⟩,⟨by repeat (first | (with_reducible first | exact HB.out | apply below_alloc | apply pw_below_drewN | apply below_drew1 | refine below_set ?_ GE250.out) | exact HB.out)⟩⟩
       replace c23:=Bool.eq_false_iff.mpr c23
       subst c23
       have H1:(if x10_14.length < 3518437208883 then (beaconref15_Tell.l0 kj14 a0 l2 (x10_14 ++ [(⟨(rd_T58 l2 x12_1).f0,1,(rd_T58 l2 x12_1).f2,0,0⟩:S56)]) x11_14 (wrap64 (x12_1 + 1)) a0 1 0 0 0) else (none)) = some (r1,r2):=by rw [if_neg (show ¬ (false = true) by decide)] at H;exact H
       clear H
       have H:=H1
       clear H1
       by_cases c24:x10_14.length < 3518437208883
       rotate_left
       ·rw [if_neg c24] at H
        exact absurd H (by simp)
       rw [if_pos c24] at H
       have LMc24:=Aside0.mk c24
       clear c24
       obtain ⟨y262,hy262⟩:∃ y_:List (S56),y_ = (x10_14 ++ [(⟨(rd_T58 l2 x12_1).f0,1,(rd_T58 l2 x12_1).f2,0,0⟩:S56)]):=⟨_,rfl⟩
       replace H:(beaconref15_Tell.l0 kj14 a0 l2 y262 x11_14 (wrap64 (x12_1 + 1)) a0 1 0 0 0) = some (r1,r2):=by first | (rw [hy262];with_reducible exact H) | (have H2_:=(Option.bind_some _ _).symm.trans H;rw [hy262];with_reducible exact H2_) | (have H2_:=(Option.bind_some _ _).symm.trans H;with_reducible exact H2_) | with_reducible exact H | (rw [hy262];exact H) | exact H
       have Ny262:=Aside0.mk hy262
       clear hy262
       have H':=Aside0.mk H
       clear H
       have p258:0 ≤ (x12_1:Int):=of_decide_eq_true (by first | (with_reducible assumption) | assumption)
       have q258:x12_1 < (l2.length:Int):=of_decide_eq_true (by first | (with_reducible assumption) | assumption)
       obtain ⟨ad258,e258,hx258_0,hx258_1,hx258_2,hx258_3,hx258_4,hx258_5⟩:=at_T58 HR2.out x12_1 p258 q258
       cases e258
       replace hx258_0:=(HB.out.cell (World.block_lt_of_cell? w _ hx258_0)).trans hx258_0
       replace hx258_1:=(HB.out.cell (World.block_lt_of_cell? w _ hx258_1)).trans hx258_1
       replace hx258_2:=(HB.out.cell (World.block_lt_of_cell? w _ hx258_2)).trans hx258_2
       replace hx258_3:=(HB.out.cell (World.block_lt_of_cell? w _ hx258_3)).trans hx258_3
       replace hx258_4:=(HB.out.cell (World.block_lt_of_cell? w _ hx258_4)).trans hx258_4
       replace hx258_5:=(HB.out.cell (World.block_lt_of_cell? w _ hx258_5)).trans hx258_5
       replace p258:=eq_true p258
       replace q258:=eq_true q258
       try go_wp2_with (first | ((with_reducible refine gate_callee (f:=67) rfl ?_);refine goesL_ (some 50) rfl rfl Try.func67 (by kernel_rfl) rfl #[.float .f64 ((rd_T58 l2 x12_1).f2)] rfl (by (try simp only [List.map_toArray,List.map_cons,List.map_nil]);first | done | rfl | (simp only [List.length_drop,List.length_take];rfl)) ?_;(with_reducible refine (beaconref15_Far.calls ((rd_T58 l2 x12_1).f2) false _ A22.out).mono ?_);rintro e w' ⟨rfl,⟨nd,rfl⟩⟩;refine ⟨_,rfl,?_⟩))
       (try (rw [drewN_self wc];generalize hq_:World.drewN wc _ = wc;have n0_:Aside0 (Kd.R k56 56 wc w.heap.size (fun k_ => k_ ≠ gb250) u10 x10_14):=⟨by rw [← hq_];exact (by (with_reducible repeat (first | apply Kd.R_alloc | apply Kd.R_drewN | apply Kd.R_drew));exact HO_10.out)⟩;have n1_:Aside0 (wc.heap[gb250]? = some (.cells #[.int .i64 a0,.int .i64 1,.float .f64 0,.float .f64 0,.int .i64 0] 56 (0,0))):=⟨by rw [← hq_];exact (by (with_reducible repeat (first | refine blk_drewN ?_ _ | refine blk_drew ?_ | refine blk_alloc ?_ _));exact BK250.out)⟩;have n2_:Aside0 (Below w.heap.size w wc):=⟨by rw [← hq_];exact (by repeat (first | (with_reducible first | exact HB.out | apply below_alloc | apply pw_below_drewN | apply below_drew1 | refine below_set ?_ GE250.out) | exact HB.out))⟩;clear HO_10 BK250 HB hq_;have HO_10:=n0_;have BK250:=n1_;have HB:=n2_;clear n0_ n1_ n2_))
       have n0_:=Aside0.mk (Kd.R_drew HO_10.out)
       have n1_:=Aside0.mk (blk_drew BK250.out)
       have n2_:=Aside0.mk (below_drew1 HB.out)
       clear HO_10
       clear BK250
       clear HB
       have HO_10:=n0_
       have BK250:=n1_
       have HB:=n2_
       clear n0_ n1_ n2_
       have p260:0 ≤ (x12_1:Int):=of_decide_eq_true (by first | (with_reducible assumption) | assumption)
       have q260:x12_1 < (l2.length:Int):=of_decide_eq_true (by first | (with_reducible assumption) | assumption)
       obtain ⟨ad260,e260,hx260_0,hx260_1,hx260_2,hx260_3,hx260_4,hx260_5⟩:=at_T58 HR2.out x12_1 p260 q260
       have hw260_5:=hx260_5
       have hw260_4:=hx260_4
       have hw260_3:=hx260_3
       have hw260_2:=hx260_2
       have hw260_1:=hx260_1
       have hw260_0:=hx260_0
       obtain rfl:ad258 = ad260:=(by injection e260)
       replace hx260_0:=(HB.out.cell (World.block_lt_of_cell? w _ hx260_0)).trans hx260_0
       replace hx260_1:=(HB.out.cell (World.block_lt_of_cell? w _ hx260_1)).trans hx260_1
       replace hx260_2:=(HB.out.cell (World.block_lt_of_cell? w _ hx260_2)).trans hx260_2
       replace hx260_3:=(HB.out.cell (World.block_lt_of_cell? w _ hx260_3)).trans hx260_3
       replace hx260_4:=(HB.out.cell (World.block_lt_of_cell? w _ hx260_4)).trans hx260_4
       replace hx260_5:=(HB.out.cell (World.block_lt_of_cell? w _ hx260_5)).trans hx260_5
       replace p260:=eq_true p260
       replace q260:=eq_true q260
       have p261:0 ≤ (x12_1:Int):=of_decide_eq_true (by first | (with_reducible assumption) | assumption)
       have q261:x12_1 < (l2.length:Int):=of_decide_eq_true (by first | (with_reducible assumption) | assumption)
       obtain ⟨ad261,e261,hx261_0,hx261_1,hx261_2,hx261_3,hx261_4,hx261_5⟩:=at_T58 HR2.out x12_1 p261 q261
       have hw261_5:=hx261_5
       have hw261_4:=hx261_4
       have hw261_3:=hx261_3
       have hw261_2:=hx261_2
       have hw261_1:=hx261_1
       have hw261_0:=hx261_0
       obtain rfl:ad258 = ad261:=(by injection e261)
       replace hx261_0:=(HB.out.cell (World.block_lt_of_cell? w _ hx261_0)).trans hx261_0
       replace hx261_1:=(HB.out.cell (World.block_lt_of_cell? w _ hx261_1)).trans hx261_1
       replace hx261_2:=(HB.out.cell (World.block_lt_of_cell? w _ hx261_2)).trans hx261_2
       replace hx261_3:=(HB.out.cell (World.block_lt_of_cell? w _ hx261_3)).trans hx261_3
       replace hx261_4:=(HB.out.cell (World.block_lt_of_cell? w _ hx261_4)).trans hx261_4
       replace hx261_5:=(HB.out.cell (World.block_lt_of_cell? w _ hx261_5)).trans hx261_5
       replace p261:=eq_true p261
       replace q261:=eq_true q261
       refine start_ (n:=15) (S:=fun w' => w'.cell? (ad258.add ((x12_1).toNat * 6)) = some (.int .i64 ((rd_T58 l2 x12_1).f0)) ∧ w'.cell? ⟨(ad258.add ((x12_1).toNat * 6)).block,(ad258.add ((x12_1).toNat * 6)).off + 1,none⟩ = some (.int .i64 ((rd_T58 l2 x12_1).f1)) ∧ w'.cell? ⟨(ad258.add ((x12_1).toNat * 6)).block,(ad258.add ((x12_1).toNat * 6)).off + 2,none⟩ = some (.float .f64 ((rd_T58 l2 x12_1).f2)) ∧ w'.cell? ⟨(ad258.add ((x12_1).toNat * 6)).block,(ad258.add ((x12_1).toNat * 6)).off + 3,none⟩ = some (.int .i64 ((rd_T58 l2 x12_1).f3)) ∧ w'.cell? ⟨(ad258.add ((x12_1).toNat * 6)).block,(ad258.add ((x12_1).toNat * 6)).off + 4,none⟩ = some (.float .f64 ((rd_T58 l2 x12_1).f4)) ∧ w'.cell? ⟨(ad258.add ((x12_1).toNat * 6)).block,(ad258.add ((x12_1).toNat * 6)).off + 5,none⟩ = some (.int .i64 ((rd_T58 l2 x12_1).f5)) ∧ w'.cell? (ad258.add ((x12_1).toNat * 6)) = some (.int .i64 ((rd_T58 l2 x12_1).f0)) ∧ w'.cell? ⟨(ad258.add ((x12_1).toNat * 6)).block,(ad258.add ((x12_1).toNat * 6)).off + 1,none⟩ = some (.int .i64 ((rd_T58 l2 x12_1).f1)) ∧ w'.cell? ⟨(ad258.add ((x12_1).toNat * 6)).block,(ad258.add ((x12_1).toNat * 6)).off + 2,none⟩ = some (.float .f64 ((rd_T58 l2 x12_1).f2)) ∧ w'.cell? ⟨(ad258.add ((x12_1).toNat * 6)).block,(ad258.add ((x12_1).toNat * 6)).off + 3,none⟩ = some (.int .i64 ((rd_T58 l2 x12_1).f3)) ∧ w'.cell? ⟨(ad258.add ((x12_1).toNat * 6)).block,(ad258.add ((x12_1).toNat * 6)).off + 4,none⟩ = some (.float .f64 ((rd_T58 l2 x12_1).f4)) ∧ w'.cell? ⟨(ad258.add ((x12_1).toNat * 6)).block,(ad258.add ((x12_1).toNat * 6)).off + 5,none⟩ = some (.int .i64 ((rd_T58 l2 x12_1).f5))) (ds:=[]) #[false,false,false,false,false,false,false,false,false,false,false,false,false,false,false] (by kernel_rfl) rfl rfl ⟨((HB.out.cell (World.block_lt_of_cell? w _ hw260_0)).trans hw260_0),((HB.out.cell (World.block_lt_of_cell? w _ hw260_1)).trans hw260_1),((HB.out.cell (World.block_lt_of_cell? w _ hw260_2)).trans hw260_2),((HB.out.cell (World.block_lt_of_cell? w _ hw260_3)).trans hw260_3),((HB.out.cell (World.block_lt_of_cell? w _ hw260_4)).trans hw260_4),((HB.out.cell (World.block_lt_of_cell? w _ hw260_5)).trans hw260_5),((HB.out.cell (World.block_lt_of_cell? w _ hw261_0)).trans hw261_0),((HB.out.cell (World.block_lt_of_cell? w _ hw261_1)).trans hw261_1),((HB.out.cell (World.block_lt_of_cell? w _ hw261_2)).trans hw261_2),((HB.out.cell (World.block_lt_of_cell? w _ hw261_3)).trans hw261_3),((HB.out.cell (World.block_lt_of_cell? w _ hw261_4)).trans hw261_4),((HB.out.cell (World.block_lt_of_cell? w _ hw261_5)).trans hw261_5)⟩ (fun hHeld => ?_);refine with_tabW beaconref15_Tell.tab13 beaconref15_Tell.bits13 (fun HT_ HW_ => ?_)
       generalize wc.drew = w25 at HO_10 BK250 HB hx260_0 hx260_1 hx260_2 hx260_3 hx260_4 hx260_5 hx261_0 hx261_1 hx261_2 hx261_3 hx261_4 hx261_5 hHeld ⊢
       refine manyW_ (fuel:=3) (a':=?_) ((0,0) :: (1,0) :: (2,0) :: (3,0) :: (4,0) :: (6,0) :: (7,0) :: (8,0) :: (9,0) :: (5,2) :: (10,2) :: (11,0) :: []) #[true,true,true,true,true,true,true,true,true,true,true,true,false,false,false] rfl HT_ HW_ (by kernel_rfl) (fun _ _ _ _ _ h => h) (fun _ => hHeld) ?_ ?_
       rotate_left
       ·repeat (first | exact Chain.nil _ | (apply Chain.on;rfl;rfl;(focus intro w';go_simp;with_reducible rfl);(focus simp only [Act.put,List.setIfInBounds_toArray,List.set_cons_zero,List.set_cons_succ,i64_w,i32_w];rfl)) | (apply Chain.take;rfl;rfl;(focus rintro w' ⟨s0,s1,s2,s3,s4,s5,s6,s7,s8,s9,s10,s11⟩;go_simp;with_reducible rfl);(focus simp only [Act.put,List.setIfInBounds_toArray,List.set_cons_zero,List.set_cons_succ,i64_w,i32_w];rfl)))
       refine one_ (i:=12) (N:=some 64) #[true,true,true,true,true,true,true,true,true,true,true,true,true,false,false] rfl rfl (one_of HT_.out (by kernel_rfl)) (by decide) (fun K hK => ?_)
       refine value_ (w1:=?_) (v:=?_) (by rfl) rfl ?_ ?_
       rotate_left 2
       ·go_simp
        constructor
        ·rfl
        rfl
       refine hK.out _ _ ⟨(World.cell?_alloc_lt _ _ _ (World.block_lt_of_cell? _ _ (((HB.out.cell (World.block_lt_of_cell? w _ hw260_0)).trans hw260_0)))).trans (((HB.out.cell (World.block_lt_of_cell? w _ hw260_0)).trans hw260_0)),(World.cell?_alloc_lt _ _ _ (World.block_lt_of_cell? _ _ (((HB.out.cell (World.block_lt_of_cell? w _ hw260_1)).trans hw260_1)))).trans (((HB.out.cell (World.block_lt_of_cell? w _ hw260_1)).trans hw260_1)),(World.cell?_alloc_lt _ _ _ (World.block_lt_of_cell? _ _ (((HB.out.cell (World.block_lt_of_cell? w _ hw260_2)).trans hw260_2)))).trans (((HB.out.cell (World.block_lt_of_cell? w _ hw260_2)).trans hw260_2)),(World.cell?_alloc_lt _ _ _ (World.block_lt_of_cell? _ _ (((HB.out.cell (World.block_lt_of_cell? w _ hw260_3)).trans hw260_3)))).trans (((HB.out.cell (World.block_lt_of_cell? w _ hw260_3)).trans hw260_3)),(World.cell?_alloc_lt _ _ _ (World.block_lt_of_cell? _ _ (((HB.out.cell (World.block_lt_of_cell? w _ hw260_4)).trans hw260_4)))).trans (((HB.out.cell (World.block_lt_of_cell? w _ hw260_4)).trans hw260_4)),(World.cell?_alloc_lt _ _ _ (World.block_lt_of_cell? _ _ (((HB.out.cell (World.block_lt_of_cell? w _ hw260_5)).trans hw260_5)))).trans (((HB.out.cell (World.block_lt_of_cell? w _ hw260_5)).trans hw260_5)),(World.cell?_alloc_lt _ _ _ (World.block_lt_of_cell? _ _ (((HB.out.cell (World.block_lt_of_cell? w _ hw261_0)).trans hw261_0)))).trans (((HB.out.cell (World.block_lt_of_cell? w _ hw261_0)).trans hw261_0)),(World.cell?_alloc_lt _ _ _ (World.block_lt_of_cell? _ _ (((HB.out.cell (World.block_lt_of_cell? w _ hw261_1)).trans hw261_1)))).trans (((HB.out.cell (World.block_lt_of_cell? w _ hw261_1)).trans hw261_1)),(World.cell?_alloc_lt _ _ _ (World.block_lt_of_cell? _ _ (((HB.out.cell (World.block_lt_of_cell? w _ hw261_2)).trans hw261_2)))).trans (((HB.out.cell (World.block_lt_of_cell? w _ hw261_2)).trans hw261_2)),(World.cell?_alloc_lt _ _ _ (World.block_lt_of_cell? _ _ (((HB.out.cell (World.block_lt_of_cell? w _ hw261_3)).trans hw261_3)))).trans (((HB.out.cell (World.block_lt_of_cell? w _ hw261_3)).trans hw261_3)),(World.cell?_alloc_lt _ _ _ (World.block_lt_of_cell? _ _ (((HB.out.cell (World.block_lt_of_cell? w _ hw261_4)).trans hw261_4)))).trans (((HB.out.cell (World.block_lt_of_cell? w _ hw261_4)).trans hw261_4)),(World.cell?_alloc_lt _ _ _ (World.block_lt_of_cell? _ _ (((HB.out.cell (World.block_lt_of_cell? w _ hw261_5)).trans hw261_5)))).trans (((HB.out.cell (World.block_lt_of_cell? w _ hw261_5)).trans hw261_5))⟩ (fun hHeld => ?_)
       clear hK K
       refine norm_ (a':=?_) ?_ ?_
       rotate_left
       ·show Act.put _ (some 64) _ = _
        simp only [Act.put,List.setIfInBounds_toArray,List.set_cons_zero,List.set_cons_succ,i64_w,i32_w]
        rfl
       refine one_ (i:=13) (N:=some 65) #[true,true,true,true,true,true,true,true,true,true,true,true,true,true,false] rfl rfl (one_of HT_.out (by kernel_rfl)) (by decide) (fun K hK => ?_)
       refine Kd.R_append_step k56 (w0:=w) w.heap.size (by rfl) (.tmp 52) (.tmp 64) 35 56 (.agg #[(.int .i64 0),(.int .i64 0),(.float .f64 0),(.float .f64 0),(.int .i64 0)]) 40 rfl Try.underlying35 info56 rfl (by decide) (by omega) u10 x10_14 (⟨(rd_T58 l2 x12_1).f0,1,(rd_T58 l2 x12_1).f2,0,0⟩:S56) [.int .i64 ((rd_T58 l2 x12_1).f0),.int .i64 1,.float .f64 ((rd_T58 l2 x12_1).f2),.float .f64 0,.int .i64 0] (fun k_ => k_ ≠ gb250) (fun _ => False) rfl rfl ?aP (fun _ hk => hk.elim) ?aF ?aO ?aB ?aS ?aL ?_
       (case aP => exact k56_mkM _ _ _ (⟨(rd_T58 l2 x12_1).f0,1,(rd_T58 l2 x12_1).f2,0,0⟩:S56))
       (case aB => exact (by repeat (first | (with_reducible first | exact HB.out | apply below_alloc | apply pw_below_drewN | apply below_drew1 | refine below_set ?_ GE250.out) | exact HB.out)))
       (case aF => exact (fun k_ hk => Kd.freshB (g:=gb250) (o:=.cells #[.int .i64 a0,.int .i64 1,.float .f64 0,.float .f64 0,.int .i64 0] 56 (0,0)) (by (with_reducible repeat (first | refine blk_drewN ?_ _ | refine blk_drew ?_ | refine blk_alloc ?_ _));exact BK250.out) k_ hk))
       (case aO => exact (by (with_reducible repeat (first | apply Kd.R_alloc | apply Kd.R_drewN | apply Kd.R_drew));exact HO_10.out))
       (case aS => exact (below_size (by repeat (first | (with_reducible first | exact HB.out | apply below_alloc | apply pw_below_drewN | apply below_drew1 | refine below_set ?_ GE250.out) | exact HB.out))))
       (case aL => have:=LMc24.out;omega)
       intro v263 w26 ho hb hg hat
       rw [← Ny262.out] at ho
       have n0_:=Aside0.mk (blk_grown (g:=gb250) (o:=.cells #[.int .i64 a0,.int .i64 1,.float .f64 0,.float .f64 0,.int .i64 0] 56 (0,0)) (by (with_reducible repeat (first | refine blk_drewN ?_ _ | refine blk_drew ?_ | refine blk_alloc ?_ _));exact BK250.out) hg (Kd.R_away HO_10.out (fun _ hk => hk)))
       have n1_:=Aside0.mk (hb)
       have n2_:=Aside0.mk (ho)
       clear BK250
       clear HB
       clear HO_10
       have BK250:=n0_
       have HB:=n1_
       have HO264:=n2_
       clear n0_ n1_ n2_
       clear ho hb hg hat
       refine hK.out _ _ ⟨((HB.out.cell (World.block_lt_of_cell? w _ hw260_0)).trans hw260_0),((HB.out.cell (World.block_lt_of_cell? w _ hw260_1)).trans hw260_1),((HB.out.cell (World.block_lt_of_cell? w _ hw260_2)).trans hw260_2),((HB.out.cell (World.block_lt_of_cell? w _ hw260_3)).trans hw260_3),((HB.out.cell (World.block_lt_of_cell? w _ hw260_4)).trans hw260_4),((HB.out.cell (World.block_lt_of_cell? w _ hw260_5)).trans hw260_5),((HB.out.cell (World.block_lt_of_cell? w _ hw261_0)).trans hw261_0),((HB.out.cell (World.block_lt_of_cell? w _ hw261_1)).trans hw261_1),((HB.out.cell (World.block_lt_of_cell? w _ hw261_2)).trans hw261_2),((HB.out.cell (World.block_lt_of_cell? w _ hw261_3)).trans hw261_3),((HB.out.cell (World.block_lt_of_cell? w _ hw261_4)).trans hw261_4),((HB.out.cell (World.block_lt_of_cell? w _ hw261_5)).trans hw261_5)⟩ (fun hHeld => ?_)
       clear hK K
       refine norm_ (a':=?_) ?_ ?_
       rotate_left
       ·show Act.put _ (some 65) _ = _
        simp only [Act.put,List.setIfInBounds_toArray,List.set_cons_zero,List.set_cons_succ,i64_w,i32_w]
        rfl
       refine manyT_ (fuel:=0) (a':=?_) ((14,0) :: []) #[true,true,true,true,true,true,true,true,true,true,true,true,true,true,true] rfl HT_ (by kernel_rfl) (fun _ _ _ _ _ h => h) (fun h => absurd h (by decide)) ?_ ?_
       rotate_left
       ·repeat (first | exact Chain.nil _ | (apply Chain.on;rfl;rfl;(focus intro w';go_simp;with_reducible rfl);(focus simp only [Act.put,List.setIfInBounds_toArray,List.set_cons_zero,List.set_cons_succ,i64_w,i32_w];rfl)))
       refine done_ (done_of HT_.out (by kernel_rfl)) ?_
       try go_wp2
       go_roundg kj14
       case measure => have:=HK1.out;have:=HJ11.out;have:=HJ14.out;omega
       case rel => exact ⟨(y262),(x11_14),(wrap64 (x12_1 + 1)),(by first | rfl | (simp;done) | (simp [*];done)),(by first | rfl | (simp;done) | (simp [*];done)),H',⟨by have:=HK1.out;have:=HJ11.out;have:=HJ14.out;omega⟩,⟨by (with_reducible repeat (first | apply Kd.R_alloc | apply Kd.R_drewN | apply Kd.R_drew));exact HO264.out⟩,⟨by (with_reducible repeat (first | refine blk_drewN ?_ _ | refine blk_drew ?_ | refine blk_alloc ?_ _));exact BK250.out⟩,⟨by repeat (first | (with_reducible first | exact HB.out | apply below_alloc | apply pw_below_drewN | apply below_drew1 | refine below_set ?_ GE250.out) | exact HB.out)⟩⟩
def beaconref15_Entries.l0:Nat → List (S58) → List (S58) → Int → Option ((List (S58)))
 | 0,_,_,_ => none
 | k + 1,x0,x3,x4 => if x4 < (x0.length:Int) then (if 0 ≤ x4 then (if x3.length < 2932031007402 then (beaconref15_Entries.l0 k x0 (x3 ++ [(⟨(rd_T58 x0 x4).f0,(rd_T58 x0 x4).f1,(rd_T58 x0 x4).f2,(rd_T58 x0 x4).f3,(rd_T58 x0 x4).f4,(rd_T58 x0 x4).f5⟩:S58)]) (wrap64 (x4 + 1))) else (none)) else (none)) else (some x3)
def beaconref15_Entries.f (k:Nat) (l0:List (S58)):Option ((List (S58))):=beaconref15_Entries.l0 k l0 (([]:List (S58))) 0
set_option maxHeartbeats 8000000 in
set_option maxRecDepth 100000 in
theorem beaconref15_Entries.calls (k:Nat) (A0:Option Addr) (c0:Nat) (l0:List (S58)) (r:List (S58)) (w:World) (hr0:Kd.C k58 w A0 l0.length l0) (hc0:l0.length ≤ c0) (h:beaconref15_Entries.f k l0 = some r) :
  Calls Try.prog 27 #[.slice A0 l0.length c0] w fun e w' => ∃ v0_:Value,e = .returned (v0_) ∧ Kd.R k58 58 w' w.heap.size (fun _ => True) v0_ r ∧ Below w.heap.size w w':=by
 have hu58:=Try.underlying58
 have HR0:=Aside0.mk hr0
 have HC0:=Aside0.mk hc0
 clear hr0 hc0
 have HB:=Aside0.mk (Below.refl w.heap.size w)
 have H:(beaconref15_Entries.l0 k l0 (([]:List (S58))) 0) = some r:=h
 clear h
 obtain ⟨y268,hy268⟩:∃ y_:List (S58),y_ = (([]:List (S58))):=⟨_,rfl⟩
 replace H:(beaconref15_Entries.l0 k l0 y268 0) = some r:=by first | (rw [hy268];with_reducible exact H) | (have H2_:=(Option.bind_some _ _).symm.trans H;rw [hy268];with_reducible exact H2_) | (have H2_:=(Option.bind_some _ _).symm.trans H;with_reducible exact H2_) | with_reducible exact H | (rw [hy268];exact H) | exact H
 have Ny268:=Aside0.mk hy268
 clear hy268
 have H':=Aside0.mk H
 clear H
 go_enter Try.func27,Try.ntmps27
 go_wp2_with (first | ((with_reducible refine gate_dst (N:=5) rfl ?_);refine Kd.R_lit k58 _ 58 ?hg (N:=5) ?hd (xs:=([]:List (S58))) (inner:=[]) (ok:=fun _ => True) (okp:=fun _ => True) ?hr ?hp (fun _ hk => hk) trivial (Below.refl _ _) (Nat.le_refl _) (by simp) ?_;(case hd => rfl);(case hg => rfl);(case hr => first | (go_simp;done) | (go_simp;rfl));(case hp => exact (Reps.none _ _));intro v269 w2 ho3 hb hg_ hnew_;clear hg_ hnew_;(first | rw [← Ny268.out] at ho3 | (simp only [Int.reduceToNat] at ho3;rw [← Ny268.out] at ho3));have n0_:=Aside0.mk (Kd.R_lower ho3 (below_size (by repeat (first | (with_reducible first | exact HB.out | apply below_alloc | apply pw_below_drewN | apply below_drew1) | exact HB.out))));have n1_:=Aside0.mk (below_step (by repeat (first | (with_reducible first | exact HB.out | apply below_alloc | apply pw_below_drewN | apply below_drew1) | exact HB.out)) hb);clear HB;have HO270:=n0_;have HB:=n1_;clear n0_ n1_;clear hb ho3))
 go_loopg [3,4] k (fun kq v3 v4 w' => ∃ (x3_1:List (S58)) (x4_1:Int),v4 = .int .i64 x4_1 ∧ Aside0 (beaconref15_Entries.l0 kq l0 x3_1 x4_1 = some r) ∧ Aside0 (kq ≤ k) ∧ Aside0 (Kd.R k58 58 w' w.heap.size (fun _ => True) v3 x3_1) ∧ Aside0 (Below w.heap.size w w'))
 case atStart => exact ⟨(y268),(0),(by first | rfl | (simp;done) | (simp [*];done)),H',⟨Nat.le_refl _⟩,⟨by (with_reducible repeat (first | apply Kd.R_alloc | apply Kd.R_drewN | apply Kd.R_drew));exact HO270.out⟩,⟨by repeat (first | (with_reducible first | exact HB.out | apply below_alloc | apply pw_below_drewN | apply below_drew1) | exact HB.out)⟩⟩
 case round =>
  clear H'
  obtain ⟨x3_1,x4_1,rfl,HA,HK1,HO_3,HB⟩:=hrel
  cases gk with
  | zero => exact absurd HA.out (by simp [beaconref15_Entries.l0])
  | succ k1 =>
   have H:=HA.out
   clear HA
   simp only [beaconref15_Entries.l0] at H
   by_cases c4:x4_1 < (l0.length:Int)
   rotate_left
   ·rw [if_neg c4] at H
    have c4b0:decide (x4_1 < (l0.length:Int)) = false:=decide_eq_false c4
    clear c4
    obtain rfl:=Option.some.inj H
    go_wp2
    go_ret
    exact ⟨_,by first | rfl | (simp [errW_none,errW_some] <;> rfl) | (simp [*,errW_none,errW_some] <;> rfl),by (with_reducible repeat (first | apply Kd.R_alloc | apply Kd.R_drewN | apply Kd.R_drew));exact HO_3.out,by repeat (first | (with_reducible first | exact HB.out | apply below_alloc | apply pw_below_drewN | apply below_drew1) | exact HB.out)⟩
   rw [if_pos c4] at H
   have c4b0:decide (x4_1 < (l0.length:Int)) = true:=decide_eq_true c4
   clear c4
   by_cases c5:0 ≤ x4_1
   rotate_left
   ·rw [if_neg c5] at H
    exact absurd H (by simp)
   rw [if_pos c5] at H
   have c5b0:decide (0 ≤ x4_1) = true:=decide_eq_true c5
   clear c5
   by_cases c6:x3_1.length < 2932031007402
   rotate_left
   ·rw [if_neg c6] at H
    exact absurd H (by simp)
   rw [if_pos c6] at H
   have LMc6:=Aside0.mk c6
   clear c6
   obtain ⟨y272,hy272⟩:∃ y_:List (S58),y_ = (x3_1 ++ [(⟨(rd_T58 l0 x4_1).f0,(rd_T58 l0 x4_1).f1,(rd_T58 l0 x4_1).f2,(rd_T58 l0 x4_1).f3,(rd_T58 l0 x4_1).f4,(rd_T58 l0 x4_1).f5⟩:S58)]):=⟨_,rfl⟩
   replace H:(beaconref15_Entries.l0 k1 l0 y272 (wrap64 (x4_1 + 1))) = some r:=by first | (rw [hy272];with_reducible exact H) | (have H2_:=(Option.bind_some _ _).symm.trans H;rw [hy272];with_reducible exact H2_) | (have H2_:=(Option.bind_some _ _).symm.trans H;with_reducible exact H2_) | with_reducible exact H | (rw [hy272];exact H) | exact H
   have Ny272:=Aside0.mk hy272
   clear hy272
   have H':=Aside0.mk H
   clear H
   have p271:0 ≤ (x4_1:Int):=of_decide_eq_true (by first | (with_reducible assumption) | assumption)
   have q271:x4_1 < (l0.length:Int):=of_decide_eq_true (by first | (with_reducible assumption) | assumption)
   obtain ⟨ad271,e271,hx271_0,hx271_1,hx271_2,hx271_3,hx271_4,hx271_5⟩:=at_T58 HR0.out x4_1 p271 q271
   cases e271
   replace hx271_0:=(HB.out.cell (World.block_lt_of_cell? w _ hx271_0)).trans hx271_0
   replace hx271_1:=(HB.out.cell (World.block_lt_of_cell? w _ hx271_1)).trans hx271_1
   replace hx271_2:=(HB.out.cell (World.block_lt_of_cell? w _ hx271_2)).trans hx271_2
   replace hx271_3:=(HB.out.cell (World.block_lt_of_cell? w _ hx271_3)).trans hx271_3
   replace hx271_4:=(HB.out.cell (World.block_lt_of_cell? w _ hx271_4)).trans hx271_4
   replace hx271_5:=(HB.out.cell (World.block_lt_of_cell? w _ hx271_5)).trans hx271_5
   replace p271:=eq_true p271
   replace q271:=eq_true q271
   go_wp2_with (first | ((with_reducible refine gate_builtin (b:=.append) (xs:=#[.tmp 12,.tmp 17]) rfl ?_);at_builtin;refine Kd.R_append k58 (w0:=w) w.heap.size rfl (.tmp 12) (.tmp 17) 24 58 (.agg #[(.int .i64 0),(.int .i64 0),(.float .f64 0),(.int .i64 0),(.float .f64 0),(.int .i64 0)]) 48 rfl Try.underlying24 info58 rfl (by decide) (by omega) u3 x3_1 (⟨(rd_T58 l0 x4_1).f0,(rd_T58 l0 x4_1).f1,(rd_T58 l0 x4_1).f2,(rd_T58 l0 x4_1).f3,(rd_T58 l0 x4_1).f4,(rd_T58 l0 x4_1).f5⟩:S58) [.int .i64 ((rd_T58 l0 x4_1).f0),.int .i64 ((rd_T58 l0 x4_1).f1),.float .f64 ((rd_T58 l0 x4_1).f2),.int .i64 ((rd_T58 l0 x4_1).f3),.float .f64 ((rd_T58 l0 x4_1).f4),.int .i64 ((rd_T58 l0 x4_1).f5)] (fun _ => True) (fun _ => False) rfl rfl ?aP (fun _ hk => hk.elim) ?aF ?aO ?aB ?aS ?aL ?_;(case aP => exact k58_mkM _ _ _ (⟨(rd_T58 l0 x4_1).f0,(rd_T58 l0 x4_1).f1,(rd_T58 l0 x4_1).f2,(rd_T58 l0 x4_1).f3,(rd_T58 l0 x4_1).f4,(rd_T58 l0 x4_1).f5⟩:S58));(case aB => exact (by repeat (first | (with_reducible first | exact HB.out | apply below_alloc | apply pw_below_drewN | apply below_drew1) | exact HB.out)));(case aF => exact (fun _ _ => trivial));(case aO => exact (by (with_reducible repeat (first | apply Kd.R_alloc | apply Kd.R_drewN | apply Kd.R_drew));exact HO_3.out));(case aS => exact (below_size (by repeat (first | (with_reducible first | exact HB.out | apply below_alloc | apply pw_below_drewN | apply below_drew1) | exact HB.out))));(case aL => have:=LMc6.out;omega);intro v273 w7 ho hb hg hat;rw [← Ny272.out] at ho;have n0_:=Aside0.mk (hb);have n1_:=Aside0.mk (ho);clear HB;clear HO_3;have HB:=n0_;have HO274:=n1_;clear n0_ n1_;clear ho hb hg hat))
   go_roundg k1
   case measure => have:=HK1.out;omega
   case rel => exact ⟨(y272),(wrap64 (x4_1 + 1)),(by first | rfl | (simp;done) | (simp [*];done)),H',⟨by have:=HK1.out;omega⟩,⟨by (with_reducible repeat (first | apply Kd.R_alloc | apply Kd.R_drewN | apply Kd.R_drew));exact HO274.out⟩,⟨by repeat (first | (with_reducible first | exact HB.out | apply below_alloc | apply pw_below_drewN | apply below_drew1) | exact HB.out)⟩⟩
end Go.Proofs.Ytjcnmpkaiopihaa.PA
