/- Printed by a program of this session (wip/tools/patch_print.py and pr.py, over the kit's print): each Go function as a plain Lean function, and that the Go code comes to just its answers. Conditions: those that each theorem names. -/
import Derived.Test.YtjcnmpkaiopihaaZhMn
import Derived.Test.YtjcnmpkaiopihaaZhPAx0
import Derived.Test.YtjcnmpkaiopihaaZhPAx13
namespace Go.Proofs.Ytjcnmpkaiopihaa.PA
open Go.RowKit Go.Proofs.YtjcnmpkaiopihaaW.PrintWords Go.Proofs.YtjcnmpkaiopihaaW.PrintLast Go.Proofs.YtjcnmpkaiopihaaW.PrintMore
attribute [local go_sem] max2_int min2_int max_two min_two max_three min_three max_four min_four
set_option linter.unusedVariables false
set_option linter.unusedSimpArgs false
mutual
def beaconref09_SameHomes.l0:Nat → List (S34) → List (S34) → Int → Option (Bool)
 | 0,_,_,_ => none
 | k + 1,x0,x1,x5 => if x5 < (x0.length:Int) then (if 0 ≤ x5 then (if x5 < (x1.length:Int) then (if ((rd_T34 x0 x5).f0) = ((rd_T34 x1 x5).f0) then (if ((rd_T34 x0 x5).f1) = ((rd_T34 x1 x5).f1) then ((beaconref01_Same.f ((rd_T34 x0 x5).f2) ((rd_T34 x1 x5).f2)).bind fun t306 => (beaconref09_SameHomes.j1 k x0 x1 x5 (!t306))) else (beaconref09_SameHomes.j1 k x0 x1 x5 true)) else (beaconref09_SameHomes.j1 k x0 x1 x5 true)) else (none)) else (none)) else (some true)
def beaconref09_SameHomes.j1:Nat → List (S34) → List (S34) → Int → Bool → Option (Bool)
 | 0,_,_,_,_ => none
 | k + 1,x0,x1,x5,x54 => if x54 = true then (some false) else (beaconref09_SameHomes.l0 k x0 x1 (wrap64 (x5 + 1)))
end
def beaconref09_SameHomes.f (k:Nat) (l0:List (S34)) (l1:List (S34)):Option (Bool):=if (l0.length:Int) = (l1.length:Int) then (beaconref09_SameHomes.l0 k l0 l1 0) else (some false)
def beaconref09_SameHomes.T6:Bool × List (List Nat × List Nat):=(true,[([],[]),([],[]),([0,1],[0,1]),([2],[2]),([3],[3]),([],[]),([],[]),([5,6],[5,6]),([7],[7]),([8],[8]),([4,9],[4,9]),([10],[10]),([11],[11]),([11],[11]),([12,13,11],[11,12,13]),([14,11],[11,14]),([15,11],[11,15]),([11],[11]),([11],[11]),([17,18,11],[11,17,18]),([19,11],[11,19]),([20,11],[11,20]),([16,21,11],[11,16,21]),([11,22],[11,22]),([23,11],[23]),([24],[24]),([24],[24]),([25,26,24],[24,25,26]),([27,24],[24,27]),([28,24],[24,28]),([24],[24]),([24],[24]),([30,31,24],[24,30,31]),([32,24],[24,32]),([33,24],[24,33]),([29,34,24,24],[24,29,34]),([35,24],[24,35]),([24,36],[24,36])])
def beaconref09_SameHomes.B6:List Nat:=[0,0,3,7,15,0,0,96,224,480,1023,2047,4095,4095,16383,32767,65535,4095,4095,397311,921599,1970175,4194303,8388607,16777215,33554431,33554431,134217727,268435455,536870911,33554431,33554431,3254779903,7549747199,16139681791,34359738367,68719476735,137438953471]
theorem beaconref09_SameHomes.tab6:rtab .any (opsOf Try.f29 6) = beaconref09_SameHomes.T6:=by kernel_rfl
theorem beaconref09_SameHomes.bits6:waitsOk beaconref09_SameHomes.T6.2 beaconref09_SameHomes.B6 = true:=by kernel_rfl
set_option maxHeartbeats 8000000 in
set_option maxRecDepth 100000 in
theorem beaconref09_SameHomes.calls (k:Nat) (A0:Option Addr) (c0:Nat) (l0:List (S34)) (A1:Option Addr) (c1:Nat) (l1:List (S34)) (r:Bool) (w:World) (hr0:Kd.C k34 w A0 l0.length l0) (hc0:l0.length ≤ c0) (hr1:Kd.C k34 w A1 l1.length l1) (hc1:l1.length ≤ c1) (h:beaconref09_SameHomes.f k l0 l1 = some r) :
  Calls Try.prog 29 #[.slice A0 l0.length c0,.slice A1 l1.length c1] w fun e w' => e = .returned (.bool r) ∧ Below w.heap.size w w':=by
 have HR0:=Aside0.mk hr0
 have HC0:=Aside0.mk hc0
 clear hr0 hc0
 have HR1:=Aside0.mk hr1
 have HC1:=Aside0.mk hc1
 clear hr1 hc1
 have HB:=Aside0.mk (Below.refl w.heap.size w)
 have H:(if (l0.length:Int) = (l1.length:Int) then (beaconref09_SameHomes.l0 k l0 l1 0) else (some false)) = some r:=h
 clear h
 by_cases c3:(l0.length:Int) = (l1.length:Int)
 rotate_left
 ·rw [if_neg c3] at H
  have c3b0:((l0.length:Int) == (l1.length:Int)) = false:=beq_eq_false_iff_ne.mpr c3
  have c3b1:((l0.length:Int) != (l1.length:Int)) = true:=bne_iff_ne.mpr c3
  have c3b2:(l0.length == l1.length) = false:=by first | simpa using c3 | (simp at c3 ⊢;omega)
  obtain rfl:=Option.some.inj H
  go_enter Try.func29,Try.ntmps29
  go_wp2
  go_ret
  exact ⟨by first | rfl | (simp [errW_none,errW_some] <;> rfl) | (simp [*,errW_none,errW_some] <;> rfl),by repeat (first | (with_reducible first | exact HB.out | apply below_alloc | apply pw_below_drewN | apply below_drew1) | exact HB.out)⟩
 rw [if_pos c3] at H
 have c3b0:((l0.length:Int) == (l1.length:Int)) = true:=beq_iff_eq.mpr c3
 have c3b1:((l0.length:Int) != (l1.length:Int)) = false:=bne_eq_false_iff_eq.mpr c3
 have c3b2:(l0.length == l1.length) = true:=by first | simpa using c3 | (simp at c3 ⊢;omega)
 clear c3
 have H':=Aside0.mk H
 clear H
 go_enter Try.func29,Try.ntmps29
 go_wp2
 go_loopg [5] k (fun kq v5 w' => ∃ (x5_1:Int),v5 = .int .i64 x5_1 ∧ Aside0 (beaconref09_SameHomes.l0 kq l0 l1 x5_1 = some r) ∧ Aside0 (kq ≤ k) ∧ Aside0 (Below w.heap.size w w'))
 case atStart => exact ⟨(0),(by first | rfl | (simp;done) | (simp [*];done)),H',⟨Nat.le_refl _⟩,⟨by repeat (first | (with_reducible first | exact HB.out | apply below_alloc | apply pw_below_drewN | apply below_drew1) | exact HB.out)⟩⟩
 case round =>
  clear H'
  obtain ⟨x5_1,rfl,HA,HK1,HB⟩:=hrel
  cases gk with
  | zero => exact absurd HA.out (by simp [beaconref09_SameHomes.l0])
  | succ k1 =>
   have H:=HA.out
   clear HA
   simp only [beaconref09_SameHomes.l0] at H
   by_cases c4:x5_1 < (l0.length:Int)
   rotate_left
   ·rw [if_neg c4] at H
    have c4b0:decide (x5_1 < (l0.length:Int)) = false:=decide_eq_false c4
    clear c4
    obtain rfl:=Option.some.inj H
    go_wp2
    go_ret
    exact ⟨by first | rfl | (simp [errW_none,errW_some] <;> rfl) | (simp [*,errW_none,errW_some] <;> rfl),by repeat (first | (with_reducible first | exact HB.out | apply below_alloc | apply pw_below_drewN | apply below_drew1) | exact HB.out)⟩
   rw [if_pos c4] at H
   have c4b0:decide (x5_1 < (l0.length:Int)) = true:=decide_eq_true c4
   clear c4
   have HC5:=Aside0.mk H
   clear H
   go_upto_region 6 with (fail)
   go_cut [54] (fun v54 wc => ∃ (kq:Nat) (x54_4:Bool),v54 = .bool x54_4 ∧ Aside0 (beaconref09_SameHomes.j1 kq l0 l1 x5_1 x54_4 = some r) ∧ Aside0 (kq ≤ k1) ∧ Aside0 (Below w.heap.size w wc))
   case first =>
    have H:=HC5.out
    clear HC5
    by_cases c6:0 ≤ x5_1
    rotate_left
    ·rw [if_neg c6] at H
     exact absurd H (by simp)
    rw [if_pos c6] at H
    have c6b0:decide (0 ≤ x5_1) = true:=decide_eq_true c6
    clear c6
    (first | rw [c6b0] | (simp only [i64_w,i32_w];rw [c6b0]) | skip)
    by_cases c7:x5_1 < (l1.length:Int)
    rotate_left
    ·rw [if_neg c7] at H
     exact absurd H (by simp)
    rw [if_pos c7] at H
    have c7b0:decide (x5_1 < (l1.length:Int)) = true:=decide_eq_true c7
    clear c7
    by_cases c8:((rd_T34 l0 x5_1).f0) = ((rd_T34 l1 x5_1).f0)
    rotate_left
    ·rw [if_neg c8] at H
     have c8b0:(((rd_T34 l0 x5_1).f0) == ((rd_T34 l1 x5_1).f0)) = false:=beq_eq_false_iff_ne.mpr c8
     have c8b1:(((rd_T34 l0 x5_1).f0) != ((rd_T34 l1 x5_1).f0)) = true:=bne_iff_ne.mpr c8
     have H':=Aside0.mk H
     clear H
     try go_wp2
     have n0_:=Aside0.mk (below_drew1 HB.out)
     clear HB
     have HB:=n0_
     clear n0_
     have p300:0 ≤ (x5_1:Int):=of_decide_eq_true (by first | (with_reducible assumption) | assumption)
     have q300:x5_1 < (l0.length:Int):=of_decide_eq_true (by first | (with_reducible assumption) | assumption)
     obtain ⟨ad300,e300,hx300_0,hx300_1,hx300_2⟩:=at_T34 HR0.out x5_1 p300 q300
     have hw300_2:=hx300_2
     have hw300_1:=hx300_1
     have hw300_0:=hx300_0
     cases e300
     replace hx300_0:=(HB.out.cell (World.block_lt_of_cell? w _ hx300_0)).trans hx300_0
     replace hx300_1:=(HB.out.cell (World.block_lt_of_cell? w _ hx300_1)).trans hx300_1
     replace hx300_2:=(HB.out.cell (World.block_lt_of_cell? w _ hx300_2)).trans hx300_2
     replace p300:=eq_true p300
     replace q300:=eq_true q300
     have p301:0 ≤ (x5_1:Int):=of_decide_eq_true (by first | (with_reducible assumption) | assumption)
     have q301:x5_1 < (l1.length:Int):=of_decide_eq_true (by first | (with_reducible assumption) | assumption)
     obtain ⟨ad301,e301,hx301_0,hx301_1,hx301_2⟩:=at_T34 HR1.out x5_1 p301 q301
     have hw301_2:=hx301_2
     have hw301_1:=hx301_1
     have hw301_0:=hx301_0
     cases e301
     replace hx301_0:=(HB.out.cell (World.block_lt_of_cell? w _ hx301_0)).trans hx301_0
     replace hx301_1:=(HB.out.cell (World.block_lt_of_cell? w _ hx301_1)).trans hx301_1
     replace hx301_2:=(HB.out.cell (World.block_lt_of_cell? w _ hx301_2)).trans hx301_2
     replace p301:=eq_true p301
     replace q301:=eq_true q301
     refine start_ (n:=38) (S:=fun w' => w'.cell? (ad300.add ((x5_1).toNat * 3)) = some (.int .i64 ((rd_T34 l0 x5_1).f0)) ∧ w'.cell? ⟨(ad300.add ((x5_1).toNat * 3)).block,(ad300.add ((x5_1).toNat * 3)).off + 1,none⟩ = some (.int .i64 ((rd_T34 l0 x5_1).f1)) ∧ w'.cell? ⟨(ad300.add ((x5_1).toNat * 3)).block,(ad300.add ((x5_1).toNat * 3)).off + 2,none⟩ = some (.float .f64 ((rd_T34 l0 x5_1).f2)) ∧ w'.cell? (ad301.add ((x5_1).toNat * 3)) = some (.int .i64 ((rd_T34 l1 x5_1).f0)) ∧ w'.cell? ⟨(ad301.add ((x5_1).toNat * 3)).block,(ad301.add ((x5_1).toNat * 3)).off + 1,none⟩ = some (.int .i64 ((rd_T34 l1 x5_1).f1)) ∧ w'.cell? ⟨(ad301.add ((x5_1).toNat * 3)).block,(ad301.add ((x5_1).toNat * 3)).off + 2,none⟩ = some (.float .f64 ((rd_T34 l1 x5_1).f2))) (ds:=[]) #[false,false,false,false,false,false,false,false,false,false,false,false,false,false,false,false,false,false,false,false,false,false,false,false,false,false,false,false,false,false,false,false,false,false,false,false,false,false] (by kernel_rfl) rfl rfl ⟨((HB.out.cell (World.block_lt_of_cell? w _ hw300_0)).trans hw300_0),((HB.out.cell (World.block_lt_of_cell? w _ hw300_1)).trans hw300_1),((HB.out.cell (World.block_lt_of_cell? w _ hw300_2)).trans hw300_2),((HB.out.cell (World.block_lt_of_cell? w _ hw301_0)).trans hw301_0),((HB.out.cell (World.block_lt_of_cell? w _ hw301_1)).trans hw301_1),((HB.out.cell (World.block_lt_of_cell? w _ hw301_2)).trans hw301_2)⟩ (fun hHeld => ?_);refine with_tabW beaconref09_SameHomes.tab6 beaconref09_SameHomes.bits6 (fun HT_ HW_ => ?_)
     generalize wr.drew = w13 at HB hx300_0 hx300_1 hx300_2 hx301_0 hx301_1 hx301_2 hHeld ⊢
     refine manyW_ (fuel:=0) (a':=?_) ((0,0) :: (1,0) :: (2,0) :: (3,0) :: (5,0) :: (6,0) :: (7,0) :: (8,0) :: (4,2) :: (9,2) :: (10,0) :: (11,0) :: (12,1) :: (13,1) :: (14,1) :: (15,1) :: (16,1) :: (17,1) :: (18,1) :: (19,1) :: (20,1) :: (21,1) :: (22,1) :: (23,0) :: (24,0) :: (25,1) :: (26,1) :: (27,1) :: (28,1) :: (29,1) :: (30,1) :: (31,1) :: (32,1) :: (33,1) :: (34,1) :: (35,1) :: (36,1) :: (37,0) :: []) #[true,true,true,true,true,true,true,true,true,true,true,true,true,true,true,true,true,true,true,true,true,true,true,true,true,true,true,true,true,true,true,true,true,true,true,true,true,true] rfl HT_ HW_ (by kernel_rfl) (fun _ _ _ _ _ h => h) (fun _ => hHeld) ?_ ?_
     rotate_left
     ·repeat (first | exact Chain.nil _ | (apply Chain.on;rfl;rfl;(focus intro w';go_simp;with_reducible rfl);(focus simp only [Act.put,List.setIfInBounds_toArray,List.set_cons_zero,List.set_cons_succ,i64_w,i32_w];rfl)) | (apply Chain.take;rfl;rfl;(focus rintro w' ⟨s0,s1,s2,s3,s4,s5⟩;go_simp;with_reducible rfl);(focus simp only [Act.put,List.setIfInBounds_toArray,List.set_cons_zero,List.set_cons_succ,i64_w,i32_w];rfl)) | (apply Chain.off;rfl;rfl;(focus simp only [Act.put,List.setIfInBounds_toArray,List.set_cons_zero,List.set_cons_succ,i64_w,i32_w];rfl)))
     refine done_ (done_of HT_.out (by kernel_rfl)) ?_
     try go_wp2
     go_meet
     case rel => exact ⟨_,(true),(by first | rfl | (simp;done) | (simp [*];done)),H',⟨by have:=HK1.out;first | omega | exact Nat.le_refl _⟩,⟨by repeat (first | (with_reducible first | exact HB.out | apply below_alloc | apply pw_below_drewN | apply below_drew1) | exact HB.out)⟩⟩
    rw [if_pos c8] at H
    have c8b0:(((rd_T34 l0 x5_1).f0) == ((rd_T34 l1 x5_1).f0)) = true:=beq_iff_eq.mpr c8
    have c8b1:(((rd_T34 l0 x5_1).f0) != ((rd_T34 l1 x5_1).f0)) = false:=bne_eq_false_iff_eq.mpr c8
    clear c8
    by_cases c9:((rd_T34 l0 x5_1).f1) = ((rd_T34 l1 x5_1).f1)
    rotate_left
    ·rw [if_neg c9] at H
     have c9b0:(((rd_T34 l0 x5_1).f1) == ((rd_T34 l1 x5_1).f1)) = false:=beq_eq_false_iff_ne.mpr c9
     have c9b1:(((rd_T34 l0 x5_1).f1) != ((rd_T34 l1 x5_1).f1)) = true:=bne_iff_ne.mpr c9
     have H':=Aside0.mk H
     clear H
     try go_wp2
     have n0_:=Aside0.mk (below_drew1 HB.out)
     clear HB
     have HB:=n0_
     clear n0_
     have p300:0 ≤ (x5_1:Int):=of_decide_eq_true (by first | (with_reducible assumption) | assumption)
     have q300:x5_1 < (l0.length:Int):=of_decide_eq_true (by first | (with_reducible assumption) | assumption)
     obtain ⟨ad300,e300,hx300_0,hx300_1,hx300_2⟩:=at_T34 HR0.out x5_1 p300 q300
     have hw300_2:=hx300_2
     have hw300_1:=hx300_1
     have hw300_0:=hx300_0
     cases e300
     replace hx300_0:=(HB.out.cell (World.block_lt_of_cell? w _ hx300_0)).trans hx300_0
     replace hx300_1:=(HB.out.cell (World.block_lt_of_cell? w _ hx300_1)).trans hx300_1
     replace hx300_2:=(HB.out.cell (World.block_lt_of_cell? w _ hx300_2)).trans hx300_2
     replace p300:=eq_true p300
     replace q300:=eq_true q300
     have p301:0 ≤ (x5_1:Int):=of_decide_eq_true (by first | (with_reducible assumption) | assumption)
     have q301:x5_1 < (l1.length:Int):=of_decide_eq_true (by first | (with_reducible assumption) | assumption)
     obtain ⟨ad301,e301,hx301_0,hx301_1,hx301_2⟩:=at_T34 HR1.out x5_1 p301 q301
     have hw301_2:=hx301_2
     have hw301_1:=hx301_1
     have hw301_0:=hx301_0
     cases e301
     replace hx301_0:=(HB.out.cell (World.block_lt_of_cell? w _ hx301_0)).trans hx301_0
     replace hx301_1:=(HB.out.cell (World.block_lt_of_cell? w _ hx301_1)).trans hx301_1
     replace hx301_2:=(HB.out.cell (World.block_lt_of_cell? w _ hx301_2)).trans hx301_2
     replace p301:=eq_true p301
     replace q301:=eq_true q301
     have p302:0 ≤ (x5_1:Int):=of_decide_eq_true (by first | (with_reducible assumption) | assumption)
     have q302:x5_1 < (l0.length:Int):=of_decide_eq_true (by first | (with_reducible assumption) | assumption)
     obtain ⟨ad302,e302,hx302_0,hx302_1,hx302_2⟩:=at_T34 HR0.out x5_1 p302 q302
     have hw302_2:=hx302_2
     have hw302_1:=hx302_1
     have hw302_0:=hx302_0
     obtain rfl:ad300 = ad302:=(by injection e302)
     replace hx302_0:=(HB.out.cell (World.block_lt_of_cell? w _ hx302_0)).trans hx302_0
     replace hx302_1:=(HB.out.cell (World.block_lt_of_cell? w _ hx302_1)).trans hx302_1
     replace hx302_2:=(HB.out.cell (World.block_lt_of_cell? w _ hx302_2)).trans hx302_2
     replace p302:=eq_true p302
     replace q302:=eq_true q302
     have p303:0 ≤ (x5_1:Int):=of_decide_eq_true (by first | (with_reducible assumption) | assumption)
     have q303:x5_1 < (l1.length:Int):=of_decide_eq_true (by first | (with_reducible assumption) | assumption)
     obtain ⟨ad303,e303,hx303_0,hx303_1,hx303_2⟩:=at_T34 HR1.out x5_1 p303 q303
     have hw303_2:=hx303_2
     have hw303_1:=hx303_1
     have hw303_0:=hx303_0
     obtain rfl:ad301 = ad303:=(by injection e303)
     replace hx303_0:=(HB.out.cell (World.block_lt_of_cell? w _ hx303_0)).trans hx303_0
     replace hx303_1:=(HB.out.cell (World.block_lt_of_cell? w _ hx303_1)).trans hx303_1
     replace hx303_2:=(HB.out.cell (World.block_lt_of_cell? w _ hx303_2)).trans hx303_2
     replace p303:=eq_true p303
     replace q303:=eq_true q303
     refine start_ (n:=38) (S:=fun w' => w'.cell? (ad300.add ((x5_1).toNat * 3)) = some (.int .i64 ((rd_T34 l0 x5_1).f0)) ∧ w'.cell? ⟨(ad300.add ((x5_1).toNat * 3)).block,(ad300.add ((x5_1).toNat * 3)).off + 1,none⟩ = some (.int .i64 ((rd_T34 l0 x5_1).f1)) ∧ w'.cell? ⟨(ad300.add ((x5_1).toNat * 3)).block,(ad300.add ((x5_1).toNat * 3)).off + 2,none⟩ = some (.float .f64 ((rd_T34 l0 x5_1).f2)) ∧ w'.cell? (ad301.add ((x5_1).toNat * 3)) = some (.int .i64 ((rd_T34 l1 x5_1).f0)) ∧ w'.cell? ⟨(ad301.add ((x5_1).toNat * 3)).block,(ad301.add ((x5_1).toNat * 3)).off + 1,none⟩ = some (.int .i64 ((rd_T34 l1 x5_1).f1)) ∧ w'.cell? ⟨(ad301.add ((x5_1).toNat * 3)).block,(ad301.add ((x5_1).toNat * 3)).off + 2,none⟩ = some (.float .f64 ((rd_T34 l1 x5_1).f2)) ∧ w'.cell? (ad300.add ((x5_1).toNat * 3)) = some (.int .i64 ((rd_T34 l0 x5_1).f0)) ∧ w'.cell? ⟨(ad300.add ((x5_1).toNat * 3)).block,(ad300.add ((x5_1).toNat * 3)).off + 1,none⟩ = some (.int .i64 ((rd_T34 l0 x5_1).f1)) ∧ w'.cell? ⟨(ad300.add ((x5_1).toNat * 3)).block,(ad300.add ((x5_1).toNat * 3)).off + 2,none⟩ = some (.float .f64 ((rd_T34 l0 x5_1).f2)) ∧ w'.cell? (ad301.add ((x5_1).toNat * 3)) = some (.int .i64 ((rd_T34 l1 x5_1).f0)) ∧ w'.cell? ⟨(ad301.add ((x5_1).toNat * 3)).block,(ad301.add ((x5_1).toNat * 3)).off + 1,none⟩ = some (.int .i64 ((rd_T34 l1 x5_1).f1)) ∧ w'.cell? ⟨(ad301.add ((x5_1).toNat * 3)).block,(ad301.add ((x5_1).toNat * 3)).off + 2,none⟩ = some (.float .f64 ((rd_T34 l1 x5_1).f2))) (ds:=[]) #[false,false,false,false,false,false,false,false,false,false,false,false,false,false,false,false,false,false,false,false,false,false,false,false,false,false,false,false,false,false,false,false,false,false,false,false,false,false] (by kernel_rfl) rfl rfl ⟨((HB.out.cell (World.block_lt_of_cell? w _ hw300_0)).trans hw300_0),((HB.out.cell (World.block_lt_of_cell? w _ hw300_1)).trans hw300_1),((HB.out.cell (World.block_lt_of_cell? w _ hw300_2)).trans hw300_2),((HB.out.cell (World.block_lt_of_cell? w _ hw301_0)).trans hw301_0),((HB.out.cell (World.block_lt_of_cell? w _ hw301_1)).trans hw301_1),((HB.out.cell (World.block_lt_of_cell? w _ hw301_2)).trans hw301_2),((HB.out.cell (World.block_lt_of_cell? w _ hw302_0)).trans hw302_0),((HB.out.cell (World.block_lt_of_cell? w _ hw302_1)).trans hw302_1),((HB.out.cell (World.block_lt_of_cell? w _ hw302_2)).trans hw302_2),((HB.out.cell (World.block_lt_of_cell? w _ hw303_0)).trans hw303_0),((HB.out.cell (World.block_lt_of_cell? w _ hw303_1)).trans hw303_1),((HB.out.cell (World.block_lt_of_cell? w _ hw303_2)).trans hw303_2)⟩ (fun hHeld => ?_);refine with_tabW beaconref09_SameHomes.tab6 beaconref09_SameHomes.bits6 (fun HT_ HW_ => ?_)
     generalize wr.drew = w12 at HB hx300_0 hx300_1 hx300_2 hx301_0 hx301_1 hx301_2 hx302_0 hx302_1 hx302_2 hx303_0 hx303_1 hx303_2 hHeld ⊢
     refine manyW_ (fuel:=0) (a':=?_) ((0,0) :: (1,0) :: (2,0) :: (3,0) :: (5,0) :: (6,0) :: (7,0) :: (8,0) :: (4,2) :: (9,2) :: (10,0) :: (11,0) :: (12,0) :: (13,0) :: (14,0) :: (15,0) :: (17,0) :: (18,0) :: (19,0) :: (20,0) :: (16,2) :: (21,2) :: (22,0) :: (23,0) :: (24,0) :: (25,1) :: (26,1) :: (27,1) :: (28,1) :: (29,1) :: (30,1) :: (31,1) :: (32,1) :: (33,1) :: (34,1) :: (35,1) :: (36,1) :: (37,0) :: []) #[true,true,true,true,true,true,true,true,true,true,true,true,true,true,true,true,true,true,true,true,true,true,true,true,true,true,true,true,true,true,true,true,true,true,true,true,true,true] rfl HT_ HW_ (by kernel_rfl) (fun _ _ _ _ _ h => h) (fun _ => hHeld) ?_ ?_
     rotate_left
     ·repeat (first | exact Chain.nil _ | (apply Chain.on;rfl;rfl;(focus intro w';go_simp;with_reducible rfl);(focus simp only [Act.put,List.setIfInBounds_toArray,List.set_cons_zero,List.set_cons_succ,i64_w,i32_w];rfl)) | (apply Chain.take;rfl;rfl;(focus rintro w' ⟨s0,s1,s2,s3,s4,s5,s6,s7,s8,s9,s10,s11⟩;go_simp;with_reducible rfl);(focus simp only [Act.put,List.setIfInBounds_toArray,List.set_cons_zero,List.set_cons_succ,i64_w,i32_w];rfl)) | (apply Chain.off;rfl;rfl;(focus simp only [Act.put,List.setIfInBounds_toArray,List.set_cons_zero,List.set_cons_succ,i64_w,i32_w];rfl)))
     refine done_ (done_of HT_.out (by kernel_rfl)) ?_
     try go_wp2
     go_meet
     case rel => exact ⟨_,(true),(by first | rfl | (simp;done) | (simp [*];done)),H',⟨by have:=HK1.out;first | omega | exact Nat.le_refl _⟩,⟨by repeat (first | (with_reducible first | exact HB.out | apply below_alloc | apply pw_below_drewN | apply below_drew1) | exact HB.out)⟩⟩
    rw [if_pos c9] at H
    have c9b0:(((rd_T34 l0 x5_1).f1) == ((rd_T34 l1 x5_1).f1)) = true:=beq_iff_eq.mpr c9
    have c9b1:(((rd_T34 l0 x5_1).f1) != ((rd_T34 l1 x5_1).f1)) = false:=bne_eq_false_iff_eq.mpr c9
    clear c9
    replace H:=Option.bind_eq_some_iff.mp H
    obtain ⟨t306,A100,H⟩:=H
    replace H:(beaconref09_SameHomes.j1 k1 l0 l1 x5_1 (!t306)) = some r:=H
    have A10:=Aside0.mk A100
    clear A100
    have H':=Aside0.mk H
    clear H
    try go_wp2
    have n0_:=Aside0.mk (below_drew1 HB.out)
    clear HB
    have HB:=n0_
    clear n0_
    have p300:0 ≤ (x5_1:Int):=of_decide_eq_true (by first | (with_reducible assumption) | assumption)
    have q300:x5_1 < (l0.length:Int):=of_decide_eq_true (by first | (with_reducible assumption) | assumption)
    obtain ⟨ad300,e300,hx300_0,hx300_1,hx300_2⟩:=at_T34 HR0.out x5_1 p300 q300
    have hw300_2:=hx300_2
    have hw300_1:=hx300_1
    have hw300_0:=hx300_0
    cases e300
    replace hx300_0:=(HB.out.cell (World.block_lt_of_cell? w _ hx300_0)).trans hx300_0
    replace hx300_1:=(HB.out.cell (World.block_lt_of_cell? w _ hx300_1)).trans hx300_1
    replace hx300_2:=(HB.out.cell (World.block_lt_of_cell? w _ hx300_2)).trans hx300_2
    replace p300:=eq_true p300
    replace q300:=eq_true q300
    have p301:0 ≤ (x5_1:Int):=of_decide_eq_true (by first | (with_reducible assumption) | assumption)
    have q301:x5_1 < (l1.length:Int):=of_decide_eq_true (by first | (with_reducible assumption) | assumption)
    obtain ⟨ad301,e301,hx301_0,hx301_1,hx301_2⟩:=at_T34 HR1.out x5_1 p301 q301
    have hw301_2:=hx301_2
    have hw301_1:=hx301_1
    have hw301_0:=hx301_0
    cases e301
    replace hx301_0:=(HB.out.cell (World.block_lt_of_cell? w _ hx301_0)).trans hx301_0
    replace hx301_1:=(HB.out.cell (World.block_lt_of_cell? w _ hx301_1)).trans hx301_1
    replace hx301_2:=(HB.out.cell (World.block_lt_of_cell? w _ hx301_2)).trans hx301_2
    replace p301:=eq_true p301
    replace q301:=eq_true q301
    have p302:0 ≤ (x5_1:Int):=of_decide_eq_true (by first | (with_reducible assumption) | assumption)
    have q302:x5_1 < (l0.length:Int):=of_decide_eq_true (by first | (with_reducible assumption) | assumption)
    obtain ⟨ad302,e302,hx302_0,hx302_1,hx302_2⟩:=at_T34 HR0.out x5_1 p302 q302
    have hw302_2:=hx302_2
    have hw302_1:=hx302_1
    have hw302_0:=hx302_0
    obtain rfl:ad300 = ad302:=(by injection e302)
    replace hx302_0:=(HB.out.cell (World.block_lt_of_cell? w _ hx302_0)).trans hx302_0
    replace hx302_1:=(HB.out.cell (World.block_lt_of_cell? w _ hx302_1)).trans hx302_1
    replace hx302_2:=(HB.out.cell (World.block_lt_of_cell? w _ hx302_2)).trans hx302_2
    replace p302:=eq_true p302
    replace q302:=eq_true q302
    have p303:0 ≤ (x5_1:Int):=of_decide_eq_true (by first | (with_reducible assumption) | assumption)
    have q303:x5_1 < (l1.length:Int):=of_decide_eq_true (by first | (with_reducible assumption) | assumption)
    obtain ⟨ad303,e303,hx303_0,hx303_1,hx303_2⟩:=at_T34 HR1.out x5_1 p303 q303
    have hw303_2:=hx303_2
    have hw303_1:=hx303_1
    have hw303_0:=hx303_0
    obtain rfl:ad301 = ad303:=(by injection e303)
    replace hx303_0:=(HB.out.cell (World.block_lt_of_cell? w _ hx303_0)).trans hx303_0
    replace hx303_1:=(HB.out.cell (World.block_lt_of_cell? w _ hx303_1)).trans hx303_1
    replace hx303_2:=(HB.out.cell (World.block_lt_of_cell? w _ hx303_2)).trans hx303_2
    replace p303:=eq_true p303
    replace q303:=eq_true q303
    have p304:0 ≤ (x5_1:Int):=of_decide_eq_true (by first | (with_reducible assumption) | assumption)
    have q304:x5_1 < (l0.length:Int):=of_decide_eq_true (by first | (with_reducible assumption) | assumption)
    obtain ⟨ad304,e304,hx304_0,hx304_1,hx304_2⟩:=at_T34 HR0.out x5_1 p304 q304
    have hw304_2:=hx304_2
    have hw304_1:=hx304_1
    have hw304_0:=hx304_0
    obtain rfl:ad300 = ad304:=(by injection e304)
    replace hx304_0:=(HB.out.cell (World.block_lt_of_cell? w _ hx304_0)).trans hx304_0
    replace hx304_1:=(HB.out.cell (World.block_lt_of_cell? w _ hx304_1)).trans hx304_1
    replace hx304_2:=(HB.out.cell (World.block_lt_of_cell? w _ hx304_2)).trans hx304_2
    replace p304:=eq_true p304
    replace q304:=eq_true q304
    have p305:0 ≤ (x5_1:Int):=of_decide_eq_true (by first | (with_reducible assumption) | assumption)
    have q305:x5_1 < (l1.length:Int):=of_decide_eq_true (by first | (with_reducible assumption) | assumption)
    obtain ⟨ad305,e305,hx305_0,hx305_1,hx305_2⟩:=at_T34 HR1.out x5_1 p305 q305
    have hw305_2:=hx305_2
    have hw305_1:=hx305_1
    have hw305_0:=hx305_0
    obtain rfl:ad301 = ad305:=(by injection e305)
    replace hx305_0:=(HB.out.cell (World.block_lt_of_cell? w _ hx305_0)).trans hx305_0
    replace hx305_1:=(HB.out.cell (World.block_lt_of_cell? w _ hx305_1)).trans hx305_1
    replace hx305_2:=(HB.out.cell (World.block_lt_of_cell? w _ hx305_2)).trans hx305_2
    replace p305:=eq_true p305
    replace q305:=eq_true q305
    refine start_ (n:=38) (S:=fun w' => w'.cell? (ad300.add ((x5_1).toNat * 3)) = some (.int .i64 ((rd_T34 l0 x5_1).f0)) ∧ w'.cell? ⟨(ad300.add ((x5_1).toNat * 3)).block,(ad300.add ((x5_1).toNat * 3)).off + 1,none⟩ = some (.int .i64 ((rd_T34 l0 x5_1).f1)) ∧ w'.cell? ⟨(ad300.add ((x5_1).toNat * 3)).block,(ad300.add ((x5_1).toNat * 3)).off + 2,none⟩ = some (.float .f64 ((rd_T34 l0 x5_1).f2)) ∧ w'.cell? (ad301.add ((x5_1).toNat * 3)) = some (.int .i64 ((rd_T34 l1 x5_1).f0)) ∧ w'.cell? ⟨(ad301.add ((x5_1).toNat * 3)).block,(ad301.add ((x5_1).toNat * 3)).off + 1,none⟩ = some (.int .i64 ((rd_T34 l1 x5_1).f1)) ∧ w'.cell? ⟨(ad301.add ((x5_1).toNat * 3)).block,(ad301.add ((x5_1).toNat * 3)).off + 2,none⟩ = some (.float .f64 ((rd_T34 l1 x5_1).f2)) ∧ w'.cell? (ad300.add ((x5_1).toNat * 3)) = some (.int .i64 ((rd_T34 l0 x5_1).f0)) ∧ w'.cell? ⟨(ad300.add ((x5_1).toNat * 3)).block,(ad300.add ((x5_1).toNat * 3)).off + 1,none⟩ = some (.int .i64 ((rd_T34 l0 x5_1).f1)) ∧ w'.cell? ⟨(ad300.add ((x5_1).toNat * 3)).block,(ad300.add ((x5_1).toNat * 3)).off + 2,none⟩ = some (.float .f64 ((rd_T34 l0 x5_1).f2)) ∧ w'.cell? (ad301.add ((x5_1).toNat * 3)) = some (.int .i64 ((rd_T34 l1 x5_1).f0)) ∧ w'.cell? ⟨(ad301.add ((x5_1).toNat * 3)).block,(ad301.add ((x5_1).toNat * 3)).off + 1,none⟩ = some (.int .i64 ((rd_T34 l1 x5_1).f1)) ∧ w'.cell? ⟨(ad301.add ((x5_1).toNat * 3)).block,(ad301.add ((x5_1).toNat * 3)).off + 2,none⟩ = some (.float .f64 ((rd_T34 l1 x5_1).f2)) ∧ w'.cell? (ad300.add ((x5_1).toNat * 3)) = some (.int .i64 ((rd_T34 l0 x5_1).f0)) ∧ w'.cell? ⟨(ad300.add ((x5_1).toNat * 3)).block,(ad300.add ((x5_1).toNat * 3)).off + 1,none⟩ = some (.int .i64 ((rd_T34 l0 x5_1).f1)) ∧ w'.cell? ⟨(ad300.add ((x5_1).toNat * 3)).block,(ad300.add ((x5_1).toNat * 3)).off + 2,none⟩ = some (.float .f64 ((rd_T34 l0 x5_1).f2)) ∧ w'.cell? (ad301.add ((x5_1).toNat * 3)) = some (.int .i64 ((rd_T34 l1 x5_1).f0)) ∧ w'.cell? ⟨(ad301.add ((x5_1).toNat * 3)).block,(ad301.add ((x5_1).toNat * 3)).off + 1,none⟩ = some (.int .i64 ((rd_T34 l1 x5_1).f1)) ∧ w'.cell? ⟨(ad301.add ((x5_1).toNat * 3)).block,(ad301.add ((x5_1).toNat * 3)).off + 2,none⟩ = some (.float .f64 ((rd_T34 l1 x5_1).f2))) (ds:=[]) #[false,false,false,false,false,false,false,false,false,false,false,false,false,false,false,false,false,false,false,false,false,false,false,false,false,false,false,false,false,false,false,false,false,false,false,false,false,false] (by kernel_rfl) rfl rfl ⟨((HB.out.cell (World.block_lt_of_cell? w _ hw300_0)).trans hw300_0),((HB.out.cell (World.block_lt_of_cell? w _ hw300_1)).trans hw300_1),((HB.out.cell (World.block_lt_of_cell? w _ hw300_2)).trans hw300_2),((HB.out.cell (World.block_lt_of_cell? w _ hw301_0)).trans hw301_0),((HB.out.cell (World.block_lt_of_cell? w _ hw301_1)).trans hw301_1),((HB.out.cell (World.block_lt_of_cell? w _ hw301_2)).trans hw301_2),((HB.out.cell (World.block_lt_of_cell? w _ hw302_0)).trans hw302_0),((HB.out.cell (World.block_lt_of_cell? w _ hw302_1)).trans hw302_1),((HB.out.cell (World.block_lt_of_cell? w _ hw302_2)).trans hw302_2),((HB.out.cell (World.block_lt_of_cell? w _ hw303_0)).trans hw303_0),((HB.out.cell (World.block_lt_of_cell? w _ hw303_1)).trans hw303_1),((HB.out.cell (World.block_lt_of_cell? w _ hw303_2)).trans hw303_2),((HB.out.cell (World.block_lt_of_cell? w _ hw304_0)).trans hw304_0),((HB.out.cell (World.block_lt_of_cell? w _ hw304_1)).trans hw304_1),((HB.out.cell (World.block_lt_of_cell? w _ hw304_2)).trans hw304_2),((HB.out.cell (World.block_lt_of_cell? w _ hw305_0)).trans hw305_0),((HB.out.cell (World.block_lt_of_cell? w _ hw305_1)).trans hw305_1),((HB.out.cell (World.block_lt_of_cell? w _ hw305_2)).trans hw305_2)⟩ (fun hHeld => ?_);refine with_tabW beaconref09_SameHomes.tab6 beaconref09_SameHomes.bits6 (fun HT_ HW_ => ?_)
    generalize wr.drew = w11 at HB hx300_0 hx300_1 hx300_2 hx301_0 hx301_1 hx301_2 hx302_0 hx302_1 hx302_2 hx303_0 hx303_1 hx303_2 hx304_0 hx304_1 hx304_2 hx305_0 hx305_1 hx305_2 hHeld ⊢
    refine manyW_ (fuel:=3) (a':=?_) ((0,0) :: (1,0) :: (2,0) :: (3,0) :: (5,0) :: (6,0) :: (7,0) :: (8,0) :: (4,2) :: (9,2) :: (10,0) :: (11,0) :: (12,0) :: (13,0) :: (14,0) :: (15,0) :: (17,0) :: (18,0) :: (19,0) :: (20,0) :: (16,2) :: (21,2) :: (22,0) :: (23,0) :: (24,0) :: (25,0) :: (26,0) :: (27,0) :: (28,0) :: (30,0) :: (31,0) :: (32,0) :: (33,0) :: (29,2) :: (34,2) :: []) #[true,true,true,true,true,true,true,true,true,true,true,true,true,true,true,true,true,true,true,true,true,true,true,true,true,true,true,true,true,true,true,true,true,true,true,false,false,false] rfl HT_ HW_ (by kernel_rfl) (fun _ _ _ _ _ h => h) (fun _ => hHeld) ?_ ?_
    rotate_left
    ·repeat (first | exact Chain.nil _ | (apply Chain.on;rfl;rfl;(focus intro w';go_simp;with_reducible rfl);(focus simp only [Act.put,List.setIfInBounds_toArray,List.set_cons_zero,List.set_cons_succ,i64_w,i32_w];rfl)) | (apply Chain.take;rfl;rfl;(focus rintro w' ⟨s0,s1,s2,s3,s4,s5,s6,s7,s8,s9,s10,s11,s12,s13,s14,s15,s16,s17⟩;go_simp;with_reducible rfl);(focus simp only [Act.put,List.setIfInBounds_toArray,List.set_cons_zero,List.set_cons_succ,i64_w,i32_w];rfl)))
    refine one_ (i:=35) (N:=some 52) #[true,true,true,true,true,true,true,true,true,true,true,true,true,true,true,true,true,true,true,true,true,true,true,true,true,true,true,true,true,true,true,true,true,true,true,true,false,false] rfl rfl (one_of HT_.out (by kernel_rfl)) (by decide) (fun K hK => ?_)
    refine goes_ Try.func48 (by kernel_rfl) rfl #[.float .f64 ((rd_T34 l0 x5_1).f2),.float .f64 ((rd_T34 l1 x5_1).f2)] (by rfl) rfl rfl (by (try simp only [List.map_toArray,List.map_cons,List.map_nil]);first | done | rfl | (simp only [List.length_drop,List.length_take];rfl)) ?_
    with_reducible refine (beaconref01_Same.calls ((rd_T34 l0 x5_1).f2) ((rd_T34 l1 x5_1).f2) t306 _ A10.out).mono ?_
    rintro e w' ⟨rfl,⟨nd,rfl⟩⟩
    refine ⟨_,rfl,?_⟩
    refine hK.out _ _ ⟨((HB.out.cell (World.block_lt_of_cell? w _ hw300_0)).trans hw300_0),((HB.out.cell (World.block_lt_of_cell? w _ hw300_1)).trans hw300_1),((HB.out.cell (World.block_lt_of_cell? w _ hw300_2)).trans hw300_2),((HB.out.cell (World.block_lt_of_cell? w _ hw301_0)).trans hw301_0),((HB.out.cell (World.block_lt_of_cell? w _ hw301_1)).trans hw301_1),((HB.out.cell (World.block_lt_of_cell? w _ hw301_2)).trans hw301_2),((HB.out.cell (World.block_lt_of_cell? w _ hw302_0)).trans hw302_0),((HB.out.cell (World.block_lt_of_cell? w _ hw302_1)).trans hw302_1),((HB.out.cell (World.block_lt_of_cell? w _ hw302_2)).trans hw302_2),((HB.out.cell (World.block_lt_of_cell? w _ hw303_0)).trans hw303_0),((HB.out.cell (World.block_lt_of_cell? w _ hw303_1)).trans hw303_1),((HB.out.cell (World.block_lt_of_cell? w _ hw303_2)).trans hw303_2),((HB.out.cell (World.block_lt_of_cell? w _ hw304_0)).trans hw304_0),((HB.out.cell (World.block_lt_of_cell? w _ hw304_1)).trans hw304_1),((HB.out.cell (World.block_lt_of_cell? w _ hw304_2)).trans hw304_2),((HB.out.cell (World.block_lt_of_cell? w _ hw305_0)).trans hw305_0),((HB.out.cell (World.block_lt_of_cell? w _ hw305_1)).trans hw305_1),((HB.out.cell (World.block_lt_of_cell? w _ hw305_2)).trans hw305_2)⟩ (fun hHeld => ?_)
    clear hK K
    refine norm_ (a':=?_) ?_ ?_
    rotate_left
    ·show Act.put _ (some 52) _ = _
     simp only [Act.put,List.setIfInBounds_toArray,List.set_cons_zero,List.set_cons_succ,i64_w,i32_w]
     rfl
    refine manyT_ (fuel:=0) (a':=?_) ((36,0) :: (37,0) :: []) #[true,true,true,true,true,true,true,true,true,true,true,true,true,true,true,true,true,true,true,true,true,true,true,true,true,true,true,true,true,true,true,true,true,true,true,true,true,true] rfl HT_ (by kernel_rfl) (fun _ _ _ _ _ h => h) (fun h => absurd h (by decide)) ?_ ?_
    rotate_left
    ·repeat (first | exact Chain.nil _ | (apply Chain.on;rfl;rfl;(focus intro w';go_simp;with_reducible rfl);(focus simp only [Act.put,List.setIfInBounds_toArray,List.set_cons_zero,List.set_cons_succ,i64_w,i32_w];rfl)))
    refine done_ (done_of HT_.out (by kernel_rfl)) ?_
    try go_wp2
    go_meet
    case rel => exact ⟨_,(!t306),(by first | rfl | (simp;done) | (simp [*];done)),H',⟨by have:=HK1.out;first | omega | exact Nat.le_refl _⟩,⟨by repeat (first | (with_reducible first | exact HB.out | apply below_alloc | apply pw_below_drewN | apply below_drew1) | exact HB.out)⟩⟩
   case rest =>
    clear HC5
    obtain ⟨kq,x54_4,rfl,HA,HJ4,HB⟩:=hcut
    cases kq with
    | zero => exact absurd HA.out (by simp [beaconref09_SameHomes.j1])
    | succ kj4 =>
     have H:=HA.out
     clear HA
     simp only [beaconref09_SameHomes.j1] at H
     by_cases c14:x54_4 = true
     ·subst c14
      have H1:(some false) = some r:=by rw [if_pos rfl] at H;exact H
      clear H
      have H:=H1
      clear H1
      obtain rfl:=Option.some.inj H
      go_wp2
      go_ret
      exact ⟨by first | rfl | (simp [errW_none,errW_some] <;> rfl) | (simp [*,errW_none,errW_some] <;> rfl),by repeat (first | (with_reducible first | exact HB.out | apply below_alloc | apply pw_below_drewN | apply below_drew1) | exact HB.out)⟩
     replace c14:=Bool.eq_false_iff.mpr c14
     subst c14
     have H1:(beaconref09_SameHomes.l0 kj4 l0 l1 (wrap64 (x5_1 + 1))) = some r:=by rw [if_neg (show ¬ (false = true) by decide)] at H;exact H
     clear H
     have H:=H1
     clear H1
     have H':=Aside0.mk H
     clear H
     go_wp2
     go_roundg kj4
     case measure => have:=HK1.out;have:=HJ4.out;omega
     case rel => exact ⟨(wrap64 (x5_1 + 1)),(by first | rfl | (simp;done) | (simp [*];done)),H',⟨by have:=HK1.out;have:=HJ4.out;omega⟩,⟨by repeat (first | (with_reducible first | exact HB.out | apply below_alloc | apply pw_below_drewN | apply below_drew1) | exact HB.out)⟩⟩
end Go.Proofs.Ytjcnmpkaiopihaa.PA
