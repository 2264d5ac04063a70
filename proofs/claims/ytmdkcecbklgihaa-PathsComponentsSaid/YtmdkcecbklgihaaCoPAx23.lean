/- Printed by a program of this session (wip/tools/patch_print.py and pr.py, over the kit's print): each Go function as a plain Lean function, and that the Go code comes to just its answers. Conditions: those that each theorem names. -/
import Derived.Test.YtmdkcecbklgihaaCcPAx0
import Derived.Test.YtmdkcecbklgihaaCcPAx1
import Derived.Test.YtmdkcecbklgihaaCcPAx4
import Derived.Test.YtmdkcecbklgihaaCcPAx5
import Derived.Test.YtmdkcecbklgihaaCcPAx8
namespace Go.Proofs.Ytmdkcecbklgihaa.PA
open Go.RowKit Go.Proofs.YtmdkcecbklgihaaW.PrintWords Go.Proofs.YtmdkcecbklgihaaW.PrintLast Go.Proofs.YtmdkcecbklgihaaW.PrintMore
attribute [local go_sem] max2_int min2_int max_two min_two max_three min_three max_four min_four
set_option linter.unusedVariables false
set_option linter.unusedSimpArgs false
mutual
noncomputable def beaconref08_Wide.j0:Nat → Nat → Int → List (S40) → List (S74) → Option (Nat × Int)
 | 0,_,_,_,_ => none
 | k + 1,x1,x6,x555000,x555001 => if x6 = 0 then (beaconref08_Wide.l0 k x1 0 0 x555000 x555001) else (some (0,x6))
noncomputable def beaconref08_Wide.l0:Nat → Nat → Nat → Int → List (S40) → List (S74) → Option (Nat × Int)
 | 0,_,_,_,_,_ => none
 | k + 1,x1,x7,x8,x555000,x555001 => if x8 < (x555000.length:Int) then (if 0 ≤ x8 then ((beaconref08_dists.f k x555000 x555001 x1 ((rd_T40 x555000 x8).f0)).bind fun t558 => (beaconref08_Wide.l1 k x1 x7 x8 t558 0 x555000 x555001)) else (none)) else (some (x7,0))
noncomputable def beaconref08_Wide.l1:Nat → Nat → Nat → Int → List Nat → Int → List (S40) → List (S74) → Option (Nat × Int)
 | 0,_,_,_,_,_,_,_ => none
 | k + 1,x1,x7,x8,x9,x10,x555000,x555001 => if x10 < (x9.length:Int) then (if 0 ≤ x10 then ((math_IsInf.f (rdOf (0:Nat) x9 x10) 1).bind fun t562 => (if t562 = true then (beaconref08_Wide.l1 k x1 x7 x8 x9 (wrap64 (x10 + 1)) x555000 x555001) else (if (FloatKind.f64.format.order (rdOf (0:Nat) x9 x10) x7 == some .gt) = true then (beaconref08_Wide.l1 k x1 (rdOf (0:Nat) x9 x10) x8 x9 (wrap64 (x10 + 1)) x555000 x555001) else (beaconref08_Wide.l1 k x1 x7 x8 x9 (wrap64 (x10 + 1)) x555000 x555001)))) else (none)) else (beaconref08_Wide.l0 k x1 x7 (wrap64 (x8 + 1)) x555000 x555001)
end
noncomputable def beaconref08_Wide.f (k:Nat) (l0_0:List (S40)) (l0_1:List (S74)) (a1:Nat):Option (Nat × Int):=(beaconref01_Limit.f a1).bind fun t555 => (if t555 = 0 then ((beaconref07_Check.f k l0_0 l0_1).bind fun t556 => (beaconref08_Wide.j0 k a1 t556 l0_0 l0_1)) else (beaconref08_Wide.j0 k a1 t555 l0_0 l0_1))
noncomputable def beaconref08_Wide.T10:Bool × List (List Nat × List Nat):=(true,[([],[]),([],[]),([],[]),([2],[2]),([],[]),([3,4],[3,4]),([5],[5]),([6],[6]),([0,1,7],[0,1,7]),([8,8,0,1,2,3,4,5,6,7,8],[8])])
noncomputable def beaconref08_Wide.B10:List Nat:=[0,0,0,4,0,28,60,124,255,511]
theorem beaconref08_Wide.tab10:rtab .any (opsOf Try.f30 10) = beaconref08_Wide.T10:=by kernel_rfl
theorem beaconref08_Wide.bits10:waitsOk beaconref08_Wide.T10.2 beaconref08_Wide.B10 = true:=by kernel_rfl
set_option maxHeartbeats 8000000 in
set_option maxRecDepth 100000 in
theorem beaconref08_Wide.calls (k:Nat) (A0_0:Option Addr) (c0_0:Nat) (l0_0:List (S40)) (A0_1:Option Addr) (c0_1:Nat) (l0_1:List (S74)) (a1:Nat) (r1:Nat) (r2:Int) (w:World) (hr0_0:Kd.C k40 w A0_0 l0_0.length l0_0) (hc0_0:l0_0.length ≤ c0_0) (hr0_1:Kd.C k74 w A0_1 l0_1.length l0_1) (hc0_1:l0_1.length ≤ c0_1) (h:beaconref08_Wide.f k l0_0 l0_1 a1 = some (r1,r2)) :
  Calls Try.prog 30 #[.agg #[.slice A0_0 l0_0.length c0_0,.slice A0_1 l0_1.length c0_1],.float .f64 a1] w fun e w' => e = .returned (.tuple #[.float .f64 r1,.int .i64 r2]) ∧ Below w.heap.size w w':=by
 have hu25:=Try.underlying25
 have HR0_0:=Aside0.mk hr0_0
 have HC0_0:=Aside0.mk hc0_0
 clear hr0_0 hc0_0
 have HR0_1:=Aside0.mk hr0_1
 have HC0_1:=Aside0.mk hc0_1
 clear hr0_1 hc0_1
 have HB:=Aside0.mk (Below.refl w.heap.size w)
 have H:((beaconref01_Limit.f a1).bind fun t555 => (if t555 = 0 then ((beaconref07_Check.f k l0_0 l0_1).bind fun t556 => (beaconref08_Wide.j0 k a1 t556 l0_0 l0_1)) else (beaconref08_Wide.j0 k a1 t555 l0_0 l0_1))) = some (r1,r2):=h
 clear h
 replace H:=Option.bind_eq_some_iff.mp H
 obtain ⟨t555,A30,H⟩:=H
 replace H:(if t555 = 0 then ((beaconref07_Check.f k l0_0 l0_1).bind fun t556 => (beaconref08_Wide.j0 k a1 t556 l0_0 l0_1)) else (beaconref08_Wide.j0 k a1 t555 l0_0 l0_1)) = some (r1,r2):=H
 have A3:=Aside0.mk A30
 clear A30
 have HC4:=Aside0.mk H
 clear H
 go_enter Try.func30,Try.ntmps30
 go_upto_if 14 with (first | ((with_reducible refine gate_dst (N:=2) rfl ?_);refine box_event ?hg (N:=2) ?hd (cs:=#[.slice A0_0 l0_0.length c0_0,.slice A0_1 l0_1.length c0_1]) (t:=25) ?hr ?_;(case hd => rfl);(case hg => rfl);(case hr => first | (go_simp;done) | (go_simp;rfl));intro gb554 hg w5 hbox hb;have n0_:=Aside0.mk (below_step (by repeat (first | (with_reducible first | exact HB.out | apply below_alloc | apply pw_below_drewN | apply below_drew1) | exact HB.out)) hb);have n1_:=Aside0.mk (hbox);have n2_:=Aside0.mk ((by rw [hg];exact (below_size (by repeat (first | (with_reducible first | exact HB.out | apply below_alloc | apply pw_below_drewN | apply below_drew1) | exact HB.out))):w.heap.size ≤ gb554));have n3_:=Aside0.mk ((by rw [hg];exact (below_size (by repeat (first | (with_reducible first | exact HB.out | apply below_alloc | apply pw_below_drewN | apply below_drew1) | exact HB.out))):w.heap.size ≤ gb554));clear HB;have HB:=n0_;have BK554:=n1_;have GW554:=n2_;have GE554:=n3_;clear n0_ n1_ n2_ n3_;clear hb hbox hg) | ((with_reducible refine gate_callee (f:=48) rfl ?_);refine goesL_ (some 12) rfl rfl Try.func48 (by kernel_rfl) rfl #[.float .f64 a1] rfl (by (try simp only [List.map_toArray,List.map_cons,List.map_nil]);first | done | rfl | (simp only [List.length_drop,List.length_take];rfl)) ?_;(with_reducible refine (beaconref01_Limit.calls a1 t555 _ A3.out).mono ?_);rintro e w' ⟨rfl,⟨nd,rfl⟩⟩;refine ⟨_,rfl,?_⟩))
 (try simp only [Act.put,List.setIfInBounds_toArray,List.set_cons_zero,List.set_cons_succ])
 go_cut [6] (fun v6 wc => ∃ (kq:Nat) (x6_3:Int),v6 = .int .i64 x6_3 ∧ Aside0 (beaconref08_Wide.j0 kq a1 x6_3 l0_0 l0_1 = some (r1,r2)) ∧ Aside0 (kq ≤ k) ∧ Aside0 (wc.heap[gb554]? = some (.cells #[(.slice A0_0 l0_0.length c0_0),(.slice A0_1 l0_1.length c0_1)] 25 (0,0))) ∧ Aside0 (Below w.heap.size w wc))
 case first =>
  have H:=HC4.out
  clear HC4
  by_cases c6:t555 = 0
  ·rw [if_pos c6] at H
   have c6b0:(t555 == 0) = true:=beq_iff_eq.mpr c6
   have c6b1:(t555 != 0) = false:=bne_eq_false_iff_eq.mpr c6
   clear c6
   (first | rw [c6b0] | (simp only [i64_w,i32_w];rw [c6b0]) | skip)
   replace H:=Option.bind_eq_some_iff.mp H
   obtain ⟨t556,A70,H⟩:=H
   replace H:(beaconref08_Wide.j0 k a1 t556 l0_0 l0_1) = some (r1,r2):=H
   have A7:=Aside0.mk A70
   clear A70
   have H':=Aside0.mk H
   clear H
   have hcz8_0:w5.cell? ⟨gb554,0,none⟩ = some (.slice A0_0 l0_0.length c0_0):=(blk_cell BK554.out 0).trans rfl
   have hcz8_1:w5.cell? ⟨gb554,1,none⟩ = some (.slice A0_1 l0_1.length c0_1):=(blk_cell BK554.out 1).trans rfl
   have hfz8_0:=blk_frozen BK554.out 0
   have hfz8_1:=blk_frozen BK554.out 1
   go_wp2_with (first | ((with_reducible refine gate_callee (f:=19) rfl ?_);refine goesL_ (some 16) rfl rfl Try.func19 (by kernel_rfl) rfl #[.agg #[.slice A0_0 l0_0.length c0_0,.slice A0_1 l0_1.length c0_1]] rfl (by (try simp only [List.map_toArray,List.map_cons,List.map_nil]);first | done | rfl | (simp only [List.length_drop,List.length_take];rfl)) ?_;(with_reducible refine (beaconref07_Check.calls k _ _ l0_0 _ _ l0_1 t556 _ ?side1 ?side2 ?side3 ?side4 A7.out).mono ?_);(case side1 => repeat (first | exact (Kd.C_below HR0_0.out HB.out) | (with_reducible refine Kd.C_alloc ?_ _) | (with_reducible refine Kd.C_drewN ?_ _) | (with_reducible refine Kd.C_drew ?_)));(case side2 => exact HC0_0.out);(case side3 => repeat (first | exact (Kd.C_below HR0_1.out HB.out) | (with_reducible refine Kd.C_alloc ?_ _) | (with_reducible refine Kd.C_drewN ?_ _) | (with_reducible refine Kd.C_drew ?_)));(case side4 => exact HC0_1.out);rintro e w9 ⟨rfl,hb⟩;refine ⟨_,rfl,?_⟩;have n0_:=Aside0.mk (blk_below (g:=gb554) (o:=.cells #[.slice A0_0 l0_0.length c0_0,.slice A0_1 l0_1.length c0_1] 25 (0,0)) (by (with_reducible repeat (first | refine blk_drewN ?_ _ | refine blk_drew ?_ | refine blk_alloc ?_ _));exact BK554.out) hb);have n1_:=Aside0.mk (below_step (by repeat (first | (with_reducible first | exact HB.out | apply below_alloc | apply pw_below_drewN | apply below_drew1 | refine below_set ?_ GE554.out) | exact HB.out)) hb);clear BK554;clear HB;have BK554:=n0_;have HB:=n1_;clear n0_ n1_;(try clear hb);(try clear hb2);(try clear hk);(try clear hi)))
   go_meet
   case rel => exact ⟨_,(t556),(by first | rfl | (simp;done) | (simp [*];done)),H',⟨by first | omega | exact Nat.le_refl _⟩,⟨by (with_reducible repeat (first | refine blk_drewN ?_ _ | refine blk_drew ?_ | refine blk_alloc ?_ _));exact BK554.out⟩,⟨by repeat (first | (with_reducible first | exact HB.out | apply below_alloc | apply pw_below_drewN | apply below_drew1 | refine below_set ?_ GE554.out) | exact HB.out)⟩⟩
  rw [if_neg c6] at H
  have c6b0:(t555 == 0) = false:=beq_eq_false_iff_ne.mpr c6
  have c6b1:(t555 != 0) = true:=bne_iff_ne.mpr c6
  (first | rw [c6b0] | (simp only [i64_w,i32_w];rw [c6b0]) | skip)
  have H':=Aside0.mk H
  clear H
  go_wp2
  go_meet
  case rel => exact ⟨_,(t555),(by first | rfl | (simp;done) | (simp [*];done)),H',⟨by first | omega | exact Nat.le_refl _⟩,⟨by (with_reducible repeat (first | refine blk_drewN ?_ _ | refine blk_drew ?_ | refine blk_alloc ?_ _));exact BK554.out⟩,⟨by repeat (first | (with_reducible first | exact HB.out | apply below_alloc | apply pw_below_drewN | apply below_drew1 | refine below_set ?_ GE554.out) | exact HB.out)⟩⟩
 case rest =>
  clear HC4
  obtain ⟨kq,x6_3,rfl,HA,HJ3,BK554,HB⟩:=hcut
  cases kq with
  | zero => exact absurd HA.out (by simp [beaconref08_Wide.j0])
  | succ kj3 =>
   have H:=HA.out
   clear HA
   simp only [beaconref08_Wide.j0] at H
   by_cases c10:x6_3 = 0
   rotate_left
   ·rw [if_neg c10] at H
    have c10b0:(x6_3 == 0) = false:=beq_eq_false_iff_ne.mpr c10
    have c10b1:(x6_3 != 0) = true:=bne_iff_ne.mpr c10
    simp only [Option.some.injEq,Prod.mk.injEq] at H
    obtain ⟨rfl,rfl⟩:=H
    go_wp2
    go_ret2
    exact ⟨by first | rfl | (simp [errW_none,errW_some] <;> rfl) | (simp [*,errW_none,errW_some] <;> rfl),by repeat (first | (with_reducible first | exact HB.out | apply below_alloc | apply pw_below_drewN | apply below_drew1 | refine below_set ?_ GE554.out) | exact HB.out)⟩
   rw [if_pos c10] at H
   have c10b0:(x6_3 == 0) = true:=beq_iff_eq.mpr c10
   have c10b1:(x6_3 != 0) = false:=bne_eq_false_iff_eq.mpr c10
   clear c10
   have H':=Aside0.mk H
   clear H
   go_wp2
   go_loopg [7,8] kj3 (fun kq v7 v8 w' => ∃ (x7_2:Nat) (x8_2:Int),v7 = .float .f64 x7_2 ∧ v8 = .int .i64 x8_2 ∧ Aside0 (beaconref08_Wide.l0 kq a1 x7_2 x8_2 l0_0 l0_1 = some (r1,r2)) ∧ Aside0 (kq ≤ kj3) ∧ Aside0 (w'.heap[gb554]? = some (.cells #[(.slice A0_0 l0_0.length c0_0),(.slice A0_1 l0_1.length c0_1)] 25 (0,0))) ∧ Aside0 (Below w.heap.size w w'))
   case atStart => exact ⟨(0),(0),(by first | rfl | (simp;done) | (simp [*];done)),(by first | rfl | (simp;done) | (simp [*];done)),H',⟨Nat.le_refl _⟩,⟨by (with_reducible repeat (first | refine blk_drewN ?_ _ | refine blk_drew ?_ | refine blk_alloc ?_ _));exact BK554.out⟩,⟨by repeat (first | (with_reducible first | exact HB.out | apply below_alloc | apply pw_below_drewN | apply below_drew1 | refine below_set ?_ GE554.out) | exact HB.out)⟩⟩
   case round =>
    clear H'
    obtain ⟨x7_2,x8_2,rfl,rfl,HA,HK2,BK554,HB⟩:=hrel
    cases gk with
    | zero => exact absurd HA.out (by simp [beaconref08_Wide.l0])
    | succ k2 =>
     have H:=HA.out
     clear HA
     simp only [beaconref08_Wide.l0] at H
     by_cases c11:x8_2 < (l0_0.length:Int)
     rotate_left
     ·rw [if_neg c11] at H
      have c11b0:decide (x8_2 < (l0_0.length:Int)) = false:=decide_eq_false c11
      clear c11
      simp only [Option.some.injEq,Prod.mk.injEq] at H
      obtain ⟨rfl,rfl⟩:=H
      have hcz26_0:wr.cell? ⟨gb554,0,none⟩ = some (.slice A0_0 l0_0.length c0_0):=(blk_cell BK554.out 0).trans rfl
      have hcz26_1:wr.cell? ⟨gb554,1,none⟩ = some (.slice A0_1 l0_1.length c0_1):=(blk_cell BK554.out 1).trans rfl
      have hfz26_0:=blk_frozen BK554.out 0
      have hfz26_1:=blk_frozen BK554.out 1
      go_wp2
      go_ret2
      exact ⟨by first | rfl | (simp [errW_none,errW_some] <;> rfl) | (simp [*,errW_none,errW_some] <;> rfl),by repeat (first | (with_reducible first | exact HB.out | apply below_alloc | apply pw_below_drewN | apply below_drew1 | refine below_set ?_ GE554.out) | exact HB.out)⟩
     rw [if_pos c11] at H
     have c11b0:decide (x8_2 < (l0_0.length:Int)) = true:=decide_eq_true c11
     clear c11
     by_cases c12:0 ≤ x8_2
     rotate_left
     ·rw [if_neg c12] at H
      exact absurd H (by simp)
     rw [if_pos c12] at H
     have c12b0:decide (0 ≤ x8_2) = true:=decide_eq_true c12
     clear c12
     replace H:=Option.bind_eq_some_iff.mp H
     obtain ⟨t558,A130,H⟩:=H
     replace H:(beaconref08_Wide.l1 k2 a1 x7_2 x8_2 t558 0 l0_0 l0_1) = some (r1,r2):=H
     have A13:=Aside0.mk A130
     clear A130
     have H':=Aside0.mk H
     clear H
     have hcz14_0:wr.cell? ⟨gb554,0,none⟩ = some (.slice A0_0 l0_0.length c0_0):=(blk_cell BK554.out 0).trans rfl
     have hcz14_1:wr.cell? ⟨gb554,1,none⟩ = some (.slice A0_1 l0_1.length c0_1):=(blk_cell BK554.out 1).trans rfl
     have hfz14_0:=blk_frozen BK554.out 0
     have hfz14_1:=blk_frozen BK554.out 1
     try go_wp2
     have n0_:=Aside0.mk (blk_drew BK554.out)
     have n1_:=Aside0.mk (below_drew1 HB.out)
     clear BK554
     clear HB
     have BK554:=n0_
     have HB:=n1_
     clear n0_ n1_
     have p557:0 ≤ (x8_2:Int):=of_decide_eq_true (by first | (with_reducible assumption) | assumption)
     have q557:x8_2 < (l0_0.length:Int):=of_decide_eq_true (by first | (with_reducible assumption) | assumption)
     obtain ⟨ad557,e557,hx557_0,hx557_1,hx557_2⟩:=at_T40 HR0_0.out x8_2 p557 q557
     have hw557_2:=hx557_2
     have hw557_1:=hx557_1
     have hw557_0:=hx557_0
     cases e557
     replace hx557_0:=(HB.out.cell (World.block_lt_of_cell? w _ hx557_0)).trans hx557_0
     replace hx557_1:=(HB.out.cell (World.block_lt_of_cell? w _ hx557_1)).trans hx557_1
     replace hx557_2:=(HB.out.cell (World.block_lt_of_cell? w _ hx557_2)).trans hx557_2
     replace p557:=eq_true p557
     replace q557:=eq_true q557
     refine start_ (n:=10) (S:=fun w' => w'.cell? ⟨gb554,0,none⟩ = some (.slice (some ad557) l0_0.length c0_0) ∧ w'.cell? ⟨gb554,1,none⟩ = some (.slice A0_1 l0_1.length c0_1) ∧ w'.cell? (ad557.add ((x8_2).toNat * 3)) = some (.int .i64 ((rd_T40 l0_0 x8_2).f0)) ∧ w'.cell? ⟨(ad557.add ((x8_2).toNat * 3)).block,(ad557.add ((x8_2).toNat * 3)).off + 1,none⟩ = some (.bool ((rd_T40 l0_0 x8_2).f1)) ∧ w'.cell? ⟨(ad557.add ((x8_2).toNat * 3)).block,(ad557.add ((x8_2).toNat * 3)).off + 2,none⟩ = some (.bool ((rd_T40 l0_0 x8_2).f2))) (ds:=[]) #[false,false,false,false,false,false,false,false,false,false] (by kernel_rfl) rfl rfl ⟨(blk_cell BK554.out 0).trans rfl,(blk_cell BK554.out 1).trans rfl,((HB.out.cell (World.block_lt_of_cell? w _ hw557_0)).trans hw557_0),((HB.out.cell (World.block_lt_of_cell? w _ hw557_1)).trans hw557_1),((HB.out.cell (World.block_lt_of_cell? w _ hw557_2)).trans hw557_2)⟩ (fun hHeld => ?_);refine with_tabW beaconref08_Wide.tab10 beaconref08_Wide.bits10 (fun HT_ HW_ => ?_)
     generalize wr.drew = w15 at BK554 HB hx557_0 hx557_1 hx557_2 hHeld ⊢
     refine pure_ (i:=1) (N:=some 28) (v:=?_) (a':=?_) #[false,true,false,false,false,false,false,false,false,false] rfl rfl (any_of HT_.out (by kernel_rfl)) (fun _ _ _ h => h) (Or.inl ⟨by rfl,?_⟩) ?_ ?_
     rotate_left
     ·intro w'
      go_simp
      with_reducible rfl
     rotate_left
     ·simp only [Act.put,List.setIfInBounds_toArray,List.set_cons_zero,List.set_cons_succ,i64_w,i32_w]
      rfl
     refine pure_ (i:=2) (N:=some 29) (v:=?_) (a':=?_) #[false,true,true,false,false,false,false,false,false,false] rfl rfl (any_of HT_.out (by kernel_rfl)) (fun _ _ _ h => h) (Or.inl ⟨by rfl,?_⟩) ?_ ?_
     rotate_left
     ·intro w'
      go_simp
      with_reducible rfl
     rotate_left
     ·simp only [Act.put,List.setIfInBounds_toArray,List.set_cons_zero,List.set_cons_succ,i64_w,i32_w]
      rfl
     refine pure_ (i:=4) (N:=some 31) (v:=?_) (a':=?_) #[false,true,true,false,true,false,false,false,false,false] rfl rfl (any_of HT_.out (by kernel_rfl)) (fun _ _ _ h => h) (Or.inl ⟨by rfl,?_⟩) ?_ ?_
     rotate_left
     ·intro w'
      go_simp
      with_reducible rfl
     rotate_left
     ·simp only [Act.put,List.setIfInBounds_toArray,List.set_cons_zero,List.set_cons_succ,i64_w,i32_w]
      rfl
     refine take_ (i:=0) (N:=some 27) (v:=?_) (a':=?_) #[true,true,true,false,true,false,false,false,false,false] rfl rfl (take_ofW HT_.out HW_.out (by kernel_rfl)) (fun _ _ _ h => h) (Or.inl ⟨by rfl,?_⟩) hHeld ?_ ?_
     rotate_left
     ·rintro w' ⟨s0,s1,s2,s3,s4⟩
      go_simp
      with_reducible rfl
     rotate_left
     ·simp only [Act.put,List.setIfInBounds_toArray,List.set_cons_zero,List.set_cons_succ,i64_w,i32_w]
      rfl
     refine take_ (i:=3) (N:=some 30) (v:=?_) (a':=?_) #[true,true,true,true,true,false,false,false,false,false] rfl rfl (take_ofW HT_.out HW_.out (by kernel_rfl)) (fun _ _ _ h => h) (Or.inl ⟨by rfl,?_⟩) hHeld ?_ ?_
     rotate_left
     ·rintro w' ⟨s0,s1,s2,s3,s4⟩
      go_simp
      with_reducible rfl
     rotate_left
     ·simp only [Act.put,List.setIfInBounds_toArray,List.set_cons_zero,List.set_cons_succ,i64_w,i32_w]
      rfl
     refine pure_ (i:=5) (N:=some 32) (v:=?_) (a':=?_) #[true,true,true,true,true,true,false,false,false,false] rfl rfl (any_of HT_.out (by kernel_rfl)) (fun _ _ _ h => h) (Or.inl ⟨by rfl,?_⟩) ?_ ?_
     rotate_left
     ·intro w'
      go_simp
      with_reducible rfl
     rotate_left
     ·simp only [Act.put,List.setIfInBounds_toArray,List.set_cons_zero,List.set_cons_succ,i64_w,i32_w]
      rfl
     refine pure_ (i:=6) (N:=some 33) (v:=?_) (a':=?_) #[true,true,true,true,true,true,true,false,false,false] rfl rfl (any_of HT_.out (by kernel_rfl)) (fun _ _ _ h => h) (Or.inl ⟨by rfl,?_⟩) ?_ ?_
     rotate_left
     ·intro w'
      go_simp
      with_reducible rfl
     rotate_left
     ·simp only [Act.put,List.setIfInBounds_toArray,List.set_cons_zero,List.set_cons_succ,i64_w,i32_w]
      rfl
     refine take_ (i:=7) (N:=some 34) (v:=?_) (a':=?_) #[true,true,true,true,true,true,true,true,false,false] rfl rfl (take_ofW HT_.out HW_.out (by kernel_rfl)) (fun _ _ _ h => h) (Or.inl ⟨by rfl,?_⟩) hHeld ?_ ?_
     rotate_left
     ·rintro w' ⟨s0,s1,s2,s3,s4⟩
      go_simp
      with_reducible rfl
     rotate_left
     ·simp only [Act.put,List.setIfInBounds_toArray,List.set_cons_zero,List.set_cons_succ,i64_w,i32_w]
      rfl
     refine one_ (i:=8) (N:=some 35) #[true,true,true,true,true,true,true,true,true,false] rfl rfl (one_of HT_.out (by kernel_rfl)) (by decide) (fun K hK => ?_)
     refine goes_ Try.func36 (by kernel_rfl) rfl #[.agg #[.slice (some ad557) l0_0.length c0_0,.slice A0_1 l0_1.length c0_1],.float .f64 a1,.int .i64 ((rd_T40 l0_0 x8_2).f0)] (by rfl) rfl rfl (by (try simp only [List.map_toArray,List.map_cons,List.map_nil]);first | done | rfl | (simp only [List.length_drop,List.length_take];rfl)) ?_
     with_reducible refine (beaconref08_dists.calls k2 _ _ l0_0 _ _ l0_1 a1 ((rd_T40 l0_0 x8_2).f0) t558 _ ?side1 ?side2 ?side3 ?side4 A13.out).mono ?_
     (case side1 => repeat (first | exact (Kd.C_below HR0_0.out HB.out) | (with_reducible refine Kd.C_alloc ?_ _) | (with_reducible refine Kd.C_drewN ?_ _) | (with_reducible refine Kd.C_drew ?_)))
     (case side2 => exact HC0_0.out)
     (case side3 => repeat (first | exact (Kd.C_below HR0_1.out HB.out) | (with_reducible refine Kd.C_alloc ?_ _) | (with_reducible refine Kd.C_drewN ?_ _) | (with_reducible refine Kd.C_drew ?_)))
     (case side4 => exact HC0_1.out)
     rintro e w16 ⟨v559,rfl,ho0,hb⟩
     refine ⟨_,rfl,?_⟩
     have n0_:=Aside0.mk (Kd.R_lower ho0 (below_size (by repeat (first | (with_reducible first | exact HB.out | apply below_alloc | apply pw_below_drewN | apply below_drew1 | refine below_set ?_ GE554.out) | exact HB.out))))
     have n1_:=Aside0.mk (blk_below (g:=gb554) (o:=.cells #[.slice (some ad557) l0_0.length c0_0,.slice A0_1 l0_1.length c0_1] 25 (0,0)) (by (with_reducible repeat (first | refine blk_drewN ?_ _ | refine blk_drew ?_ | refine blk_alloc ?_ _));exact BK554.out) hb)
     have n2_:=Aside0.mk (below_step (by repeat (first | (with_reducible first | exact HB.out | apply below_alloc | apply pw_below_drewN | apply below_drew1 | refine below_set ?_ GE554.out) | exact HB.out)) hb)
     clear BK554
     clear HB
     have HO560:=n0_
     have BK554:=n1_
     have HB:=n2_
     clear n0_ n1_ n2_
     (try clear hb)
     (try clear hb2)
     (try clear hk)
     (try clear hi)
     (try clear ho0)
     refine hK.out _ _ ⟨(blk_cell BK554.out 0).trans rfl,(blk_cell BK554.out 1).trans rfl,((HB.out.cell (World.block_lt_of_cell? w _ hw557_0)).trans hw557_0),((HB.out.cell (World.block_lt_of_cell? w _ hw557_1)).trans hw557_1),((HB.out.cell (World.block_lt_of_cell? w _ hw557_2)).trans hw557_2)⟩ (fun hHeld => ?_)
     clear hK K
     refine norm_ (a':=?_) ?_ ?_
     rotate_left
     ·show Act.put _ (some 35) _ = _
      simp only [Act.put,List.setIfInBounds_toArray,List.set_cons_zero,List.set_cons_succ,i64_w,i32_w]
      rfl
     refine pure_ (i:=9) (N:=some 9) (v:=?_) (a':=?_) #[true,true,true,true,true,true,true,true,true,true] rfl rfl (any_of HT_.out (by kernel_rfl)) (fun _ _ _ h => h) (Or.inl ⟨by rfl,?_⟩) ?_ ?_
     rotate_left
     ·intro w'
      go_simp
      with_reducible rfl
     rotate_left
     ·simp only [Act.put,List.setIfInBounds_toArray,List.set_cons_zero,List.set_cons_succ,i64_w,i32_w]
      rfl
     refine done_ (done_of HT_.out (by kernel_rfl)) ?_
     try go_wp2
     go_loopg [7,10] k2 (fun kq v7 v10 w' => ∃ (x7_3:Nat) (x10_3:Int),v7 = .float .f64 x7_3 ∧ v10 = .int .i64 x10_3 ∧ Aside0 (beaconref08_Wide.l1 kq a1 x7_3 x8_2 t558 x10_3 l0_0 l0_1 = some (r1,r2)) ∧ Aside0 (kq ≤ k2) ∧ Aside0 (Kd.R Kd.float 26 w' w.heap.size (fun _ => True) v559 t558) ∧ Aside0 (w'.heap[gb554]? = some (.cells #[(.slice (some ad557) l0_0.length c0_0),(.slice A0_1 l0_1.length c0_1)] 25 (0,0))) ∧ Aside0 (Below w.heap.size w w'))
     case atStart => exact ⟨(x7_2),(0),(by first | rfl | (simp;done) | (simp [*];done)),(by first | rfl | (simp;done) | (simp [*];done)),H',⟨Nat.le_refl _⟩,⟨by (with_reducible repeat (first | apply Kd.R_alloc | apply Kd.R_drewN | apply Kd.R_drew));exact HO560.out⟩,⟨by (with_reducible repeat (first | refine blk_drewN ?_ _ | refine blk_drew ?_ | refine blk_alloc ?_ _));exact BK554.out⟩,⟨by repeat (first | (with_reducible first | exact HB.out | apply below_alloc | apply pw_below_drewN | apply below_drew1 | refine below_set ?_ GE554.out) | exact HB.out)⟩⟩
     case round =>
      clear H'
      obtain ⟨x7_3,x10_3,rfl,rfl,HA,HK3,HO_9,BK554,HB⟩:=hrel
      cases gk with
      | zero => exact absurd HA.out (by simp [beaconref08_Wide.l1])
      | succ k3 =>
       have H:=HA.out
       clear HA
       simp only [beaconref08_Wide.l1] at H
       by_cases c17:x10_3 < (t558.length:Int)
       rotate_left
       ·rw [if_neg c17] at H
        have c17b0:decide (x10_3 < (t558.length:Int)) = false:=decide_eq_false c17
        clear c17
        have H':=Aside0.mk H
        clear H
        obtain ⟨Ao25,co25,eo25⟩:=Kd.R_slice HO_9.out
        subst eo25
        go_wp2
        go_roundg k3
        case measure => have:=HJ3.out;have:=HK2.out;have:=HK3.out;omega
        case rel => exact ⟨(x7_3),(wrap64 (x8_2 + 1)),(by first | rfl | (simp;done) | (simp [*];done)),(by first | rfl | (simp;done) | (simp [*];done)),H',⟨by have:=HJ3.out;have:=HK2.out;have:=HK3.out;omega⟩,⟨by (with_reducible repeat (first | refine blk_drewN ?_ _ | refine blk_drew ?_ | refine blk_alloc ?_ _));exact BK554.out⟩,⟨by repeat (first | (with_reducible first | exact HB.out | apply below_alloc | apply pw_below_drewN | apply below_drew1 | refine below_set ?_ GE554.out) | exact HB.out)⟩⟩
       rw [if_pos c17] at H
       have c17b0:decide (x10_3 < (t558.length:Int)) = true:=decide_eq_true c17
       clear c17
       by_cases c18:0 ≤ x10_3
       rotate_left
       ·rw [if_neg c18] at H
        exact absurd H (by simp)
       rw [if_pos c18] at H
       have c18b0:decide (0 ≤ x10_3) = true:=decide_eq_true c18
       clear c18
       replace H:=Option.bind_eq_some_iff.mp H
       obtain ⟨t562,A190,H⟩:=H
       replace H:(if t562 = true then (beaconref08_Wide.l1 k3 a1 x7_3 x8_2 t558 (wrap64 (x10_3 + 1)) l0_0 l0_1) else (if (FloatKind.f64.format.order (rdOf (0:Nat) t558 x10_3) x7_3 == some .gt) = true then (beaconref08_Wide.l1 k3 a1 (rdOf (0:Nat) t558 x10_3) x8_2 t558 (wrap64 (x10_3 + 1)) l0_0 l0_1) else (beaconref08_Wide.l1 k3 a1 x7_3 x8_2 t558 (wrap64 (x10_3 + 1)) l0_0 l0_1))) = some (r1,r2):=H
       have A19:=Aside0.mk A190
       clear A190
       by_cases c20:t562 = true
       ·subst c20
        have H1:(beaconref08_Wide.l1 k3 a1 x7_3 x8_2 t558 (wrap64 (x10_3 + 1)) l0_0 l0_1) = some (r1,r2):=by rw [if_pos rfl] at H;exact H
        clear H
        have H:=H1
        clear H1
        have H':=Aside0.mk H
        clear H
        obtain ⟨Ao21,co21,eo21⟩:=Kd.R_slice HO_9.out
        subst eo21
        have p561:0 ≤ (x10_3:Int):=of_decide_eq_true (by first | (with_reducible assumption) | assumption)
        have q561:x10_3 < (t558.length:Int):=of_decide_eq_true (by first | (with_reducible assumption) | assumption)
        obtain ⟨ad561,e561,hx561_0⟩:=Kd.at_float (Kd.R_reads' HO_9.out).2.2 x10_3 p561 q561
        cases e561
        replace p561:=eq_true p561
        replace q561:=eq_true q561
        go_wp2_with (first | ((with_reducible refine gate_callee (f:=20) rfl ?_);refine goesL_ (some 46) rfl rfl Try.func20 (by kernel_rfl) rfl #[.float .f64 (rdOf (0:Nat) t558 x10_3),.int .i64 1] rfl (by (try simp only [List.map_toArray,List.map_cons,List.map_nil]);first | done | rfl | (simp only [List.length_drop,List.length_take];rfl)) ?_;(with_reducible refine (math_IsInf.calls (rdOf (0:Nat) t558 x10_3) 1 true _ A19.out).mono ?_);rintro e w' ⟨rfl,⟨nd,rfl⟩⟩;refine ⟨_,rfl,?_⟩))
        go_roundg k3
        case measure => have:=HJ3.out;have:=HK2.out;have:=HK3.out;omega
        case rel => exact ⟨(x7_3),(wrap64 (x10_3 + 1)),(by first | rfl | (simp;done) | (simp [*];done)),(by first | rfl | (simp;done) | (simp [*];done)),H',⟨by have:=HJ3.out;have:=HK2.out;have:=HK3.out;omega⟩,⟨by (with_reducible repeat (first | apply Kd.R_alloc | apply Kd.R_drewN | apply Kd.R_drew));exact HO_9.out⟩,⟨by (with_reducible repeat (first | refine blk_drewN ?_ _ | refine blk_drew ?_ | refine blk_alloc ?_ _));exact BK554.out⟩,⟨by repeat (first | (with_reducible first | exact HB.out | apply below_alloc | apply pw_below_drewN | apply below_drew1 | refine below_set ?_ GE554.out) | exact HB.out)⟩⟩
       replace c20:=Bool.eq_false_iff.mpr c20
       subst c20
       have H1:(if (FloatKind.f64.format.order (rdOf (0:Nat) t558 x10_3) x7_3 == some .gt) = true then (beaconref08_Wide.l1 k3 a1 (rdOf (0:Nat) t558 x10_3) x8_2 t558 (wrap64 (x10_3 + 1)) l0_0 l0_1) else (beaconref08_Wide.l1 k3 a1 x7_3 x8_2 t558 (wrap64 (x10_3 + 1)) l0_0 l0_1)) = some (r1,r2):=by rw [if_neg (show ¬ (false = true) by decide)] at H;exact H
       clear H
       have H:=H1
       clear H1
       by_cases c22:(FloatKind.f64.format.order (rdOf (0:Nat) t558 x10_3) x7_3 == some .gt) = true
       ·rw [if_pos c22] at H
        have c22b0:(FloatKind.f64.format.order (rdOf (0:Nat) t558 x10_3) x7_3 == some .gt) = true:=c22
        (try (have c22b1:decide (FloatKind.f64.format.order (rdOf (0:Nat) t558 x10_3) x7_3 = some .gt) = true:=by simpa using c22))
        (try (have c22b2:(FloatKind.f64.format.order (rdOf (0:Nat) t558 x10_3) x7_3 == some .gt) = true:=by simpa using c22))
        clear c22
        have H':=Aside0.mk H
        clear H
        obtain ⟨Ao23,co23,eo23⟩:=Kd.R_slice HO_9.out
        subst eo23
        have p561:0 ≤ (x10_3:Int):=of_decide_eq_true (by first | (with_reducible assumption) | assumption)
        have q561:x10_3 < (t558.length:Int):=of_decide_eq_true (by first | (with_reducible assumption) | assumption)
        obtain ⟨ad561,e561,hx561_0⟩:=Kd.at_float (Kd.R_reads' HO_9.out).2.2 x10_3 p561 q561
        cases e561
        replace p561:=eq_true p561
        replace q561:=eq_true q561
        go_wp2_with (first | ((with_reducible refine gate_callee (f:=20) rfl ?_);refine goesL_ (some 46) rfl rfl Try.func20 (by kernel_rfl) rfl #[.float .f64 (rdOf (0:Nat) t558 x10_3),.int .i64 1] rfl (by (try simp only [List.map_toArray,List.map_cons,List.map_nil]);first | done | rfl | (simp only [List.length_drop,List.length_take];rfl)) ?_;(with_reducible refine (math_IsInf.calls (rdOf (0:Nat) t558 x10_3) 1 false _ A19.out).mono ?_);rintro e w' ⟨rfl,⟨nd,rfl⟩⟩;refine ⟨_,rfl,?_⟩;have p563:0 ≤ (x10_3:Int):=of_decide_eq_true (by first | (with_reducible assumption) | assumption);have q563:x10_3 < (t558.length:Int):=of_decide_eq_true (by first | (with_reducible assumption) | assumption);obtain ⟨ad563,e563,hx563_0⟩:=Kd.at_float (Kd.R_reads' HO_9.out).2.2 x10_3 p563 q563;obtain rfl:ad561 = ad563:=(by injection e563);replace p563:=eq_true p563;replace q563:=eq_true q563;have p564:0 ≤ (x10_3:Int):=of_decide_eq_true (by first | (with_reducible assumption) | assumption);have q564:x10_3 < (t558.length:Int):=of_decide_eq_true (by first | (with_reducible assumption) | assumption);obtain ⟨ad564,e564,hx564_0⟩:=Kd.at_float (Kd.R_reads' HO_9.out).2.2 x10_3 p564 q564;obtain rfl:ad561 = ad564:=(by injection e564);replace p564:=eq_true p564;replace q564:=eq_true q564))
        go_roundg k3
        case measure => have:=HJ3.out;have:=HK2.out;have:=HK3.out;omega
        case rel => exact ⟨(rdOf (0:Nat) t558 x10_3),(wrap64 (x10_3 + 1)),(by first | rfl | (simp;done) | (simp [*];done)),(by first | rfl | (simp;done) | (simp [*];done)),H',⟨by have:=HJ3.out;have:=HK2.out;have:=HK3.out;omega⟩,⟨by (with_reducible repeat (first | apply Kd.R_alloc | apply Kd.R_drewN | apply Kd.R_drew));exact HO_9.out⟩,⟨by (with_reducible repeat (first | refine blk_drewN ?_ _ | refine blk_drew ?_ | refine blk_alloc ?_ _));exact BK554.out⟩,⟨by repeat (first | (with_reducible first | exact HB.out | apply below_alloc | apply pw_below_drewN | apply below_drew1 | refine below_set ?_ GE554.out) | exact HB.out)⟩⟩
       rw [if_neg c22] at H
       have c22b0:(FloatKind.f64.format.order (rdOf (0:Nat) t558 x10_3) x7_3 == some .gt) = false:=by simpa using c22
       (try (have c22b1:decide (FloatKind.f64.format.order (rdOf (0:Nat) t558 x10_3) x7_3 = some .gt) = false:=by simpa using c22))
       (try (have c22b2:(FloatKind.f64.format.order (rdOf (0:Nat) t558 x10_3) x7_3 == some .gt) = false:=by simpa using c22))
       (try (have c22b3:¬ (FloatKind.f64.format.order (rdOf (0:Nat) t558 x10_3) x7_3 = some .gt):=by simpa using c22))
       clear c22
       have H':=Aside0.mk H
       clear H
       obtain ⟨Ao24,co24,eo24⟩:=Kd.R_slice HO_9.out
       subst eo24
       have p561:0 ≤ (x10_3:Int):=of_decide_eq_true (by first | (with_reducible assumption) | assumption)
       have q561:x10_3 < (t558.length:Int):=of_decide_eq_true (by first | (with_reducible assumption) | assumption)
       obtain ⟨ad561,e561,hx561_0⟩:=Kd.at_float (Kd.R_reads' HO_9.out).2.2 x10_3 p561 q561
       cases e561
       replace p561:=eq_true p561
       replace q561:=eq_true q561
       go_wp2_with (first | ((with_reducible refine gate_callee (f:=20) rfl ?_);refine goesL_ (some 46) rfl rfl Try.func20 (by kernel_rfl) rfl #[.float .f64 (rdOf (0:Nat) t558 x10_3),.int .i64 1] rfl (by (try simp only [List.map_toArray,List.map_cons,List.map_nil]);first | done | rfl | (simp only [List.length_drop,List.length_take];rfl)) ?_;(with_reducible refine (math_IsInf.calls (rdOf (0:Nat) t558 x10_3) 1 false _ A19.out).mono ?_);rintro e w' ⟨rfl,⟨nd,rfl⟩⟩;refine ⟨_,rfl,?_⟩;have p563:0 ≤ (x10_3:Int):=of_decide_eq_true (by first | (with_reducible assumption) | assumption);have q563:x10_3 < (t558.length:Int):=of_decide_eq_true (by first | (with_reducible assumption) | assumption);obtain ⟨ad563,e563,hx563_0⟩:=Kd.at_float (Kd.R_reads' HO_9.out).2.2 x10_3 p563 q563;obtain rfl:ad561 = ad563:=(by injection e563);replace p563:=eq_true p563;replace q563:=eq_true q563))
       go_roundg k3
       case measure => have:=HJ3.out;have:=HK2.out;have:=HK3.out;omega
       case rel => exact ⟨(x7_3),(wrap64 (x10_3 + 1)),(by first | rfl | (simp;done) | (simp [*];done)),(by first | rfl | (simp;done) | (simp [*];done)),H',⟨by have:=HJ3.out;have:=HK2.out;have:=HK3.out;omega⟩,⟨by (with_reducible repeat (first | apply Kd.R_alloc | apply Kd.R_drewN | apply Kd.R_drew));exact HO_9.out⟩,⟨by (with_reducible repeat (first | refine blk_drewN ?_ _ | refine blk_drew ?_ | refine blk_alloc ?_ _));exact BK554.out⟩,⟨by repeat (first | (with_reducible first | exact HB.out | apply below_alloc | apply pw_below_drewN | apply below_drew1 | refine below_set ?_ GE554.out) | exact HB.out)⟩⟩
end Go.Proofs.Ytmdkcecbklgihaa.PA
