/- Printed by a program of this session (wip/tools/patch_print.py and pr.py, over the kit's print): each Go function as a plain Lean function, and that the Go code comes to just its answers. Conditions: those that each theorem names. -/
import Derived.Test.YtmdkcecbklgihaaCcPAx0
import Derived.Test.YtmdkcecbklgihaaCcPAx4
import Derived.Test.YtmdkcecbklgihaaCcPAx5
namespace Go.Proofs.Ytmdkcecbklgihaa.PA
open Go.RowKit Go.Proofs.YtmdkcecbklgihaaW.PrintWords Go.Proofs.YtmdkcecbklgihaaW.PrintLast Go.Proofs.YtmdkcecbklgihaaW.PrintMore
attribute [local go_sem] max2_int min2_int max_two min_two max_three min_three max_four min_four
set_option linter.unusedVariables false
set_option linter.unusedSimpArgs false
mutual
noncomputable def beaconref08_Components.l0:Nat → List Int → Int → List (S40) → List (S74) → Option ((List (List Int)) × Int)
 | 0,_,_,_,_ => none
 | k + 1,x5,x6,x520000,x520001 => if x6 < (x5.length:Int) then (if 0 ≤ x6 then (if x6 < (x520000.length:Int) then (beaconref08_Components.l0 k (x5.set (x6:Int).toNat ((rd_T40 x520000 x6).f0)) (wrap64 (x6 + 1)) x520000 x520001) else (none)) else (none)) else (beaconref08_Components.l1 k x5 true x520000 x520001)
noncomputable def beaconref08_Components.l1:Nat → List Int → Bool → List (S40) → List (S74) → Option ((List (List Int)) × Int)
 | 0,_,_,_,_ => none
 | k + 1,x5,x7,x520000,x520001 => if x7 = true then (beaconref08_Components.l2 k x5 false 0 x520000 x520001) else (beaconref08_Components.l3 k x5 ([]:List (List Int)) 0 x520000 x520001)
noncomputable def beaconref08_Components.l2:Nat → List Int → Bool → Int → List (S40) → List (S74) → Option ((List (List Int)) × Int)
 | 0,_,_,_,_,_ => none
 | k + 1,x5,x7,x8,x520000,x520001 => if x8 < (x520001.length:Int) then (if 0 ≤ x8 then ((beaconref08_place.f k x520000 x520001 ((rd_T74 x520001 x8).f0)).bind fun t528 => ((beaconref08_place.f k x520000 x520001 ((rd_T74 x520001 x8).f1)).bind fun t529 => (if (rd_T74 x520001 x8).f3 = true then (if 0 ≤ t528 then (if t528 < (x520000.length:Int) then (if (rd_T40 x520000 t528).f1 = true then (if 0 ≤ t529 then (if t529 < (x520000.length:Int) then (if (rd_T40 x520000 t529).f1 = true then (if t528 < (x5.length:Int) then (if t529 < (x5.length:Int) then (beaconref08_Components.j3 k x5 x7 x8 t528 t529 ((rd x5 t528) != (rd x5 t529)) x520000 x520001) else (none)) else (none)) else (beaconref08_Components.j3 k x5 x7 x8 t528 t529 false x520000 x520001)) else (none)) else (none)) else (beaconref08_Components.j3 k x5 x7 x8 t528 t529 false x520000 x520001)) else (none)) else (none)) else (beaconref08_Components.j3 k x5 x7 x8 t528 t529 false x520000 x520001)))) else (none)) else (beaconref08_Components.l1 k x5 x7 x520000 x520001)
noncomputable def beaconref08_Components.j3:Nat → List Int → Bool → Int → Int → Int → Bool → List (S40) → List (S74) → Option ((List (List Int)) × Int)
 | 0,_,_,_,_,_,_,_,_ => none
 | k + 1,x5,x7,x8,x10,x11,x90,x520000,x520001 => if x90 = true then (if 0 ≤ x10 then (if x10 < (x5.length:Int) then (if 0 ≤ x11 then (if x11 < (x5.length:Int) then (if (rd x5 x11) < (rd x5 x10) then (beaconref08_Components.l2 k ((x5.set (x10:Int).toNat (rd x5 x11)).set (x11:Int).toNat (rd x5 x11)) true (wrap64 (x8 + 1)) x520000 x520001) else (beaconref08_Components.l2 k ((x5.set (x10:Int).toNat (rd x5 x10)).set (x11:Int).toNat (rd x5 x10)) true (wrap64 (x8 + 1)) x520000 x520001)) else (none)) else (none)) else (none)) else (none)) else (beaconref08_Components.l2 k x5 x7 (wrap64 (x8 + 1)) x520000 x520001)
noncomputable def beaconref08_Components.l3:Nat → List Int → List (List Int) → Int → List (S40) → List (S74) → Option ((List (List Int)) × Int)
 | 0,_,_,_,_,_ => none
 | k + 1,x5,x13,x14,x520000,x520001 => if x14 < (x520000.length:Int) then (if 0 ≤ x14 then (if ((rd_T40 x520000 x14).f1 = true) then (if x14 < (x5.length:Int) then (beaconref08_Components.j5 k x5 x13 x14 ((rd x5 x14) != ((rd_T40 x520000 x14).f0)) x520000 x520001) else (none)) else (beaconref08_Components.j5 k x5 x13 x14 true x520000 x520001)) else (none)) else (some (x13,0))
noncomputable def beaconref08_Components.j5:Nat → List Int → List (List Int) → Int → Bool → List (S40) → List (S74) → Option ((List (List Int)) × Int)
 | 0,_,_,_,_,_,_ => none
 | k + 1,x5,x13,x14,x139,x520000,x520001 => if x139 = true then (beaconref08_Components.l3 k x5 x13 (wrap64 (x14 + 1)) x520000 x520001) else (beaconref08_Components.l4 k x5 x13 x14 ([]:List Int) 0 x520000 x520001)
noncomputable def beaconref08_Components.l4:Nat → List Int → List (List Int) → Int → List Int → Int → List (S40) → List (S74) → Option ((List (List Int)) × Int)
 | 0,_,_,_,_,_,_,_ => none
 | k + 1,x5,x13,x14,x15,x16,x520000,x520001 => if x16 < (x520000.length:Int) then (if 0 ≤ x16 then (if (rd_T40 x520000 x16).f1 = true then (if x16 < (x5.length:Int) then (if 0 ≤ x14 then (if x14 < (x5.length:Int) then (if (rd x5 x16) = (rd x5 x14) then (if x15.length < 17592186044416 then (beaconref08_Components.l4 k x5 x13 x14 (x15 ++ [(rd_T40 x520000 x16).f0]) (wrap64 (x16 + 1)) x520000 x520001) else (none)) else (beaconref08_Components.l4 k x5 x13 x14 x15 (wrap64 (x16 + 1)) x520000 x520001)) else (none)) else (none)) else (none)) else (beaconref08_Components.l4 k x5 x13 x14 x15 (wrap64 (x16 + 1)) x520000 x520001)) else (none)) else (if x13.length < 5864062014805 then (beaconref08_Components.l3 k x5 (x13 ++ [x15]) (wrap64 (x14 + 1)) x520000 x520001) else (none))
end
noncomputable def beaconref08_Components.f (k:Nat) (l0_0:List (S40)) (l0_1:List (S74)):Option ((List (List Int)) × Int):=(beaconref07_Check.f k l0_0 l0_1).bind fun t520 => (if t520 = 0 then (if 0 ≤ (l0_0.length:Int) then (if ((l0_0.length:Int):Int).toNat ≤ 35184372088832 then (beaconref08_Components.l0 k (List.replicate ((l0_0.length:Int):Int).toNat 0) 0 l0_0 l0_1) else (none)) else (none)) else (some (([]:List (List Int)),t520)))
set_option maxHeartbeats 8000000 in
set_option maxRecDepth 100000 in
theorem beaconref08_Components.calls (k:Nat) (A0_0:Option Addr) (c0_0:Nat) (l0_0:List (S40)) (A0_1:Option Addr) (c0_1:Nat) (l0_1:List (S74)) (r1:List (List Int)) (r2:Int) (w:World) (hr0_0:Kd.C k40 w A0_0 l0_0.length l0_0) (hc0_0:l0_0.length ≤ c0_0) (hr0_1:Kd.C k74 w A0_1 l0_1.length l0_1) (hc0_1:l0_1.length ≤ c0_1) (h:beaconref08_Components.f k l0_0 l0_1 = some (r1,r2)) :
  Calls Try.prog 28 #[.agg #[.slice A0_0 l0_0.length c0_0,.slice A0_1 l0_1.length c0_1]] w fun e w' => ∃ v0_:Value,e = .returned (.tuple #[v0_,.int .i64 r2]) ∧ Kd.S (Kd.slice 3 (Kd.int .i64)) 27 w' w.heap.size (fun _ => True) v0_ r1 ∧ Below w.heap.size w w':=by
 have hu25:=Try.underlying25
 have hu74:=Try.underlying74
 have HR0_0:=Aside0.mk hr0_0
 have HC0_0:=Aside0.mk hc0_0
 clear hr0_0 hc0_0
 have HR0_1:=Aside0.mk hr0_1
 have HC0_1:=Aside0.mk hc0_1
 clear hr0_1 hc0_1
 have HB:=Aside0.mk (Below.refl w.heap.size w)
 have H:((beaconref07_Check.f k l0_0 l0_1).bind fun t520 => (if t520 = 0 then (if 0 ≤ (l0_0.length:Int) then (if ((l0_0.length:Int):Int).toNat ≤ 35184372088832 then (beaconref08_Components.l0 k (List.replicate ((l0_0.length:Int):Int).toNat 0) 0 l0_0 l0_1) else (none)) else (none)) else (some (([]:List (List Int)),t520)))) = some (r1,r2):=h
 clear h
 replace H:=Option.bind_eq_some_iff.mp H
 obtain ⟨t520,A20,H⟩:=H
 replace H:(if t520 = 0 then (if 0 ≤ (l0_0.length:Int) then (if ((l0_0.length:Int):Int).toNat ≤ 35184372088832 then (beaconref08_Components.l0 k (List.replicate ((l0_0.length:Int):Int).toNat 0) 0 l0_0 l0_1) else (none)) else (none)) else (some (([]:List (List Int)),t520))) = some (r1,r2):=H
 have A2:=Aside0.mk A20
 clear A20
 by_cases c3:t520 = 0
 rotate_left
 ·rw [if_neg c3] at H
  have c3b0:(t520 == 0) = false:=beq_eq_false_iff_ne.mpr c3
  have c3b1:(t520 != 0) = true:=bne_iff_ne.mpr c3
  simp only [Option.some.injEq,Prod.mk.injEq] at H
  obtain ⟨rfl,rfl⟩:=H
  go_enter Try.func28,Try.ntmps28
  go_wp2_with (first | ((with_reducible refine gate_dst (N:=1) rfl ?_);refine box_event ?hg (N:=1) ?hd (cs:=#[.slice A0_0 l0_0.length c0_0,.slice A0_1 l0_1.length c0_1]) (t:=25) ?hr ?_;(case hd => rfl);(case hg => rfl);(case hr => first | (go_simp;done) | (go_simp;rfl));intro gb519 hg w106 hbox hb;have n0_:=Aside0.mk (below_step (by repeat (first | (with_reducible first | exact HB.out | apply below_alloc | apply pw_below_drewN | apply below_drew1) | exact HB.out)) hb);have n1_:=Aside0.mk (hbox);have n2_:=Aside0.mk ((by rw [hg];exact (below_size (by repeat (first | (with_reducible first | exact HB.out | apply below_alloc | apply pw_below_drewN | apply below_drew1) | exact HB.out))):w.heap.size ≤ gb519));have n3_:=Aside0.mk ((by rw [hg];exact (below_size (by repeat (first | (with_reducible first | exact HB.out | apply below_alloc | apply pw_below_drewN | apply below_drew1) | exact HB.out))):w.heap.size ≤ gb519));clear HB;have HB:=n0_;have BK519:=n1_;have GW519:=n2_;have GE519:=n3_;clear n0_ n1_ n2_ n3_;clear hb hbox hg;have hcz107_0:w106.cell? ⟨gb519,0,none⟩ = some (.slice A0_0 l0_0.length c0_0):=(blk_cell BK519.out 0).trans rfl;have hcz107_1:w106.cell? ⟨gb519,1,none⟩ = some (.slice A0_1 l0_1.length c0_1):=(blk_cell BK519.out 1).trans rfl;have hfz107_0:=blk_frozen BK519.out 0;have hfz107_1:=blk_frozen BK519.out 1) | (go_at_call 19;(with_reducible refine (beaconref07_Check.calls k _ _ l0_0 _ _ l0_1 t520 _ ?side1 ?side2 ?side3 ?side4 A2.out).mono ?_);(case side1 => repeat (first | exact (Kd.C_below HR0_0.out HB.out) | (with_reducible refine Kd.C_alloc ?_ _) | (with_reducible refine Kd.C_drewN ?_ _) | (with_reducible refine Kd.C_drew ?_)));(case side2 => exact HC0_0.out);(case side3 => repeat (first | exact (Kd.C_below HR0_1.out HB.out) | (with_reducible refine Kd.C_alloc ?_ _) | (with_reducible refine Kd.C_drewN ?_ _) | (with_reducible refine Kd.C_drew ?_)));(case side4 => exact HC0_1.out);rintro e w108 ⟨rfl,hb⟩;have n0_:=Aside0.mk (blk_below (g:=gb519) (o:=.cells #[.slice A0_0 l0_0.length c0_0,.slice A0_1 l0_1.length c0_1] 25 (0,0)) (by (with_reducible repeat (first | refine blk_drewN ?_ _ | refine blk_drew ?_ | refine blk_alloc ?_ _));exact BK519.out) hb);have n1_:=Aside0.mk (below_step (by repeat (first | (with_reducible first | exact HB.out | apply below_alloc | apply pw_below_drewN | apply below_drew1 | refine below_set ?_ GE519.out) | exact HB.out)) hb);clear BK519;clear HB;have BK519:=n0_;have HB:=n1_;clear n0_ n1_;(try clear hb);(try clear hb2);(try clear hk);(try clear hi)))
  go_ret2
  exact ⟨_,by first | rfl | (simp [errW_none,errW_some] <;> rfl) | (simp [*,errW_none,errW_some] <;> rfl),by first | exact Kd.S_nil _ _ _ _ _ | exact Kd.N_nil _ _ _ _ _ | exact Kd.V_nil _ _ _ _ _ | exact Kd.Q_nil _ _ _ _ _ | exact Kd.R_nil _ _ _ _ _,by repeat (first | (with_reducible first | exact HB.out | apply below_alloc | apply pw_below_drewN | apply below_drew1 | refine below_set ?_ GE519.out) | exact HB.out)⟩
 rw [if_pos c3] at H
 have c3b0:(t520 == 0) = true:=beq_iff_eq.mpr c3
 have c3b1:(t520 != 0) = false:=bne_eq_false_iff_eq.mpr c3
 clear c3
 by_cases c4:0 ≤ (l0_0.length:Int)
 rotate_left
 ·rw [if_neg c4] at H
  exact absurd H (by simp)
 rw [if_pos c4] at H
 have c4b0:=eq_true c4
 have c4b1:decide (0 ≤ (l0_0.length:Int)) = true:=decide_eq_true c4
 clear c4
 by_cases c5:((l0_0.length:Int):Int).toNat ≤ 35184372088832
 rotate_left
 ·rw [if_neg c5] at H
  exact absurd H (by simp)
 rw [if_pos c5] at H
 have c5b0:=eq_true c5
 have c5b1:decide (((l0_0.length:Int):Int).toNat ≤ 35184372088832) = true:=decide_eq_true c5
 clear c5
 obtain ⟨y521,hy521⟩:∃ y_:List Int,y_ = (List.replicate ((l0_0.length:Int):Int).toNat 0):=⟨_,rfl⟩
 replace H:(beaconref08_Components.l0 k y521 0 l0_0 l0_1) = some (r1,r2):=by first | (rw [hy521];with_reducible exact H) | (have H2_:=(Option.bind_some _ _).symm.trans H;rw [hy521];with_reducible exact H2_) | (have H2_:=(Option.bind_some _ _).symm.trans H;with_reducible exact H2_) | with_reducible exact H | (rw [hy521];exact H) | exact H
 have Ny521:=Aside0.mk hy521
 clear hy521
 have H':=Aside0.mk H
 clear H
 go_enter Try.func28,Try.ntmps28
 go_wp2_with (first | ((with_reducible refine gate_dst (N:=1) rfl ?_);refine box_event ?hg (N:=1) ?hd (cs:=#[.slice A0_0 l0_0.length c0_0,.slice A0_1 l0_1.length c0_1]) (t:=25) ?hr ?_;(case hd => rfl);(case hg => rfl);(case hr => first | (go_simp;done) | (go_simp;rfl));intro gb519 hg w6 hbox hb;have n0_:=Aside0.mk (below_step (by repeat (first | (with_reducible first | exact HB.out | apply below_alloc | apply pw_below_drewN | apply below_drew1) | exact HB.out)) hb);have n1_:=Aside0.mk (hbox);have n2_:=Aside0.mk ((by rw [hg];exact (below_size (by repeat (first | (with_reducible first | exact HB.out | apply below_alloc | apply pw_below_drewN | apply below_drew1) | exact HB.out))):w.heap.size ≤ gb519));have n3_:=Aside0.mk ((by rw [hg];exact (below_size (by repeat (first | (with_reducible first | exact HB.out | apply below_alloc | apply pw_below_drewN | apply below_drew1) | exact HB.out))):w.heap.size ≤ gb519));clear HB;have HB:=n0_;have BK519:=n1_;have GW519:=n2_;have GE519:=n3_;clear n0_ n1_ n2_ n3_;clear hb hbox hg;have hcz7_0:w6.cell? ⟨gb519,0,none⟩ = some (.slice A0_0 l0_0.length c0_0):=(blk_cell BK519.out 0).trans rfl;have hcz7_1:w6.cell? ⟨gb519,1,none⟩ = some (.slice A0_1 l0_1.length c0_1):=(blk_cell BK519.out 1).trans rfl;have hfz7_0:=blk_frozen BK519.out 0;have hfz7_1:=blk_frozen BK519.out 1) | (go_at_call 19;(with_reducible refine (beaconref07_Check.calls k _ _ l0_0 _ _ l0_1 t520 _ ?side1 ?side2 ?side3 ?side4 A2.out).mono ?_);(case side1 => repeat (first | exact (Kd.C_below HR0_0.out HB.out) | (with_reducible refine Kd.C_alloc ?_ _) | (with_reducible refine Kd.C_drewN ?_ _) | (with_reducible refine Kd.C_drew ?_)));(case side2 => exact HC0_0.out);(case side3 => repeat (first | exact (Kd.C_below HR0_1.out HB.out) | (with_reducible refine Kd.C_alloc ?_ _) | (with_reducible refine Kd.C_drewN ?_ _) | (with_reducible refine Kd.C_drew ?_)));(case side4 => exact HC0_1.out);rintro e w8 ⟨rfl,hb⟩;have n0_:=Aside0.mk (blk_below (g:=gb519) (o:=.cells #[.slice A0_0 l0_0.length c0_0,.slice A0_1 l0_1.length c0_1] 25 (0,0)) (by (with_reducible repeat (first | refine blk_drewN ?_ _ | refine blk_drew ?_ | refine blk_alloc ?_ _));exact BK519.out) hb);have n1_:=Aside0.mk (below_step (by repeat (first | (with_reducible first | exact HB.out | apply below_alloc | apply pw_below_drewN | apply below_drew1 | refine below_set ?_ GE519.out) | exact HB.out)) hb);clear BK519;clear HB;have BK519:=n0_;have HB:=n1_;clear n0_ n1_;(try clear hb);(try clear hb2);(try clear hk);(try clear hi);have hcz9_0:w8.cell? ⟨gb519,0,none⟩ = some (.slice A0_0 l0_0.length c0_0):=(blk_cell BK519.out 0).trans rfl;have hcz9_1:w8.cell? ⟨gb519,1,none⟩ = some (.slice A0_1 l0_1.length c0_1):=(blk_cell BK519.out 1).trans rfl;have hfz9_0:=blk_frozen BK519.out 0;have hfz9_1:=blk_frozen BK519.out 1) | ((with_reducible refine gate_dst (N:=25) rfl ?_);refine Kd.R_make (Kd.int .i64) _ 3 rfl (N:=25) rfl 27 _ _ rfl (l0_0.length:Int) rfl rfl Try.underlying27 (.int .i64 0) 8 info3 rfl (by decide) (by omega) 0 (ok:=fun _ => True) (okp:=fun _ => True) rfl (fun _ hk => hk) trivial (of_decide_eq_true (by first | (with_reducible assumption) | assumption)) (Nat.le_trans (Nat.mul_le_mul_right _ (of_decide_eq_true (by first | (with_reducible assumption) | assumption):(l0_0.length:Int).toNat ≤ 35184372088832)) (by omega)) (Below.refl _ _) (Nat.le_refl _) ?_;intro v522 w10 ho11 hb hg_ hnew_;clear hg_ hnew_;(first | rw [← Ny521.out] at ho11 | (simp only [Int.reduceToNat] at ho11;rw [← Ny521.out] at ho11));have n0_:=Aside0.mk (Kd.R_lower ho11 (below_size (by repeat (first | (with_reducible first | exact HB.out | apply below_alloc | apply pw_below_drewN | apply below_drew1 | refine below_set ?_ GE519.out) | exact HB.out))));have n1_:=Aside0.mk (blk_below (g:=gb519) (o:=.cells #[.slice A0_0 l0_0.length c0_0,.slice A0_1 l0_1.length c0_1] 25 (0,0)) (by (with_reducible repeat (first | refine blk_drewN ?_ _ | refine blk_drew ?_ | refine blk_alloc ?_ _));exact BK519.out) hb);have n2_:=Aside0.mk (below_step (by repeat (first | (with_reducible first | exact HB.out | apply below_alloc | apply pw_below_drewN | apply below_drew1 | refine below_set ?_ GE519.out) | exact HB.out)) hb);clear BK519;clear HB;have HO523:=n0_;have BK519:=n1_;have HB:=n2_;clear n0_ n1_ n2_;clear hb ho11))
 go_loopg [6] k (fun kq v6 w' => ∃ (x5_1:List Int) (x6_1:Int),v6 = .int .i64 x6_1 ∧ Aside0 (beaconref08_Components.l0 kq x5_1 x6_1 l0_0 l0_1 = some (r1,r2)) ∧ Aside0 (kq ≤ k) ∧ Aside0 (Kd.R (Kd.int .i64) 3 w' w.heap.size (fun _ => True) v522 x5_1) ∧ Aside0 (w'.heap[gb519]? = some (.cells #[(.slice A0_0 l0_0.length c0_0),(.slice A0_1 l0_1.length c0_1)] 25 (0,0))) ∧ Aside0 (Below w.heap.size w w'))
 case atStart => exact ⟨(y521),(0),(by first | rfl | (simp;done) | (simp [*];done)),H',⟨Nat.le_refl _⟩,⟨by (with_reducible repeat (first | apply Kd.R_alloc | apply Kd.R_drewN | apply Kd.R_drew));exact HO523.out⟩,⟨by (with_reducible repeat (first | refine blk_drewN ?_ _ | refine blk_drew ?_ | refine blk_alloc ?_ _));exact BK519.out⟩,⟨by repeat (first | (with_reducible first | exact HB.out | apply below_alloc | apply pw_below_drewN | apply below_drew1 | refine below_set ?_ GE519.out) | exact HB.out)⟩⟩
 case round =>
  clear H'
  obtain ⟨x5_1,x6_1,rfl,HA,HK1,HO_5,BK519,HB⟩:=hrel
  cases gk with
  | zero => exact absurd HA.out (by simp [beaconref08_Components.l0])
  | succ k1 =>
   have H:=HA.out
   clear HA
   simp only [beaconref08_Components.l0] at H
   by_cases c12:x6_1 < (x5_1.length:Int)
   ·rw [if_pos c12] at H
    have c12b0:decide (x6_1 < (x5_1.length:Int)) = true:=decide_eq_true c12
    clear c12
    by_cases c13:0 ≤ x6_1
    rotate_left
    ·rw [if_neg c13] at H
     exact absurd H (by simp)
    rw [if_pos c13] at H
    have c13b0:decide (0 ≤ x6_1) = true:=decide_eq_true c13
    clear c13
    by_cases c14:x6_1 < (l0_0.length:Int)
    rotate_left
    ·rw [if_neg c14] at H
     exact absurd H (by simp)
    rw [if_pos c14] at H
    have c14b0:decide (x6_1 < (l0_0.length:Int)) = true:=decide_eq_true c14
    clear c14
    obtain ⟨y525,hy525⟩:∃ y_:List Int,y_ = (x5_1.set (x6_1:Int).toNat ((rd_T40 l0_0 x6_1).f0)):=⟨_,rfl⟩
    replace H:(beaconref08_Components.l0 k1 y525 (wrap64 (x6_1 + 1)) l0_0 l0_1) = some (r1,r2):=by first | (rw [hy525];with_reducible exact H) | (have H2_:=(Option.bind_some _ _).symm.trans H;rw [hy525];with_reducible exact H2_) | (have H2_:=(Option.bind_some _ _).symm.trans H;with_reducible exact H2_) | with_reducible exact H | (rw [hy525];exact H) | exact H
    have Ny525:=Aside0.mk hy525
    clear hy525
    have H':=Aside0.mk H
    clear H
    obtain ⟨Ao16,co16,eo16⟩:=Kd.R_slice HO_5.out
    subst eo16
    have hcz17_0:wr.cell? ⟨gb519,0,none⟩ = some (.slice A0_0 l0_0.length c0_0):=(blk_cell BK519.out 0).trans rfl
    have hcz17_1:wr.cell? ⟨gb519,1,none⟩ = some (.slice A0_1 l0_1.length c0_1):=(blk_cell BK519.out 1).trans rfl
    have hfz17_0:=blk_frozen BK519.out 0
    have hfz17_1:=blk_frozen BK519.out 1
    have p524:0 ≤ (x6_1:Int):=of_decide_eq_true (by first | (with_reducible assumption) | assumption)
    have q524:x6_1 < (l0_0.length:Int):=of_decide_eq_true (by first | (with_reducible assumption) | assumption)
    obtain ⟨ad524,e524,hx524_0,hx524_1,hx524_2⟩:=at_T40 HR0_0.out x6_1 p524 q524
    cases e524
    replace hx524_0:=(HB.out.cell (World.block_lt_of_cell? w _ hx524_0)).trans hx524_0
    replace hx524_1:=(HB.out.cell (World.block_lt_of_cell? w _ hx524_1)).trans hx524_1
    replace hx524_2:=(HB.out.cell (World.block_lt_of_cell? w _ hx524_2)).trans hx524_2
    replace p524:=eq_true p524
    replace q524:=eq_true q524
    have p15:0 ≤ (x6_1:Int):=of_decide_eq_true (by first | (with_reducible assumption) | assumption)
    have q15:(x6_1:Int) < ((x5_1.length:Int):Int):=of_decide_eq_true (by first | (with_reducible assumption) | assumption)
    obtain ⟨go15,co15,eo15,gb15,gl15,cl15,HG15⟩:=Kd.R_form HO_5.out (by omega)
    (first | cases eo15 | (injection eo15 with ea_ en_ ec_;(first | subst ea_ | (injection ea_ with ea_;subst ea_));subst ec_;clear en_))
    have GB15:=Aside0.mk gb15
    have GG15:=Aside0.mk HG15
    clear gb15 gl15 HG15
    obtain ⟨hx15_0,hf15_0⟩:=Kd.R_celln 0 HO_5.out (x6_1:Int) p15 q15
    replace p15:=eq_true p15
    replace q15:=eq_true q15
    have HP18:=Kd.R_putg HO_5.out (x6_1:Int) ((rd_T40 l0_0 x6_1).f0)
    go_wp2_with (first | ((with_reducible refine gate_store (t:=3) (p:=40) rfl ?_);(try (rw [drewN_self wr];generalize hq_:World.drewN wr _ = wr;have n0_:=Aside0.mk (Kd.R_at hq_ HO_5.out);have n1_:=Aside0.mk (blk_at hq_ BK519.out);have n2_:=Aside0.mk (below_at hq_ HB.out);clear hq_ HO_5 BK519 HB;have HO_5:=n0_;have BK519:=n1_;have HB:=n2_;clear n0_ n1_ n2_;(try (have HP18:=Kd.R_putg HO_5.out (x6_1:Int) ((rd_T40 l0_0 x6_1).f0)))));refine store_event (t:=3) (p:=40) (v:=?vo_w19) (w1:=(wr.setCell ⟨go15,(x6_1:Int).toNat,none⟩ (.int .i64 ((rd_T40 l0_0 x6_1).f0)))) ?hg ?ho ?hn ?hr ?_;(case ho => rfl);(case hg => rfl);(case hn => rfl);(case hr => first | (go_simp;done) | (go_simp;rfl));intro w19 hw;have hg:wr.grownBy w19 (some go15):=(by rw [hw];exact HP18.2);have hp_:Kd.R (Kd.int .i64) 3 w19 w.heap.size (fun _ => True) (.slice (some ⟨go15,0,none⟩) x5_1.length co16) y525:=(by rw [hw,Ny525.out];exact HP18.1);clear HP18;have n0_:=Aside0.mk (hp_);have n1_:=Aside0.mk (blk_grown (g:=gb519) (o:=.cells #[.slice (some ad524) l0_0.length c0_0,.slice A0_1 l0_1.length c0_1] 25 (0,0)) (by (with_reducible repeat (first | refine blk_drewN ?_ _ | refine blk_drew ?_ | refine blk_alloc ?_ _));exact BK519.out) hg (Kd.R_ne HO_5.out BK519.out (by decide)));have n2_:=Aside0.mk ((by rw [hw];exact below_set (HB.out) GB15.out:Below w.heap.size w w19));clear HO_5;clear BK519;clear HB;have HO_5:=n0_;have BK519:=n1_;have HB:=n2_;clear n0_ n1_ n2_;clear hg hw hp_))
    go_roundg k1
    case measure => have:=HK1.out;omega
    case rel => exact ⟨(y525),(wrap64 (x6_1 + 1)),(by first | rfl | (simp;done) | (simp [*];done)),H',⟨by have:=HK1.out;omega⟩,⟨by (with_reducible repeat (first | apply Kd.R_alloc | apply Kd.R_drewN | apply Kd.R_drew));exact HO_5.out⟩,⟨by (with_reducible repeat (first | refine blk_drewN ?_ _ | refine blk_drew ?_ | refine blk_alloc ?_ _));exact BK519.out⟩,⟨by repeat (first | (with_reducible first | exact HB.out | apply below_alloc | apply pw_below_drewN | apply below_drew1 | refine below_set ?_ GE519.out) | exact HB.out)⟩⟩
   rw [if_neg c12] at H
   have c12b0:decide (x6_1 < (x5_1.length:Int)) = false:=decide_eq_false c12
   clear c12
   have H':=Aside0.mk H
   clear H
   obtain ⟨Ao20,co20,eo20⟩:=Kd.R_slice HO_5.out
   subst eo20
   go_wp2
   repeat (go_quiet (fail);try go_wp2)
   go_loopg [7] k1 (fun kq v7 w' => ∃ (x5_2:List Int) (x7_2:Bool),v7 = .bool x7_2 ∧ Aside0 (beaconref08_Components.l1 kq x5_2 x7_2 l0_0 l0_1 = some (r1,r2)) ∧ Aside0 (kq ≤ k1) ∧ Aside0 (Kd.R (Kd.int .i64) 3 w' w.heap.size (fun _ => True) (.slice Ao20 x5_1.length co20) x5_2) ∧ Aside0 (w'.heap[gb519]? = some (.cells #[(.slice A0_0 l0_0.length c0_0),(.slice A0_1 l0_1.length c0_1)] 25 (0,0))) ∧ Aside0 (Below w.heap.size w w'))
   case atStart => exact ⟨(x5_1),(true),(by first | rfl | (simp;done) | (simp [*];done)),H',⟨Nat.le_refl _⟩,⟨by (with_reducible repeat (first | apply Kd.R_alloc | apply Kd.R_drewN | apply Kd.R_drew));exact HO_5.out⟩,⟨by (with_reducible repeat (first | refine blk_drewN ?_ _ | refine blk_drew ?_ | refine blk_alloc ?_ _));exact BK519.out⟩,⟨by repeat (first | (with_reducible first | exact HB.out | apply below_alloc | apply pw_below_drewN | apply below_drew1 | refine below_set ?_ GE519.out) | exact HB.out)⟩⟩
   case round =>
    clear H'
    obtain ⟨x5_2,x7_2,rfl,HA,HK2,HO_5,BK519,HB⟩:=hrel
    have hl5_2:=(Kd.R_reads' HO_5.out).1
    rw [hl5_2] at HO_5
    (try simp only [hl5_2])
    (try simp only [hl5_2] at BK519)
    cases gk with
    | zero => exact absurd HA.out (by simp [beaconref08_Components.l1])
    | succ k2 =>
     have H:=HA.out
     clear HA
     simp only [beaconref08_Components.l1] at H
     by_cases c21:x7_2 = true
     rotate_left
     ·replace c21:=Bool.eq_false_iff.mpr c21
      subst c21
      have H1:(beaconref08_Components.l3 k2 x5_2 ([]:List (List Int)) 0 l0_0 l0_1) = some (r1,r2):=by rw [if_neg (show ¬ (false = true) by decide)] at H;exact H
      clear H
      have H:=H1
      clear H1
      have H':=Aside0.mk H
      clear H
      go_wp2
      repeat (go_quiet (fail);try go_wp2)
      go_loopg [13,14] k2 (fun kq v13 v14 w' => ∃ (x13_3:List (List Int)) (x14_3:Int),v14 = .int .i64 x14_3 ∧ Aside0 (beaconref08_Components.l3 kq x5_2 x13_3 x14_3 l0_0 l0_1 = some (r1,r2)) ∧ Aside0 (kq ≤ k2) ∧ Aside0 (Kd.R (Kd.int .i64) 3 w' w.heap.size (fun _ => True) (.slice Ao20 x5_2.length co20) x5_2) ∧ Aside0 (Kd.S (Kd.slice 3 (Kd.int .i64)) 27 w' w.heap.size (fun k_ => some k_ ≠ ((.slice Ao20 x5_2.length co20):Value).ownBlock) v13 x13_3) ∧ Aside0 (w'.heap[gb519]? = some (.cells #[(.slice A0_0 l0_0.length c0_0),(.slice A0_1 l0_1.length c0_1)] 25 (0,0))) ∧ Aside0 (Below w.heap.size w w'))
      case atStart => exact ⟨(([]:List (List Int))),(0),(by first | rfl | (simp;done) | (simp [*];done)),H',⟨Nat.le_refl _⟩,⟨by (try simp only [hl5_2]);(with_reducible repeat (first | apply Kd.R_alloc | apply Kd.R_drewN | apply Kd.R_drew));exact HO_5.out⟩,⟨by (try simp only [hl5_2]);first | exact Kd.S_nil _ _ _ _ _ | exact Kd.N_nil _ _ _ _ _ | exact Kd.V_nil _ _ _ _ _ | exact Kd.Q_nil _ _ _ _ _ | exact Kd.R_nil _ _ _ _ _⟩,⟨by (try simp only [hl5_2]);(with_reducible repeat (first | refine blk_drewN ?_ _ | refine blk_drew ?_ | refine blk_alloc ?_ _));exact BK519.out⟩,⟨by repeat (first | (with_reducible first | exact HB.out | apply below_alloc | apply pw_below_drewN | apply below_drew1 | refine below_set ?_ GE519.out) | exact HB.out)⟩⟩
      case round =>
       clear H'
       obtain ⟨x13_3,x14_3,rfl,HA,HK3,HO_5,HO_13,BK519,HB⟩:=hrel
       cases gk with
       | zero => exact absurd HA.out (by simp [beaconref08_Components.l3])
       | succ k3 =>
        have H:=HA.out
        clear HA
        simp only [beaconref08_Components.l3] at H
        by_cases c78:x14_3 < (l0_0.length:Int)
        rotate_left
        ·rw [if_neg c78] at H
         have c78b0:decide (x14_3 < (l0_0.length:Int)) = false:=decide_eq_false c78
         clear c78
         simp only [Option.some.injEq,Prod.mk.injEq] at H
         obtain ⟨rfl,rfl⟩:=H
         have hcz105_0:wr.cell? ⟨gb519,0,none⟩ = some (.slice A0_0 l0_0.length c0_0):=(blk_cell BK519.out 0).trans rfl
         have hcz105_1:wr.cell? ⟨gb519,1,none⟩ = some (.slice A0_1 l0_1.length c0_1):=(blk_cell BK519.out 1).trans rfl
         have hfz105_0:=blk_frozen BK519.out 0
         have hfz105_1:=blk_frozen BK519.out 1
         go_wp2
         repeat (go_quiet (fail);try go_wp2)
         go_ret2
         exact ⟨_,by first | rfl | (simp [errW_none,errW_some] <;> rfl) | (simp [*,errW_none,errW_some] <;> rfl),by (with_reducible repeat (first | apply Kd.S_alloc | apply Kd.S_drewN | apply Kd.S_drew));exact Kd.S_mono HO_13.out (fun _ hk => trivial),by repeat (first | (with_reducible first | exact HB.out | apply below_alloc | apply pw_below_drewN | apply below_drew1 | refine below_set ?_ GE519.out) | exact HB.out)⟩
        rw [if_pos c78] at H
        have c78b0:decide (x14_3 < (l0_0.length:Int)) = true:=decide_eq_true c78
        clear c78
        have HC79:=Aside0.mk H
        clear H
        have hcz80_0:wr.cell? ⟨gb519,0,none⟩ = some (.slice A0_0 l0_0.length c0_0):=(blk_cell BK519.out 0).trans rfl
        have hcz80_1:wr.cell? ⟨gb519,1,none⟩ = some (.slice A0_1 l0_1.length c0_1):=(blk_cell BK519.out 1).trans rfl
        have hfz80_0:=blk_frozen BK519.out 0
        have hfz80_1:=blk_frozen BK519.out 1
        go_upto_region 29 with (fail)
        repeat (go_quiet (fail);go_upto_region 29 with (fail))
        go_cut [139] (fun v139 wc => ∃ (kq:Nat) (x139_78:Bool),v139 = .bool x139_78 ∧ Aside0 (beaconref08_Components.j5 kq x5_2 x13_3 x14_3 x139_78 l0_0 l0_1 = some (r1,r2)) ∧ Aside0 (kq ≤ k3) ∧ Aside0 (Kd.R (Kd.int .i64) 3 wc w.heap.size (fun _ => True) (.slice Ao20 x5_2.length co20) x5_2) ∧ Aside0 (Kd.S (Kd.slice 3 (Kd.int .i64)) 27 wc w.heap.size (fun k_ => some k_ ≠ ((.slice Ao20 x5_2.length co20):Value).ownBlock) u13 x13_3) ∧ Aside0 (wc.heap[gb519]? = some (.cells #[(.slice A0_0 l0_0.length c0_0),(.slice A0_1 l0_1.length c0_1)] 25 (0,0))) ∧ Aside0 (Below w.heap.size w wc))
        case first =>
         have H:=HC79.out
         clear HC79
         by_cases c81:0 ≤ x14_3
         rotate_left
         ·rw [if_neg c81] at H
          exact absurd H (by simp)
         rw [if_pos c81] at H
         have c81b0:decide (0 ≤ x14_3) = true:=decide_eq_true c81
         clear c81
         (first | rw [c81b0] | (simp only [i64_w,i32_w];rw [c81b0]) | skip)
         obtain ⟨bq82,hbq82⟩:∃ b_:Bool,b_ = ((rd_T40 l0_0 x14_3).f1):=⟨_,rfl⟩
         replace H:(if (bq82 = true) then (if x14_3 < (x5_2.length:Int) then (beaconref08_Components.j5 k3 x5_2 x13_3 x14_3 ((rd x5_2 x14_3) != ((rd_T40 l0_0 x14_3).f0)) l0_0 l0_1) else (none)) else (beaconref08_Components.j5 k3 x5_2 x13_3 x14_3 true l0_0 l0_1)) = some (r1,r2):=by rw [← hbq82] at H;exact H
         have Nbq82:=Aside0.mk hbq82
         clear hbq82
         by_cases c83:(bq82 = true)
         ·subst c83
          have H1:(if x14_3 < (x5_2.length:Int) then (beaconref08_Components.j5 k3 x5_2 x13_3 x14_3 ((rd x5_2 x14_3) != ((rd_T40 l0_0 x14_3).f0)) l0_0 l0_1) else (none)) = some (r1,r2):=by rw [if_pos rfl] at H;exact H
          clear H
          have H:=H1
          clear H1
          by_cases c84:x14_3 < (x5_2.length:Int)
          rotate_left
          ·rw [if_neg c84] at H
           exact absurd H (by simp)
          rw [if_pos c84] at H
          have c84b0:decide (x14_3 < (x5_2.length:Int)) = true:=decide_eq_true c84
          clear c84
          have H':=Aside0.mk H
          clear H
          have hcz85_0:wr.cell? ⟨gb519,0,none⟩ = some (.slice A0_0 l0_0.length c0_0):=(blk_cell BK519.out 0).trans (by first | rfl | ((try rw [← Nbq82.out]);rfl))
          have hcz85_1:wr.cell? ⟨gb519,1,none⟩ = some (.slice A0_1 l0_1.length c0_1):=(blk_cell BK519.out 1).trans (by first | rfl | ((try rw [← Nbq82.out]);rfl))
          have hfz85_0:=blk_frozen BK519.out 0
          have hfz85_1:=blk_frozen BK519.out 1
          have p541:0 ≤ (x14_3:Int):=of_decide_eq_true (by first | (with_reducible assumption) | assumption)
          have q541:x14_3 < (l0_0.length:Int):=of_decide_eq_true (by first | (with_reducible assumption) | assumption)
          obtain ⟨ad541,e541,hx541_0,hx541_1,hx541_2⟩:=at_T40 HR0_0.out x14_3 p541 q541
          (try rw [← Nbq82.out] at hx541_1)
          (try rw [← Nbq82.out] at hx541_2)
          cases e541
          replace hx541_0:=(HB.out.cell (World.block_lt_of_cell? w _ hx541_0)).trans hx541_0
          replace hx541_1:=(HB.out.cell (World.block_lt_of_cell? w _ hx541_1)).trans hx541_1
          replace hx541_2:=(HB.out.cell (World.block_lt_of_cell? w _ hx541_2)).trans hx541_2
          replace p541:=eq_true p541
          replace q541:=eq_true q541
          have p542:0 ≤ (x14_3:Int):=of_decide_eq_true (by first | (with_reducible assumption) | assumption)
          have q542:x14_3 < (x5_2.length:Int):=of_decide_eq_true (by first | (with_reducible assumption) | assumption)
          obtain ⟨ad542,e542,hx542_0⟩:=Kd.at_int (Kd.R_reads' HO_5.out).2.2 x14_3 p542 q542
          cases e542
          replace p542:=eq_true p542
          replace q542:=eq_true q542
          have p543:0 ≤ (x14_3:Int):=of_decide_eq_true (by first | (with_reducible assumption) | assumption)
          have q543:x14_3 < (l0_0.length:Int):=of_decide_eq_true (by first | (with_reducible assumption) | assumption)
          obtain ⟨ad543,e543,hx543_0,hx543_1,hx543_2⟩:=at_T40 HR0_0.out x14_3 p543 q543
          (try rw [← Nbq82.out] at hx543_1)
          (try rw [← Nbq82.out] at hx543_2)
          obtain rfl:ad541 = ad543:=(by injection e543)
          replace hx543_0:=(HB.out.cell (World.block_lt_of_cell? w _ hx543_0)).trans hx543_0
          replace hx543_1:=(HB.out.cell (World.block_lt_of_cell? w _ hx543_1)).trans hx543_1
          replace hx543_2:=(HB.out.cell (World.block_lt_of_cell? w _ hx543_2)).trans hx543_2
          replace p543:=eq_true p543
          replace q543:=eq_true q543
          go_wp2
          repeat (go_quiet (fail);try go_wp2)
          go_meet
          case rel => (try rw [← Nbq82.out]);exact ⟨_,(((rd x5_2 x14_3) != ((rd_T40 l0_0 x14_3).f0))),(by first | rfl | (simp;done) | (simp [*];done)),H',⟨by have:=HK1.out;have:=HK2.out;have:=HK3.out;first | omega | exact Nat.le_refl _⟩,⟨by (try simp only [hl5_2]);(with_reducible repeat (first | apply Kd.R_alloc | apply Kd.R_drewN | apply Kd.R_drew));exact HO_5.out⟩,⟨by (try simp only [hl5_2]);(with_reducible repeat (first | apply Kd.S_alloc | apply Kd.S_drewN | apply Kd.S_drew));exact HO_13.out⟩,⟨by (try simp only [hl5_2]);(with_reducible repeat (first | refine blk_drewN ?_ _ | refine blk_drew ?_ | refine blk_alloc ?_ _));first | exact BK519.out | ((try rw [← Nbq82.out]);exact BK519.out) | (have hb_:=BK519.out;(try rw [← Nbq82.out] at hb_);exact hb_)⟩,⟨by repeat (first | (with_reducible first | exact HB.out | apply below_alloc | apply pw_below_drewN | apply below_drew1 | refine below_set ?_ GE519.out) | exact HB.out)⟩⟩
         replace c83:=Bool.eq_false_iff.mpr c83
         subst c83
         have H1:(beaconref08_Components.j5 k3 x5_2 x13_3 x14_3 true l0_0 l0_1) = some (r1,r2):=by rw [if_neg (show ¬ (false = true) by decide)] at H;exact H
         clear H
         have H:=H1
         clear H1
         have H':=Aside0.mk H
         clear H
         have hcz86_0:wr.cell? ⟨gb519,0,none⟩ = some (.slice A0_0 l0_0.length c0_0):=(blk_cell BK519.out 0).trans (by first | rfl | ((try rw [← Nbq82.out]);rfl))
         have hcz86_1:wr.cell? ⟨gb519,1,none⟩ = some (.slice A0_1 l0_1.length c0_1):=(blk_cell BK519.out 1).trans (by first | rfl | ((try rw [← Nbq82.out]);rfl))
         have hfz86_0:=blk_frozen BK519.out 0
         have hfz86_1:=blk_frozen BK519.out 1
         have p541:0 ≤ (x14_3:Int):=of_decide_eq_true (by first | (with_reducible assumption) | assumption)
         have q541:x14_3 < (l0_0.length:Int):=of_decide_eq_true (by first | (with_reducible assumption) | assumption)
         obtain ⟨ad541,e541,hx541_0,hx541_1,hx541_2⟩:=at_T40 HR0_0.out x14_3 p541 q541
         (try rw [← Nbq82.out] at hx541_1)
         (try rw [← Nbq82.out] at hx541_2)
         cases e541
         replace hx541_0:=(HB.out.cell (World.block_lt_of_cell? w _ hx541_0)).trans hx541_0
         replace hx541_1:=(HB.out.cell (World.block_lt_of_cell? w _ hx541_1)).trans hx541_1
         replace hx541_2:=(HB.out.cell (World.block_lt_of_cell? w _ hx541_2)).trans hx541_2
         replace p541:=eq_true p541
         replace q541:=eq_true q541
         go_wp2
         repeat (go_quiet (fail);try go_wp2)
         go_meet
         case rel => (try rw [← Nbq82.out]);exact ⟨_,(true),(by first | rfl | (simp;done) | (simp [*];done)),H',⟨by have:=HK1.out;have:=HK2.out;have:=HK3.out;first | omega | exact Nat.le_refl _⟩,⟨by (try simp only [hl5_2]);(with_reducible repeat (first | apply Kd.R_alloc | apply Kd.R_drewN | apply Kd.R_drew));exact HO_5.out⟩,⟨by (try simp only [hl5_2]);(with_reducible repeat (first | apply Kd.S_alloc | apply Kd.S_drewN | apply Kd.S_drew));exact HO_13.out⟩,⟨by (try simp only [hl5_2]);(with_reducible repeat (first | refine blk_drewN ?_ _ | refine blk_drew ?_ | refine blk_alloc ?_ _));first | exact BK519.out | ((try rw [← Nbq82.out]);exact BK519.out) | (have hb_:=BK519.out;(try rw [← Nbq82.out] at hb_);exact hb_)⟩,⟨by repeat (first | (with_reducible first | exact HB.out | apply below_alloc | apply pw_below_drewN | apply below_drew1 | refine below_set ?_ GE519.out) | exact HB.out)⟩⟩
        case rest =>
         clear HC79
         obtain ⟨kq,x139_78,rfl,HA,HJ78,HO_5,HO_13,BK519,HB⟩:=hcut
         cases kq with
         | zero => exact absurd HA.out (by simp [beaconref08_Components.j5])
         | succ kj78 =>
          have H:=HA.out
          clear HA
          simp only [beaconref08_Components.j5] at H
          by_cases c87:x139_78 = true
          ·subst c87
           have H1:(beaconref08_Components.l3 kj78 x5_2 x13_3 (wrap64 (x14_3 + 1)) l0_0 l0_1) = some (r1,r2):=by rw [if_pos rfl] at H;exact H
           clear H
           have H:=H1
           clear H1
           have H':=Aside0.mk H
           clear H
           go_wp2
           repeat (go_quiet (fail);try go_wp2)
           go_roundg kj78
           case measure => have:=HK1.out;have:=HK2.out;have:=HK3.out;have:=HJ78.out;omega
           case rel => exact ⟨(x13_3),(wrap64 (x14_3 + 1)),(by first | rfl | (simp;done) | (simp [*];done)),H',⟨by have:=HK1.out;have:=HK2.out;have:=HK3.out;have:=HJ78.out;omega⟩,⟨by (try simp only [hl5_2]);(with_reducible repeat (first | apply Kd.R_alloc | apply Kd.R_drewN | apply Kd.R_drew));exact HO_5.out⟩,⟨by (try simp only [hl5_2]);(with_reducible repeat (first | apply Kd.S_alloc | apply Kd.S_drewN | apply Kd.S_drew));exact HO_13.out⟩,⟨by (try simp only [hl5_2]);(with_reducible repeat (first | refine blk_drewN ?_ _ | refine blk_drew ?_ | refine blk_alloc ?_ _));exact BK519.out⟩,⟨by repeat (first | (with_reducible first | exact HB.out | apply below_alloc | apply pw_below_drewN | apply below_drew1 | refine below_set ?_ GE519.out) | exact HB.out)⟩⟩
          replace c87:=Bool.eq_false_iff.mpr c87
          subst c87
          have H1:(beaconref08_Components.l4 kj78 x5_2 x13_3 x14_3 ([]:List Int) 0 l0_0 l0_1) = some (r1,r2):=by rw [if_neg (show ¬ (false = true) by decide)] at H;exact H
          clear H
          have H:=H1
          clear H1
          have H':=Aside0.mk H
          clear H
          go_wp2
          repeat (go_quiet (fail);try go_wp2)
          go_loopg [15,16] kj78 (fun kq v15 v16 w' => ∃ (x15_5:List Int) (x16_5:Int),v16 = .int .i64 x16_5 ∧ Aside0 (beaconref08_Components.l4 kq x5_2 x13_3 x14_3 x15_5 x16_5 l0_0 l0_1 = some (r1,r2)) ∧ Aside0 (kq ≤ kj78) ∧ Aside0 (Kd.R (Kd.int .i64) 3 w' w.heap.size (fun k_ => some k_ ≠ (v15:Value).ownBlock) (.slice Ao20 x5_2.length co20) x5_2) ∧ Aside0 (Kd.S (Kd.slice 3 (Kd.int .i64)) 27 w' w.heap.size (fun k_ => some k_ ≠ ((.slice Ao20 x5_2.length co20):Value).ownBlock ∧ some k_ ≠ (v15:Value).ownBlock) u13 x13_3) ∧ Aside0 (Kd.R (Kd.int .i64) 3 w' w.heap.size (fun k_ => some k_ ≠ ((.slice Ao20 x5_2.length co20):Value).ownBlock) v15 x15_5) ∧ Aside0 (w'.heap[gb519]? = some (.cells #[(.slice A0_0 l0_0.length c0_0),(.slice A0_1 l0_1.length c0_1)] 25 (0,0))) ∧ Aside0 (Below w.heap.size w w'))
          case atStart => exact ⟨(([]:List Int)),(0),(by first | rfl | (simp;done) | (simp [*];done)),H',⟨Nat.le_refl _⟩,⟨by (try simp only [hl5_2]);(with_reducible repeat (first | apply Kd.R_alloc | apply Kd.R_drewN | apply Kd.R_drew));exact Kd.R_mono HO_5.out (fun _ hk => (by simp [Value.ownBlock]))⟩,⟨by (try simp only [hl5_2]);(with_reducible repeat (first | apply Kd.S_alloc | apply Kd.S_drewN | apply Kd.S_drew));exact Kd.S_mono HO_13.out (fun _ hk => ⟨hk,(by simp [Value.ownBlock])⟩)⟩,⟨by (try simp only [hl5_2]);first | exact Kd.R_nil _ _ _ _ _ | exact Kd.N_nil _ _ _ _ _ | exact Kd.V_nil _ _ _ _ _ | exact Kd.Q_nil _ _ _ _ _ | exact Kd.S_nil _ _ _ _ _⟩,⟨by (try simp only [hl5_2]);(with_reducible repeat (first | refine blk_drewN ?_ _ | refine blk_drew ?_ | refine blk_alloc ?_ _));exact BK519.out⟩,⟨by repeat (first | (with_reducible first | exact HB.out | apply below_alloc | apply pw_below_drewN | apply below_drew1 | refine below_set ?_ GE519.out) | exact HB.out)⟩⟩
          case round =>
           clear H'
           obtain ⟨x15_5,x16_5,rfl,HA,HK5,HO_5,HO_13,HO_15,BK519,HB⟩:=hrel
           cases gk with
           | zero => exact absurd HA.out (by simp [beaconref08_Components.l4])
           | succ k5 =>
            have H:=HA.out
            clear HA
            simp only [beaconref08_Components.l4] at H
            by_cases c88:x16_5 < (l0_0.length:Int)
            rotate_left
            ·rw [if_neg c88] at H
             have c88b0:decide (x16_5 < (l0_0.length:Int)) = false:=decide_eq_false c88
             clear c88
             by_cases c101:x13_3.length < 5864062014805
             ·rw [if_pos c101] at H
              have LMc101:=Aside0.mk c101
              clear c101
              obtain ⟨y544,hy544⟩:∃ y_:List (List Int),y_ = (x13_3 ++ [x15_5]):=⟨_,rfl⟩
              replace H:(beaconref08_Components.l3 k5 x5_2 y544 (wrap64 (x14_3 + 1)) l0_0 l0_1) = some (r1,r2):=by first | (rw [hy544];with_reducible exact H) | (have H2_:=(Option.bind_some _ _).symm.trans H;rw [hy544];with_reducible exact H2_) | (have H2_:=(Option.bind_some _ _).symm.trans H;with_reducible exact H2_) | with_reducible exact H | (rw [hy544];exact H) | exact H
              have Ny544:=Aside0.mk hy544
              clear hy544
              have H':=Aside0.mk H
              clear H
              have hcz102_0:wr.cell? ⟨gb519,0,none⟩ = some (.slice A0_0 l0_0.length c0_0):=(blk_cell BK519.out 0).trans rfl
              have hcz102_1:wr.cell? ⟨gb519,1,none⟩ = some (.slice A0_1 l0_1.length c0_1):=(blk_cell BK519.out 1).trans rfl
              have hfz102_0:=blk_frozen BK519.out 0
              have hfz102_1:=blk_frozen BK519.out 1
              obtain ⟨Ao104,co104,eo104⟩:=Kd.R_slice HO_15.out
              subst eo104
              go_wp2_with (first | ((with_reducible refine gate_builtin (b:=.append) (xs:=#[.tmp 173,.tmp 175]) rfl ?_);at_builtin;refine Kd.S_append (Kd.slice 3 (Kd.int .i64)) (w0:=w) w.heap.size rfl (.tmp 173) (.tmp 175) 53 27 (.slice none 0 0) 24 rfl Try.underlying53 info27 rfl (by decide) (by omega) u13 x13_3 x15_5 [.slice Ao104 x15_5.length co104] (fun k_ => some k_ ≠ (.slice Ao20 x5_2.length co20:Value).ownBlock) (fun k_ => some k_ = (.slice Ao104 x15_5.length co104:Value).ownBlock) rfl rfl ?aP (fun k_ hk_ => ((Kd.R_mono (ok':=fun k_ => ((fun k_ => some k_ ≠ (.slice Ao20 x5_2.length co20:Value).ownBlock)) k_ ∧ some k_ ≠ (u13:Value).ownBlock) (Kd.R_apart' (HO_15.out) (Kd.S_typed HO_13.out) (by decide)) (fun k_ hk => ⟨hk.1,hk.2⟩))).1 k_ hk_.symm) ?aF ?aO ?aB ?aS ?aL ?_;(case aP => exact Kd.M_row (Kd.R_mono (Kd.R_tight rfl (Kd.R_mono (ok':=fun k_ => ((fun k_ => some k_ ≠ (.slice Ao20 x5_2.length co20:Value).ownBlock)) k_ ∧ some k_ ≠ (u13:Value).ownBlock) (Kd.R_apart' (HO_15.out) (Kd.S_typed HO_13.out) (by decide)) (fun k_ hk => ⟨hk.1,hk.2⟩))) (fun _ h_ => h_)));(case aB => exact (by repeat (first | (with_reducible first | exact HB.out | apply below_alloc | apply pw_below_drewN | apply below_drew1 | refine below_set ?_ GE519.out) | exact HB.out)));(case aF => exact (fun k_ hk => Kd.fresh' (Kd.R_lt (by (with_reducible repeat (first | apply Kd.R_alloc | apply Kd.R_drewN | apply Kd.R_drew));exact HO_5.out)) k_ hk));(case aO => exact (by (with_reducible repeat (first | apply Kd.S_alloc | apply Kd.S_drewN | apply Kd.S_drew));exact Kd.S_mono HO_13.out (fun k_ hk => ⟨hk.1,fun e_ => hk.2 e_⟩)));(case aS => exact (below_size (by repeat (first | (with_reducible first | exact HB.out | apply below_alloc | apply pw_below_drewN | apply below_drew1 | refine below_set ?_ GE519.out) | exact HB.out))));(case aL => have:=LMc101.out;omega);intro v545 w103 ho hb hg hat;rw [← Ny544.out] at ho;have n0_:=Aside0.mk (Kd.R_over' (by (with_reducible repeat (first | apply Kd.R_alloc | apply Kd.R_drewN | apply Kd.R_drew));exact HO_5.out) (Kd.S_typed (by (with_reducible repeat (first | apply Kd.S_alloc | apply Kd.S_drewN | apply Kd.S_drew));exact HO_13.out)) (by decide) hg);have n1_:=Aside0.mk (blk_grown (g:=gb519) (o:=.cells #[.slice A0_0 l0_0.length c0_0,.slice A0_1 l0_1.length c0_1] 25 (0,0)) (by (with_reducible repeat (first | refine blk_drewN ?_ _ | refine blk_drew ?_ | refine blk_alloc ?_ _));exact BK519.out) hg (Kd.S_ne HO_13.out BK519.out (by decide)));have n2_:=Aside0.mk (hb);have n3_:=Aside0.mk (ho);clear HO_5;clear BK519;clear HB;clear HO_13;clear HO_15;have HO_5:=n0_;have BK519:=n1_;have HB:=n2_;have HO546:=n3_;clear n0_ n1_ n2_ n3_;clear ho hb hg hat))
              go_roundg k5
              case measure => have:=HK1.out;have:=HK2.out;have:=HK3.out;have:=HJ78.out;have:=HK5.out;omega
              case rel => exact ⟨(y544),(wrap64 (x14_3 + 1)),(by first | rfl | (simp;done) | (simp [*];done)),H',⟨by have:=HK1.out;have:=HK2.out;have:=HK3.out;have:=HJ78.out;have:=HK5.out;omega⟩,⟨by (try simp only [hl5_2]);(with_reducible repeat (first | apply Kd.R_alloc | apply Kd.R_drewN | apply Kd.R_drew));exact Kd.R_mono HO_5.out (fun _ hk => trivial)⟩,⟨by (try simp only [hl5_2]);(with_reducible repeat (first | apply Kd.S_alloc | apply Kd.S_drewN | apply Kd.S_drew));exact HO546.out⟩,⟨by (try simp only [hl5_2]);(with_reducible repeat (first | refine blk_drewN ?_ _ | refine blk_drew ?_ | refine blk_alloc ?_ _));exact BK519.out⟩,⟨by repeat (first | (with_reducible first | exact HB.out | apply below_alloc | apply pw_below_drewN | apply below_drew1 | refine below_set ?_ GE519.out) | exact HB.out)⟩⟩
             rw [if_neg c101] at H
             exact absurd H (by simp)
            rw [if_pos c88] at H
            have c88b0:decide (x16_5 < (l0_0.length:Int)) = true:=decide_eq_true c88
            clear c88
            by_cases c89:0 ≤ x16_5
            rotate_left
            ·rw [if_neg c89] at H
             exact absurd H (by simp)
            rw [if_pos c89] at H
            have c89b0:decide (0 ≤ x16_5) = true:=decide_eq_true c89
            clear c89
            obtain ⟨bq90,hbq90⟩:∃ b_:Bool,b_ = ((rd_T40 l0_0 x16_5).f1):=⟨_,rfl⟩
            replace H:(if bq90 = true then (if x16_5 < (x5_2.length:Int) then (if 0 ≤ x14_3 then (if x14_3 < (x5_2.length:Int) then (if (rd x5_2 x16_5) = (rd x5_2 x14_3) then (if x15_5.length < 17592186044416 then (beaconref08_Components.l4 k5 x5_2 x13_3 x14_3 (x15_5 ++ [(rd_T40 l0_0 x16_5).f0]) (wrap64 (x16_5 + 1)) l0_0 l0_1) else (none)) else (beaconref08_Components.l4 k5 x5_2 x13_3 x14_3 x15_5 (wrap64 (x16_5 + 1)) l0_0 l0_1)) else (none)) else (none)) else (none)) else (beaconref08_Components.l4 k5 x5_2 x13_3 x14_3 x15_5 (wrap64 (x16_5 + 1)) l0_0 l0_1)) = some (r1,r2):=by rw [← hbq90] at H;exact H
            have Nbq90:=Aside0.mk hbq90
            clear hbq90
            by_cases c91:bq90 = true
            rotate_left
            ·replace c91:=Bool.eq_false_iff.mpr c91
             subst c91
             have H1:(beaconref08_Components.l4 k5 x5_2 x13_3 x14_3 x15_5 (wrap64 (x16_5 + 1)) l0_0 l0_1) = some (r1,r2):=by rw [if_neg (show ¬ (false = true) by decide)] at H;exact H
             clear H
             have H:=H1
             clear H1
             have H':=Aside0.mk H
             clear H
             have hcz100_0:wr.cell? ⟨gb519,0,none⟩ = some (.slice A0_0 l0_0.length c0_0):=(blk_cell BK519.out 0).trans (by first | rfl | ((try rw [← Nbq90.out]);rfl))
             have hcz100_1:wr.cell? ⟨gb519,1,none⟩ = some (.slice A0_1 l0_1.length c0_1):=(blk_cell BK519.out 1).trans (by first | rfl | ((try rw [← Nbq90.out]);rfl))
             have hfz100_0:=blk_frozen BK519.out 0
             have hfz100_1:=blk_frozen BK519.out 1
             have p547:0 ≤ (x16_5:Int):=of_decide_eq_true (by first | (with_reducible assumption) | assumption)
             have q547:x16_5 < (l0_0.length:Int):=of_decide_eq_true (by first | (with_reducible assumption) | assumption)
             obtain ⟨ad547,e547,hx547_0,hx547_1,hx547_2⟩:=at_T40 HR0_0.out x16_5 p547 q547
             (try rw [← Nbq90.out] at hx547_1)
             (try rw [← Nbq90.out] at hx547_2)
             cases e547
             replace hx547_0:=(HB.out.cell (World.block_lt_of_cell? w _ hx547_0)).trans hx547_0
             replace hx547_1:=(HB.out.cell (World.block_lt_of_cell? w _ hx547_1)).trans hx547_1
             replace hx547_2:=(HB.out.cell (World.block_lt_of_cell? w _ hx547_2)).trans hx547_2
             replace p547:=eq_true p547
             replace q547:=eq_true q547
             go_wp2
             repeat (go_quiet (fail);try go_wp2)
             go_roundg k5
             case measure => have:=HK1.out;have:=HK2.out;have:=HK3.out;have:=HJ78.out;have:=HK5.out;omega
             case rel => (try rw [← Nbq90.out]);exact ⟨(x15_5),(wrap64 (x16_5 + 1)),(by first | rfl | (simp;done) | (simp [*];done)),H',⟨by have:=HK1.out;have:=HK2.out;have:=HK3.out;have:=HJ78.out;have:=HK5.out;omega⟩,⟨by (try simp only [hl5_2]);(with_reducible repeat (first | apply Kd.R_alloc | apply Kd.R_drewN | apply Kd.R_drew));exact HO_5.out⟩,⟨by (try simp only [hl5_2]);(with_reducible repeat (first | apply Kd.S_alloc | apply Kd.S_drewN | apply Kd.S_drew));exact HO_13.out⟩,⟨by (try simp only [hl5_2]);(with_reducible repeat (first | apply Kd.R_alloc | apply Kd.R_drewN | apply Kd.R_drew));exact HO_15.out⟩,⟨by (try simp only [hl5_2]);(with_reducible repeat (first | refine blk_drewN ?_ _ | refine blk_drew ?_ | refine blk_alloc ?_ _));first | exact BK519.out | ((try rw [← Nbq90.out]);exact BK519.out) | (have hb_:=BK519.out;(try rw [← Nbq90.out] at hb_);exact hb_)⟩,⟨by repeat (first | (with_reducible first | exact HB.out | apply below_alloc | apply pw_below_drewN | apply below_drew1 | refine below_set ?_ GE519.out) | exact HB.out)⟩⟩
            subst c91
            have H1:(if x16_5 < (x5_2.length:Int) then (if 0 ≤ x14_3 then (if x14_3 < (x5_2.length:Int) then (if (rd x5_2 x16_5) = (rd x5_2 x14_3) then (if x15_5.length < 17592186044416 then (beaconref08_Components.l4 k5 x5_2 x13_3 x14_3 (x15_5 ++ [(rd_T40 l0_0 x16_5).f0]) (wrap64 (x16_5 + 1)) l0_0 l0_1) else (none)) else (beaconref08_Components.l4 k5 x5_2 x13_3 x14_3 x15_5 (wrap64 (x16_5 + 1)) l0_0 l0_1)) else (none)) else (none)) else (none)) = some (r1,r2):=by rw [if_pos rfl] at H;exact H
            clear H
            have H:=H1
            clear H1
            by_cases c92:x16_5 < (x5_2.length:Int)
            rotate_left
            ·rw [if_neg c92] at H
             exact absurd H (by simp)
            rw [if_pos c92] at H
            have c92b0:decide (x16_5 < (x5_2.length:Int)) = true:=decide_eq_true c92
            clear c92
            by_cases c93:0 ≤ x14_3
            rotate_left
            ·rw [if_neg c93] at H
             exact absurd H (by simp)
            rw [if_pos c93] at H
            have c93b0:decide (0 ≤ x14_3) = true:=decide_eq_true c93
            clear c93
            by_cases c94:x14_3 < (x5_2.length:Int)
            rotate_left
            ·rw [if_neg c94] at H
             exact absurd H (by simp)
            rw [if_pos c94] at H
            have c94b0:decide (x14_3 < (x5_2.length:Int)) = true:=decide_eq_true c94
            clear c94
            by_cases c95:(rd x5_2 x16_5) = (rd x5_2 x14_3)
            ·rw [if_pos c95] at H
             have c95b0:((rd x5_2 x16_5) == (rd x5_2 x14_3)) = true:=beq_iff_eq.mpr c95
             have c95b1:((rd x5_2 x16_5) != (rd x5_2 x14_3)) = false:=bne_eq_false_iff_eq.mpr c95
             clear c95
             by_cases c96:x15_5.length < 17592186044416
             rotate_left
             ·rw [if_neg c96] at H
              exact absurd H (by simp)
             rw [if_pos c96] at H
             have LMc96:=Aside0.mk c96
             clear c96
             obtain ⟨y551,hy551⟩:∃ y_:List Int,y_ = (x15_5 ++ [(rd_T40 l0_0 x16_5).f0]):=⟨_,rfl⟩
             replace H:(beaconref08_Components.l4 k5 x5_2 x13_3 x14_3 y551 (wrap64 (x16_5 + 1)) l0_0 l0_1) = some (r1,r2):=by first | (rw [hy551];with_reducible exact H) | (have H2_:=(Option.bind_some _ _).symm.trans H;rw [hy551];with_reducible exact H2_) | (have H2_:=(Option.bind_some _ _).symm.trans H;with_reducible exact H2_) | with_reducible exact H | (rw [hy551];exact H) | exact H
             have Ny551:=Aside0.mk hy551
             clear hy551
             have H':=Aside0.mk H
             clear H
             have hcz97_0:wr.cell? ⟨gb519,0,none⟩ = some (.slice A0_0 l0_0.length c0_0):=(blk_cell BK519.out 0).trans (by first | rfl | ((try rw [← Nbq90.out]);rfl))
             have hcz97_1:wr.cell? ⟨gb519,1,none⟩ = some (.slice A0_1 l0_1.length c0_1):=(blk_cell BK519.out 1).trans (by first | rfl | ((try rw [← Nbq90.out]);rfl))
             have hfz97_0:=blk_frozen BK519.out 0
             have hfz97_1:=blk_frozen BK519.out 1
             have p547:0 ≤ (x16_5:Int):=of_decide_eq_true (by first | (with_reducible assumption) | assumption)
             have q547:x16_5 < (l0_0.length:Int):=of_decide_eq_true (by first | (with_reducible assumption) | assumption)
             obtain ⟨ad547,e547,hx547_0,hx547_1,hx547_2⟩:=at_T40 HR0_0.out x16_5 p547 q547
             (try rw [← Nbq90.out] at hx547_1)
             (try rw [← Nbq90.out] at hx547_2)
             cases e547
             replace hx547_0:=(HB.out.cell (World.block_lt_of_cell? w _ hx547_0)).trans hx547_0
             replace hx547_1:=(HB.out.cell (World.block_lt_of_cell? w _ hx547_1)).trans hx547_1
             replace hx547_2:=(HB.out.cell (World.block_lt_of_cell? w _ hx547_2)).trans hx547_2
             replace p547:=eq_true p547
             replace q547:=eq_true q547
             have p548:0 ≤ (x16_5:Int):=of_decide_eq_true (by first | (with_reducible assumption) | assumption)
             have q548:x16_5 < (x5_2.length:Int):=of_decide_eq_true (by first | (with_reducible assumption) | assumption)
             obtain ⟨ad548,e548,hx548_0⟩:=Kd.at_int (Kd.R_reads' HO_5.out).2.2 x16_5 p548 q548
             cases e548
             replace p548:=eq_true p548
             replace q548:=eq_true q548
             have p549:0 ≤ (x14_3:Int):=of_decide_eq_true (by first | (with_reducible assumption) | assumption)
             have q549:x14_3 < (x5_2.length:Int):=of_decide_eq_true (by first | (with_reducible assumption) | assumption)
             obtain ⟨ad549,e549,hx549_0⟩:=Kd.at_int (Kd.R_reads' HO_5.out).2.2 x14_3 p549 q549
             obtain rfl:ad548 = ad549:=(by injection e549)
             replace p549:=eq_true p549
             replace q549:=eq_true q549
             have p550:0 ≤ (x16_5:Int):=of_decide_eq_true (by first | (with_reducible assumption) | assumption)
             have q550:x16_5 < (l0_0.length:Int):=of_decide_eq_true (by first | (with_reducible assumption) | assumption)
             obtain ⟨ad550,e550,hx550_0,hx550_1,hx550_2⟩:=at_T40 HR0_0.out x16_5 p550 q550
             (try rw [← Nbq90.out] at hx550_1)
             (try rw [← Nbq90.out] at hx550_2)
             obtain rfl:ad547 = ad550:=(by injection e550)
             replace hx550_0:=(HB.out.cell (World.block_lt_of_cell? w _ hx550_0)).trans hx550_0
             replace hx550_1:=(HB.out.cell (World.block_lt_of_cell? w _ hx550_1)).trans hx550_1
             replace hx550_2:=(HB.out.cell (World.block_lt_of_cell? w _ hx550_2)).trans hx550_2
             replace p550:=eq_true p550
             replace q550:=eq_true q550
             go_wp2_with (first | ((with_reducible refine gate_builtin (b:=.append) (xs:=#[.tmp 164,.tmp 171]) rfl ?_);at_builtin;refine Kd.R_append (Kd.int .i64) (w0:=w) w.heap.size rfl (.tmp 164) (.tmp 171) 27 3 (.int .i64 0) 8 rfl Try.underlying27 info3 rfl (by decide) (by omega) u15 x15_5 ((rd_T40 l0_0 x16_5).f0) [.int .i64 ((rd_T40 l0_0 x16_5).f0)] (fun k_ => some k_ ≠ (.slice (some ad548) x5_2.length co20:Value).ownBlock) (fun _ => False) rfl rfl ?aP (fun _ hk => hk.elim) ?aF ?aO ?aB ?aS ?aL ?_;(case aP => exact rfl);(case aB => exact (by repeat (first | (with_reducible first | exact HB.out | apply below_alloc | apply pw_below_drewN | apply below_drew1 | refine below_set ?_ GE519.out) | exact HB.out)));(case aF => exact (fun k_ hk => Kd.fresh' (Kd.R_lt (by (with_reducible repeat (first | apply Kd.R_alloc | apply Kd.R_drewN | apply Kd.R_drew));exact HO_5.out)) k_ hk));(case aO => exact (by (with_reducible repeat (first | apply Kd.R_alloc | apply Kd.R_drewN | apply Kd.R_drew));exact HO_15.out));(case aS => exact (below_size (by repeat (first | (with_reducible first | exact HB.out | apply below_alloc | apply pw_below_drewN | apply below_drew1 | refine below_set ?_ GE519.out) | exact HB.out))));(case aL => have:=LMc96.out;omega);intro v552 w98 ho hb hg hat;rw [← Ny551.out] at ho;have n0_:=Aside0.mk (Kd.R_after (ok:=(fun _ => True)) (by (with_reducible repeat (first | apply Kd.R_alloc | apply Kd.R_drewN | apply Kd.R_drew));exact Kd.R_mono HO_5.out (fun _ hk => ⟨trivial,hk⟩)) hg hat);have n1_:=Aside0.mk (Kd.S_after (ok:=(fun k_ => some k_ ≠ (.slice (some ad548) x5_2.length co20:Value).ownBlock)) (by (with_reducible repeat (first | apply Kd.S_alloc | apply Kd.S_drewN | apply Kd.S_drew));exact HO_13.out) hg hat);have n2_:=Aside0.mk (blk_grown (g:=gb519) (o:=.cells #[.slice (some ad547) l0_0.length c0_0,.slice A0_1 l0_1.length c0_1] 25 (0,0)) (by (with_reducible repeat (first | refine blk_drewN ?_ _ | refine blk_drew ?_ | refine blk_alloc ?_ _));first | exact BK519.out | ((try rw [← Nbq90.out]);exact BK519.out) | (have hb_:=BK519.out;(try rw [← Nbq90.out] at hb_);exact hb_)) hg (Kd.R_ne HO_15.out BK519.out (by decide)));have n3_:=Aside0.mk (hb);have n4_:=Aside0.mk (ho);clear HO_5;clear HO_13;clear BK519;clear HB;clear HO_15;have HO_5:=n0_;have HO_13:=n1_;have BK519:=n2_;have HB:=n3_;have HO553:=n4_;clear n0_ n1_ n2_ n3_ n4_;clear ho hb hg hat))
             repeat (go_quiet (first | ((with_reducible refine gate_builtin (b:=.append) (xs:=#[.tmp 164,.tmp 171]) rfl ?_);at_builtin;refine Kd.R_append (Kd.int .i64) (w0:=w) w.heap.size rfl (.tmp 164) (.tmp 171) 27 3 (.int .i64 0) 8 rfl Try.underlying27 info3 rfl (by decide) (by omega) u15 x15_5 ((rd_T40 l0_0 x16_5).f0) [.int .i64 ((rd_T40 l0_0 x16_5).f0)] (fun k_ => some k_ ≠ (.slice (some ad548) x5_2.length co20:Value).ownBlock) (fun _ => False) rfl rfl ?aP (fun _ hk => hk.elim) ?aF ?aO ?aB ?aS ?aL ?_;(case aP => exact rfl);(case aB => exact (by repeat (first | (with_reducible first | exact HB.out | apply below_alloc | apply pw_below_drewN | apply below_drew1 | refine below_set ?_ GE519.out) | exact HB.out)));(case aF => exact (fun k_ hk => Kd.fresh' (Kd.R_lt (by (with_reducible repeat (first | apply Kd.R_alloc | apply Kd.R_drewN | apply Kd.R_drew));exact HO_5.out)) k_ hk));(case aO => exact (by (with_reducible repeat (first | apply Kd.R_alloc | apply Kd.R_drewN | apply Kd.R_drew));exact HO_15.out));(case aS => exact (below_size (by repeat (first | (with_reducible first | exact HB.out | apply below_alloc | apply pw_below_drewN | apply below_drew1 | refine below_set ?_ GE519.out) | exact HB.out))));(case aL => have:=LMc96.out;omega);intro v552 w98 ho hb hg hat;rw [← Ny551.out] at ho;have n0_:=Aside0.mk (Kd.R_after (ok:=(fun _ => True)) (by (with_reducible repeat (first | apply Kd.R_alloc | apply Kd.R_drewN | apply Kd.R_drew));exact Kd.R_mono HO_5.out (fun _ hk => ⟨trivial,hk⟩)) hg hat);have n1_:=Aside0.mk (Kd.S_after (ok:=(fun k_ => some k_ ≠ (.slice (some ad548) x5_2.length co20:Value).ownBlock)) (by (with_reducible repeat (first | apply Kd.S_alloc | apply Kd.S_drewN | apply Kd.S_drew));exact HO_13.out) hg hat);have n2_:=Aside0.mk (blk_grown (g:=gb519) (o:=.cells #[.slice (some ad547) l0_0.length c0_0,.slice A0_1 l0_1.length c0_1] 25 (0,0)) (by (with_reducible repeat (first | refine blk_drewN ?_ _ | refine blk_drew ?_ | refine blk_alloc ?_ _));first | exact BK519.out | ((try rw [← Nbq90.out]);exact BK519.out) | (have hb_:=BK519.out;(try rw [← Nbq90.out] at hb_);exact hb_)) hg (Kd.R_ne HO_15.out BK519.out (by decide)));have n3_:=Aside0.mk (hb);have n4_:=Aside0.mk (ho);clear HO_5;clear HO_13;clear BK519;clear HB;clear HO_15;have HO_5:=n0_;have HO_13:=n1_;have BK519:=n2_;have HB:=n3_;have HO553:=n4_;clear n0_ n1_ n2_ n3_ n4_;clear ho hb hg hat));try go_wp2_with (first | ((with_reducible refine gate_builtin (b:=.append) (xs:=#[.tmp 164,.tmp 171]) rfl ?_);at_builtin;refine Kd.R_append (Kd.int .i64) (w0:=w) w.heap.size rfl (.tmp 164) (.tmp 171) 27 3 (.int .i64 0) 8 rfl Try.underlying27 info3 rfl (by decide) (by omega) u15 x15_5 ((rd_T40 l0_0 x16_5).f0) [.int .i64 ((rd_T40 l0_0 x16_5).f0)] (fun k_ => some k_ ≠ (.slice (some ad548) x5_2.length co20:Value).ownBlock) (fun _ => False) rfl rfl ?aP (fun _ hk => hk.elim) ?aF ?aO ?aB ?aS ?aL ?_;(case aP => exact rfl);(case aB => exact (by repeat (first | (with_reducible first | exact HB.out | apply below_alloc | apply pw_below_drewN | apply below_drew1 | refine below_set ?_ GE519.out) | exact HB.out)));(case aF => exact (fun k_ hk => Kd.fresh' (Kd.R_lt (by (with_reducible repeat (first | apply Kd.R_alloc | apply Kd.R_drewN | apply Kd.R_drew));exact HO_5.out)) k_ hk));(case aO => exact (by (with_reducible repeat (first | apply Kd.R_alloc | apply Kd.R_drewN | apply Kd.R_drew));exact HO_15.out));(case aS => exact (below_size (by repeat (first | (with_reducible first | exact HB.out | apply below_alloc | apply pw_below_drewN | apply below_drew1 | refine below_set ?_ GE519.out) | exact HB.out))));(case aL => have:=LMc96.out;omega);intro v552 w98 ho hb hg hat;rw [← Ny551.out] at ho;have n0_:=Aside0.mk (Kd.R_after (ok:=(fun _ => True)) (by (with_reducible repeat (first | apply Kd.R_alloc | apply Kd.R_drewN | apply Kd.R_drew));exact Kd.R_mono HO_5.out (fun _ hk => ⟨trivial,hk⟩)) hg hat);have n1_:=Aside0.mk (Kd.S_after (ok:=(fun k_ => some k_ ≠ (.slice (some ad548) x5_2.length co20:Value).ownBlock)) (by (with_reducible repeat (first | apply Kd.S_alloc | apply Kd.S_drewN | apply Kd.S_drew));exact HO_13.out) hg hat);have n2_:=Aside0.mk (blk_grown (g:=gb519) (o:=.cells #[.slice (some ad547) l0_0.length c0_0,.slice A0_1 l0_1.length c0_1] 25 (0,0)) (by (with_reducible repeat (first | refine blk_drewN ?_ _ | refine blk_drew ?_ | refine blk_alloc ?_ _));first | exact BK519.out | ((try rw [← Nbq90.out]);exact BK519.out) | (have hb_:=BK519.out;(try rw [← Nbq90.out] at hb_);exact hb_)) hg (Kd.R_ne HO_15.out BK519.out (by decide)));have n3_:=Aside0.mk (hb);have n4_:=Aside0.mk (ho);clear HO_5;clear HO_13;clear BK519;clear HB;clear HO_15;have HO_5:=n0_;have HO_13:=n1_;have BK519:=n2_;have HB:=n3_;have HO553:=n4_;clear n0_ n1_ n2_ n3_ n4_;clear ho hb hg hat)))
             go_roundg k5
             case measure => have:=HK1.out;have:=HK2.out;have:=HK3.out;have:=HJ78.out;have:=HK5.out;omega
             case rel => (try rw [← Nbq90.out]);exact ⟨(y551),(wrap64 (x16_5 + 1)),(by first | rfl | (simp;done) | (simp [*];done)),H',⟨by have:=HK1.out;have:=HK2.out;have:=HK3.out;have:=HJ78.out;have:=HK5.out;omega⟩,⟨by (try simp only [hl5_2]);(with_reducible repeat (first | apply Kd.R_alloc | apply Kd.R_drewN | apply Kd.R_drew));exact Kd.R_mono HO_5.out (fun _ hk => hk.2)⟩,⟨by (try simp only [hl5_2]);(with_reducible repeat (first | apply Kd.S_alloc | apply Kd.S_drewN | apply Kd.S_drew));exact HO_13.out⟩,⟨by (try simp only [hl5_2]);(with_reducible repeat (first | apply Kd.R_alloc | apply Kd.R_drewN | apply Kd.R_drew));exact HO553.out⟩,⟨by (try simp only [hl5_2]);(with_reducible repeat (first | refine blk_drewN ?_ _ | refine blk_drew ?_ | refine blk_alloc ?_ _));first | exact BK519.out | ((try rw [← Nbq90.out]);exact BK519.out) | (have hb_:=BK519.out;(try rw [← Nbq90.out] at hb_);exact hb_)⟩,⟨by repeat (first | (with_reducible first | exact HB.out | apply below_alloc | apply pw_below_drewN | apply below_drew1 | refine below_set ?_ GE519.out) | exact HB.out)⟩⟩
            rw [if_neg c95] at H
            have c95b0:((rd x5_2 x16_5) == (rd x5_2 x14_3)) = false:=beq_eq_false_iff_ne.mpr c95
            have c95b1:((rd x5_2 x16_5) != (rd x5_2 x14_3)) = true:=bne_iff_ne.mpr c95
            have H':=Aside0.mk H
            clear H
            have hcz99_0:wr.cell? ⟨gb519,0,none⟩ = some (.slice A0_0 l0_0.length c0_0):=(blk_cell BK519.out 0).trans (by first | rfl | ((try rw [← Nbq90.out]);rfl))
            have hcz99_1:wr.cell? ⟨gb519,1,none⟩ = some (.slice A0_1 l0_1.length c0_1):=(blk_cell BK519.out 1).trans (by first | rfl | ((try rw [← Nbq90.out]);rfl))
            have hfz99_0:=blk_frozen BK519.out 0
            have hfz99_1:=blk_frozen BK519.out 1
            have p547:0 ≤ (x16_5:Int):=of_decide_eq_true (by first | (with_reducible assumption) | assumption)
            have q547:x16_5 < (l0_0.length:Int):=of_decide_eq_true (by first | (with_reducible assumption) | assumption)
            obtain ⟨ad547,e547,hx547_0,hx547_1,hx547_2⟩:=at_T40 HR0_0.out x16_5 p547 q547
            (try rw [← Nbq90.out] at hx547_1)
            (try rw [← Nbq90.out] at hx547_2)
            cases e547
            replace hx547_0:=(HB.out.cell (World.block_lt_of_cell? w _ hx547_0)).trans hx547_0
            replace hx547_1:=(HB.out.cell (World.block_lt_of_cell? w _ hx547_1)).trans hx547_1
            replace hx547_2:=(HB.out.cell (World.block_lt_of_cell? w _ hx547_2)).trans hx547_2
            replace p547:=eq_true p547
            replace q547:=eq_true q547
            have p548:0 ≤ (x16_5:Int):=of_decide_eq_true (by first | (with_reducible assumption) | assumption)
            have q548:x16_5 < (x5_2.length:Int):=of_decide_eq_true (by first | (with_reducible assumption) | assumption)
            obtain ⟨ad548,e548,hx548_0⟩:=Kd.at_int (Kd.R_reads' HO_5.out).2.2 x16_5 p548 q548
            cases e548
            replace p548:=eq_true p548
            replace q548:=eq_true q548
            have p549:0 ≤ (x14_3:Int):=of_decide_eq_true (by first | (with_reducible assumption) | assumption)
            have q549:x14_3 < (x5_2.length:Int):=of_decide_eq_true (by first | (with_reducible assumption) | assumption)
            obtain ⟨ad549,e549,hx549_0⟩:=Kd.at_int (Kd.R_reads' HO_5.out).2.2 x14_3 p549 q549
            obtain rfl:ad548 = ad549:=(by injection e549)
            replace p549:=eq_true p549
            replace q549:=eq_true q549
            go_wp2
            repeat (go_quiet (fail);try go_wp2)
            go_roundg k5
            case measure => have:=HK1.out;have:=HK2.out;have:=HK3.out;have:=HJ78.out;have:=HK5.out;omega
            case rel => (try rw [← Nbq90.out]);exact ⟨(x15_5),(wrap64 (x16_5 + 1)),(by first | rfl | (simp;done) | (simp [*];done)),H',⟨by have:=HK1.out;have:=HK2.out;have:=HK3.out;have:=HJ78.out;have:=HK5.out;omega⟩,⟨by (try simp only [hl5_2]);(with_reducible repeat (first | apply Kd.R_alloc | apply Kd.R_drewN | apply Kd.R_drew));exact HO_5.out⟩,⟨by (try simp only [hl5_2]);(with_reducible repeat (first | apply Kd.S_alloc | apply Kd.S_drewN | apply Kd.S_drew));exact HO_13.out⟩,⟨by (try simp only [hl5_2]);(with_reducible repeat (first | apply Kd.R_alloc | apply Kd.R_drewN | apply Kd.R_drew));exact HO_15.out⟩,⟨by (try simp only [hl5_2]);(with_reducible repeat (first | refine blk_drewN ?_ _ | refine blk_drew ?_ | refine blk_alloc ?_ _));first | exact BK519.out | ((try rw [← Nbq90.out]);exact BK519.out) | (have hb_:=BK519.out;(try rw [← Nbq90.out] at hb_);exact hb_)⟩,⟨by repeat (first | (with_reducible first | exact HB.out | apply below_alloc | apply pw_below_drewN | apply below_drew1 | refine below_set ?_ GE519.out) | exact HB.out)⟩⟩
     subst c21
     have H1:(beaconref08_Components.l2 k2 x5_2 false 0 l0_0 l0_1) = some (r1,r2):=by rw [if_pos rfl] at H;exact H
     clear H
     have H:=H1
     clear H1
     have H':=Aside0.mk H
     clear H
     go_wp2
     repeat (go_quiet (fail);try go_wp2)
     go_loopg [7,8] k2 (fun kq v7 v8 w' => ∃ (x5_3:List Int) (x7_3:Bool) (x8_3:Int),v7 = .bool x7_3 ∧ v8 = .int .i64 x8_3 ∧ Aside0 (beaconref08_Components.l2 kq x5_3 x7_3 x8_3 l0_0 l0_1 = some (r1,r2)) ∧ Aside0 (kq ≤ k2) ∧ Aside0 (Kd.R (Kd.int .i64) 3 w' w.heap.size (fun _ => True) (.slice Ao20 x5_2.length co20) x5_3) ∧ Aside0 (w'.heap[gb519]? = some (.cells #[(.slice A0_0 l0_0.length c0_0),(.slice A0_1 l0_1.length c0_1)] 25 (0,0))) ∧ Aside0 (Below w.heap.size w w'))
     case atStart => exact ⟨(x5_2),(false),(0),(by first | rfl | (simp;done) | (simp [*];done)),(by first | rfl | (simp;done) | (simp [*];done)),H',⟨Nat.le_refl _⟩,⟨by (try simp only [hl5_2]);(with_reducible repeat (first | apply Kd.R_alloc | apply Kd.R_drewN | apply Kd.R_drew));exact HO_5.out⟩,⟨by (try simp only [hl5_2]);(with_reducible repeat (first | refine blk_drewN ?_ _ | refine blk_drew ?_ | refine blk_alloc ?_ _));exact BK519.out⟩,⟨by repeat (first | (with_reducible first | exact HB.out | apply below_alloc | apply pw_below_drewN | apply below_drew1 | refine below_set ?_ GE519.out) | exact HB.out)⟩⟩
     case round =>
      clear H'
      obtain ⟨x5_3,x7_3,x8_3,rfl,rfl,HA,HK3,HO_5,BK519,HB⟩:=hrel
      have hl5_3:=(Kd.R_reads' HO_5.out).1
      rw [hl5_3] at HO_5
      (try simp only [hl5_3])
      (try simp only [hl5_3] at BK519)
      cases gk with
      | zero => exact absurd HA.out (by simp [beaconref08_Components.l2])
      | succ k3 =>
       have H:=HA.out
       clear HA
       simp only [beaconref08_Components.l2] at H
       by_cases c22:x8_3 < (l0_1.length:Int)
       rotate_left
       ·rw [if_neg c22] at H
        have c22b0:decide (x8_3 < (l0_1.length:Int)) = false:=decide_eq_false c22
        clear c22
        have H':=Aside0.mk H
        clear H
        have hcz77_0:wr.cell? ⟨gb519,0,none⟩ = some (.slice A0_0 l0_0.length c0_0):=(blk_cell BK519.out 0).trans rfl
        have hcz77_1:wr.cell? ⟨gb519,1,none⟩ = some (.slice A0_1 l0_1.length c0_1):=(blk_cell BK519.out 1).trans rfl
        have hfz77_0:=blk_frozen BK519.out 0
        have hfz77_1:=blk_frozen BK519.out 1
        go_wp2
        repeat (go_quiet (fail);try go_wp2)
        (try simp only [← hl5_2,← hl5_3])
        go_roundg k3
        case measure => have:=HK1.out;have:=HK2.out;have:=HK3.out;omega
        case rel => exact ⟨(x5_3),(x7_3),(by first | rfl | (simp;done) | (simp [*];done)),H',⟨by have:=HK1.out;have:=HK2.out;have:=HK3.out;omega⟩,⟨by (try simp only [hl5_2]);(try simp only [hl5_3]);(with_reducible repeat (first | apply Kd.R_alloc | apply Kd.R_drewN | apply Kd.R_drew));exact HO_5.out⟩,⟨by (try simp only [hl5_2]);(try simp only [hl5_3]);(with_reducible repeat (first | refine blk_drewN ?_ _ | refine blk_drew ?_ | refine blk_alloc ?_ _));exact BK519.out⟩,⟨by repeat (first | (with_reducible first | exact HB.out | apply below_alloc | apply pw_below_drewN | apply below_drew1 | refine below_set ?_ GE519.out) | exact HB.out)⟩⟩
       rw [if_pos c22] at H
       have c22b0:decide (x8_3 < (l0_1.length:Int)) = true:=decide_eq_true c22
       clear c22
       by_cases c23:0 ≤ x8_3
       rotate_left
       ·rw [if_neg c23] at H
        exact absurd H (by simp)
       rw [if_pos c23] at H
       have c23b0:decide (0 ≤ x8_3) = true:=decide_eq_true c23
       clear c23
       replace H:=Option.bind_eq_some_iff.mp H
       obtain ⟨t528,A240,H⟩:=H
       replace H:((beaconref08_place.f k3 l0_0 l0_1 ((rd_T74 l0_1 x8_3).f1)).bind fun t529 => (if (rd_T74 l0_1 x8_3).f3 = true then (if 0 ≤ t528 then (if t528 < (l0_0.length:Int) then (if (rd_T40 l0_0 t528).f1 = true then (if 0 ≤ t529 then (if t529 < (l0_0.length:Int) then (if (rd_T40 l0_0 t529).f1 = true then (if t528 < (x5_3.length:Int) then (if t529 < (x5_3.length:Int) then (beaconref08_Components.j3 k3 x5_3 x7_3 x8_3 t528 t529 ((rd x5_3 t528) != (rd x5_3 t529)) l0_0 l0_1) else (none)) else (none)) else (beaconref08_Components.j3 k3 x5_3 x7_3 x8_3 t528 t529 false l0_0 l0_1)) else (none)) else (none)) else (beaconref08_Components.j3 k3 x5_3 x7_3 x8_3 t528 t529 false l0_0 l0_1)) else (none)) else (none)) else (beaconref08_Components.j3 k3 x5_3 x7_3 x8_3 t528 t529 false l0_0 l0_1))) = some (r1,r2):=H
       have A24:=Aside0.mk A240
       clear A240
       replace H:=Option.bind_eq_some_iff.mp H
       obtain ⟨t529,A250,H⟩:=H
       replace H:(if (rd_T74 l0_1 x8_3).f3 = true then (if 0 ≤ t528 then (if t528 < (l0_0.length:Int) then (if (rd_T40 l0_0 t528).f1 = true then (if 0 ≤ t529 then (if t529 < (l0_0.length:Int) then (if (rd_T40 l0_0 t529).f1 = true then (if t528 < (x5_3.length:Int) then (if t529 < (x5_3.length:Int) then (beaconref08_Components.j3 k3 x5_3 x7_3 x8_3 t528 t529 ((rd x5_3 t528) != (rd x5_3 t529)) l0_0 l0_1) else (none)) else (none)) else (beaconref08_Components.j3 k3 x5_3 x7_3 x8_3 t528 t529 false l0_0 l0_1)) else (none)) else (none)) else (beaconref08_Components.j3 k3 x5_3 x7_3 x8_3 t528 t529 false l0_0 l0_1)) else (none)) else (none)) else (beaconref08_Components.j3 k3 x5_3 x7_3 x8_3 t528 t529 false l0_0 l0_1)) = some (r1,r2):=H
       have A25:=Aside0.mk A250
       clear A250
       have HC26:=Aside0.mk H
       clear H
       have hcz27_0:wr.cell? ⟨gb519,0,none⟩ = some (.slice A0_0 l0_0.length c0_0):=(blk_cell BK519.out 0).trans rfl
       have hcz27_1:wr.cell? ⟨gb519,1,none⟩ = some (.slice A0_1 l0_1.length c0_1):=(blk_cell BK519.out 1).trans rfl
       have hfz27_0:=blk_frozen BK519.out 0
       have hfz27_1:=blk_frozen BK519.out 1
       have p526:0 ≤ (x8_3:Int):=of_decide_eq_true (by first | (with_reducible assumption) | assumption)
       have q526:x8_3 < (l0_1.length:Int):=of_decide_eq_true (by first | (with_reducible assumption) | assumption)
       obtain ⟨ad526,e526,hx526_0,hx526_1,hx526_2,hx526_3⟩:=at_T74 HR0_1.out x8_3 p526 q526
       cases e526
       replace hx526_0:=(HB.out.cell (World.block_lt_of_cell? w _ hx526_0)).trans hx526_0
       replace hx526_1:=(HB.out.cell (World.block_lt_of_cell? w _ hx526_1)).trans hx526_1
       replace hx526_2:=(HB.out.cell (World.block_lt_of_cell? w _ hx526_2)).trans hx526_2
       replace hx526_3:=(HB.out.cell (World.block_lt_of_cell? w _ hx526_3)).trans hx526_3
       replace p526:=eq_true p526
       replace q526:=eq_true q526
       go_upto_region 18 with (first | ((with_reducible refine gate_dst (N:=9) rfl ?_);refine box_event ?hg (N:=9) ?hd (cs:=#[.int .i64 0,.int .i64 0,.float .f64 0,.bool false]) (t:=74) ?hr ?_;(case hd => rfl);(case hg => rfl);(case hr => first | (go_simp;done) | (go_simp;rfl));intro gb527 hg w28 hbox hb;have n0_:=Aside0.mk (Kd.R_below (by (with_reducible repeat (first | apply Kd.R_alloc | apply Kd.R_drewN | apply Kd.R_drew));exact HO_5.out) hb);have n1_:=Aside0.mk (blk_below (g:=gb519) (o:=.cells #[.slice A0_0 l0_0.length c0_0,.slice (some ad526) l0_1.length c0_1] 25 (0,0)) (by (with_reducible repeat (first | refine blk_drewN ?_ _ | refine blk_drew ?_ | refine blk_alloc ?_ _));exact BK519.out) hb);have n2_:=Aside0.mk (below_step (by repeat (first | (with_reducible first | exact HB.out | apply below_alloc | apply pw_below_drewN | apply below_drew1 | refine below_set ?_ GE519.out) | exact HB.out)) hb);have n3_:=Aside0.mk (hbox);have n4_:=Aside0.mk ((by rw [hg];exact (below_size (by repeat (first | (with_reducible first | exact HB.out | apply below_alloc | apply pw_below_drewN | apply below_drew1 | refine below_set ?_ GE519.out) | exact HB.out))):w.heap.size ≤ gb527));have n5_:=Aside0.mk ((by rw [hg];exact (below_size (by repeat (first | (with_reducible first | exact HB.out | apply below_alloc | apply pw_below_drewN | apply below_drew1 | refine below_set ?_ GE519.out) | exact HB.out))):w.heap.size ≤ gb527));have n6_:=Aside0.mk ((by rw [hg];exact Nat.ne_of_lt (blk_lt (g:=gb519) (o:=.cells #[.slice A0_0 l0_0.length c0_0,.slice (some ad526) l0_1.length c0_1] 25 (0,0)) (by (with_reducible repeat (first | refine blk_drewN ?_ _ | refine blk_drew ?_ | refine blk_alloc ?_ _));exact BK519.out)):gb519 ≠ gb527));have n7_:=Aside0.mk ((by rw [hg];exact Nat.ne_of_gt (blk_lt (g:=gb519) (o:=.cells #[.slice A0_0 l0_0.length c0_0,.slice (some ad526) l0_1.length c0_1] 25 (0,0)) (by (with_reducible repeat (first | refine blk_drewN ?_ _ | refine blk_drew ?_ | refine blk_alloc ?_ _));exact BK519.out)):gb527 ≠ gb519));clear HO_5;clear BK519;clear HB;have HO_5:=n0_;have BK519:=n1_;have HB:=n2_;have BK527:=n3_;have GW527:=n4_;have GE527:=n5_;have NB519_527:=n6_;have NB527_519:=n7_;clear n0_ n1_ n2_ n3_ n4_ n5_ n6_ n7_;clear hb hbox hg;have hnb29:=NB527_519.out;have hnc29:=NB519_527.out;have hcz30_0:w28.cell? ⟨gb527,0,none⟩ = some (.int .i64 0):=(blk_cell BK527.out 0).trans rfl;have hcz30_1:w28.cell? ⟨gb527,1,none⟩ = some (.int .i64 0):=(blk_cell BK527.out 1).trans rfl;have hcz30_2:w28.cell? ⟨gb527,2,none⟩ = some (.float .f64 0):=(blk_cell BK527.out 2).trans rfl;have hcz30_3:w28.cell? ⟨gb527,3,none⟩ = some (.bool false):=(blk_cell BK527.out 3).trans rfl;have hfz30_0:=blk_frozen BK527.out 0;have hfz30_1:=blk_frozen BK527.out 1;have hfz30_2:=blk_frozen BK527.out 2;have hfz30_3:=blk_frozen BK527.out 3;have hcz31_0:w28.cell? ⟨gb519,0,none⟩ = some (.slice A0_0 l0_0.length c0_0):=(blk_cell BK519.out 0).trans rfl;have hcz31_1:w28.cell? ⟨gb519,1,none⟩ = some (.slice (some ad526) l0_1.length c0_1):=(blk_cell BK519.out 1).trans rfl;have hfz31_0:=blk_frozen BK519.out 0;have hfz31_1:=blk_frozen BK519.out 1) | (go_at_call 38;(with_reducible refine (beaconref08_place.calls k3 _ _ l0_0 _ _ l0_1 ((rd_T74 l0_1 x8_3).f0) t528 _ ?side1 ?side2 ?side3 ?side4 A24.out).mono ?_);(case side1 => exact Kd.C_below HR0_0.out (by repeat (first | (with_reducible first | exact HB.out | apply below_alloc | apply pw_below_drewN | apply below_drew1 | refine below_set ?_ GE519.out | refine below_set ?_ GE527.out) | exact HB.out)));(case side2 => exact HC0_0.out);(case side3 => exact Kd.C_below HR0_1.out (by repeat (first | (with_reducible first | exact HB.out | apply below_alloc | apply pw_below_drewN | apply below_drew1 | refine below_set ?_ GE519.out | refine below_set ?_ GE527.out) | exact HB.out)));(case side4 => exact HC0_1.out);rintro e w32 ⟨rfl,hb⟩;have n0_:=Aside0.mk (Kd.R_below (by (with_reducible repeat (first | apply Kd.R_alloc | apply Kd.R_drewN | apply Kd.R_drew));exact (Kd.R_mono (Kd.R_far (p:=⟨gb527,3,none⟩) (Kd.R_far (p:=⟨gb527,2,none⟩) (Kd.R_far (p:=⟨gb527,1,none⟩) (Kd.R_far (p:=⟨gb527,0,none⟩) (Kd.R_types HO_5.out BK527.out (by decide)) (fun _ hk => hk.2) (.int .i64 ((rd_T74 l0_1 x8_3).f0))) (fun _ hk => hk.2) (.int .i64 ((rd_T74 l0_1 x8_3).f1))) (fun _ hk => hk.2) (.float .f64 ((rd_T74 l0_1 x8_3).f2))) (fun _ hk => hk.2) (.bool ((rd_T74 l0_1 x8_3).f3))) (fun _ h_ => h_.1))) hb);have n1_:=Aside0.mk (blk_below (g:=gb519) (o:=.cells #[.slice A0_0 l0_0.length c0_0,.slice (some ad526) l0_1.length c0_1] 25 (0,0)) (by (with_reducible repeat (first | refine blk_drewN ?_ _ | refine blk_drew ?_ | refine blk_alloc ?_ _));refine blk_far ?_ NB519_527.out _;(with_reducible repeat (first | refine blk_drewN ?_ _ | refine blk_drew ?_ | refine blk_alloc ?_ _));refine blk_far ?_ NB519_527.out _;(with_reducible repeat (first | refine blk_drewN ?_ _ | refine blk_drew ?_ | refine blk_alloc ?_ _));refine blk_far ?_ NB519_527.out _;(with_reducible repeat (first | refine blk_drewN ?_ _ | refine blk_drew ?_ | refine blk_alloc ?_ _));refine blk_far ?_ NB519_527.out _;(with_reducible repeat (first | refine blk_drewN ?_ _ | refine blk_drew ?_ | refine blk_alloc ?_ _));exact BK519.out) hb);have n2_:=Aside0.mk (blk_below (g:=gb527) (o:=.cells #[.int .i64 ((rd_T74 l0_1 x8_3).f0),.int .i64 ((rd_T74 l0_1 x8_3).f1),.float .f64 ((rd_T74 l0_1 x8_3).f2),.bool ((rd_T74 l0_1 x8_3).f3)] 74 (0,0)) (by (with_reducible repeat (first | refine blk_drewN ?_ _ | refine blk_drew ?_ | refine blk_alloc ?_ _));refine blk_put (cs:=#[.int .i64 ((rd_T74 l0_1 x8_3).f0),.int .i64 ((rd_T74 l0_1 x8_3).f1),.float .f64 ((rd_T74 l0_1 x8_3).f2),.bool false]) ?_ 3 _ rfl;(with_reducible repeat (first | refine blk_drewN ?_ _ | refine blk_drew ?_ | refine blk_alloc ?_ _));refine blk_put (cs:=#[.int .i64 ((rd_T74 l0_1 x8_3).f0),.int .i64 ((rd_T74 l0_1 x8_3).f1),.float .f64 0,.bool false]) ?_ 2 _ rfl;(with_reducible repeat (first | refine blk_drewN ?_ _ | refine blk_drew ?_ | refine blk_alloc ?_ _));refine blk_put (cs:=#[.int .i64 ((rd_T74 l0_1 x8_3).f0),.int .i64 0,.float .f64 0,.bool false]) ?_ 1 _ rfl;(with_reducible repeat (first | refine blk_drewN ?_ _ | refine blk_drew ?_ | refine blk_alloc ?_ _));refine blk_put (cs:=#[.int .i64 0,.int .i64 0,.float .f64 0,.bool false]) ?_ 0 _ rfl;(with_reducible repeat (first | refine blk_drewN ?_ _ | refine blk_drew ?_ | refine blk_alloc ?_ _));exact BK527.out) hb);have n3_:=Aside0.mk (below_step (by repeat (first | (with_reducible first | exact HB.out | apply below_alloc | apply pw_below_drewN | apply below_drew1 | refine below_set ?_ GE519.out | refine below_set ?_ GE527.out) | exact HB.out)) hb);clear HO_5;clear BK519;clear BK527;clear HB;have HO_5:=n0_;have BK519:=n1_;have BK527:=n2_;have HB:=n3_;clear n0_ n1_ n2_ n3_;(try clear hb);(try clear hb2);(try clear hk);(try clear hi);have hcz33_0:w32.cell? ⟨gb519,0,none⟩ = some (.slice A0_0 l0_0.length c0_0):=(blk_cell BK519.out 0).trans rfl;have hcz33_1:w32.cell? ⟨gb519,1,none⟩ = some (.slice (some ad526) l0_1.length c0_1):=(blk_cell BK519.out 1).trans rfl;have hfz33_0:=blk_frozen BK519.out 0;have hfz33_1:=blk_frozen BK519.out 1;have hcz34_0:w32.cell? ⟨gb527,0,none⟩ = some (.int .i64 ((rd_T74 l0_1 x8_3).f0)):=(blk_cell BK527.out 0).trans rfl;have hcz34_1:w32.cell? ⟨gb527,1,none⟩ = some (.int .i64 ((rd_T74 l0_1 x8_3).f1)):=(blk_cell BK527.out 1).trans rfl;have hcz34_2:w32.cell? ⟨gb527,2,none⟩ = some (.float .f64 ((rd_T74 l0_1 x8_3).f2)):=(blk_cell BK527.out 2).trans rfl;have hcz34_3:w32.cell? ⟨gb527,3,none⟩ = some (.bool ((rd_T74 l0_1 x8_3).f3)):=(blk_cell BK527.out 3).trans rfl;have hfz34_0:=blk_frozen BK527.out 0;have hfz34_1:=blk_frozen BK527.out 1;have hfz34_2:=blk_frozen BK527.out 2;have hfz34_3:=blk_frozen BK527.out 3) | (go_at_call 38;(with_reducible refine (beaconref08_place.calls k3 _ _ l0_0 _ _ l0_1 ((rd_T74 l0_1 x8_3).f1) t529 _ ?side1 ?side2 ?side3 ?side4 A25.out).mono ?_);(case side1 => repeat (first | exact (Kd.C_below HR0_0.out HB.out) | (with_reducible refine Kd.C_alloc ?_ _) | (with_reducible refine Kd.C_drewN ?_ _) | (with_reducible refine Kd.C_drew ?_)));(case side2 => exact HC0_0.out);(case side3 => repeat (first | exact (Kd.C_below HR0_1.out HB.out) | (with_reducible refine Kd.C_alloc ?_ _) | (with_reducible refine Kd.C_drewN ?_ _) | (with_reducible refine Kd.C_drew ?_)));(case side4 => exact HC0_1.out);rintro e w35 ⟨rfl,hb⟩;have n0_:=Aside0.mk (Kd.R_below (by (with_reducible repeat (first | apply Kd.R_alloc | apply Kd.R_drewN | apply Kd.R_drew));exact HO_5.out) hb);have n1_:=Aside0.mk (blk_below (g:=gb519) (o:=.cells #[.slice A0_0 l0_0.length c0_0,.slice (some ad526) l0_1.length c0_1] 25 (0,0)) (by (with_reducible repeat (first | refine blk_drewN ?_ _ | refine blk_drew ?_ | refine blk_alloc ?_ _));exact BK519.out) hb);have n2_:=Aside0.mk (blk_below (g:=gb527) (o:=.cells #[.int .i64 ((rd_T74 l0_1 x8_3).f0),.int .i64 ((rd_T74 l0_1 x8_3).f1),.float .f64 ((rd_T74 l0_1 x8_3).f2),.bool ((rd_T74 l0_1 x8_3).f3)] 74 (0,0)) (by (with_reducible repeat (first | refine blk_drewN ?_ _ | refine blk_drew ?_ | refine blk_alloc ?_ _));exact BK527.out) hb);have n3_:=Aside0.mk (below_step (by repeat (first | (with_reducible first | exact HB.out | apply below_alloc | apply pw_below_drewN | apply below_drew1 | refine below_set ?_ GE519.out | refine below_set ?_ GE527.out) | exact HB.out)) hb);clear HO_5;clear BK519;clear BK527;clear HB;have HO_5:=n0_;have BK519:=n1_;have BK527:=n2_;have HB:=n3_;clear n0_ n1_ n2_ n3_;(try clear hb);(try clear hb2);(try clear hk);(try clear hi)))
       repeat (go_quiet (first | ((with_reducible refine gate_dst (N:=9) rfl ?_);refine box_event ?hg (N:=9) ?hd (cs:=#[.int .i64 0,.int .i64 0,.float .f64 0,.bool false]) (t:=74) ?hr ?_;(case hd => rfl);(case hg => rfl);(case hr => first | (go_simp;done) | (go_simp;rfl));intro gb527 hg w28 hbox hb;have n0_:=Aside0.mk (Kd.R_below (by (with_reducible repeat (first | apply Kd.R_alloc | apply Kd.R_drewN | apply Kd.R_drew));exact HO_5.out) hb);have n1_:=Aside0.mk (blk_below (g:=gb519) (o:=.cells #[.slice A0_0 l0_0.length c0_0,.slice (some ad526) l0_1.length c0_1] 25 (0,0)) (by (with_reducible repeat (first | refine blk_drewN ?_ _ | refine blk_drew ?_ | refine blk_alloc ?_ _));exact BK519.out) hb);have n2_:=Aside0.mk (below_step (by repeat (first | (with_reducible first | exact HB.out | apply below_alloc | apply pw_below_drewN | apply below_drew1 | refine below_set ?_ GE519.out) | exact HB.out)) hb);have n3_:=Aside0.mk (hbox);have n4_:=Aside0.mk ((by rw [hg];exact (below_size (by repeat (first | (with_reducible first | exact HB.out | apply below_alloc | apply pw_below_drewN | apply below_drew1 | refine below_set ?_ GE519.out) | exact HB.out))):w.heap.size ≤ gb527));have n5_:=Aside0.mk ((by rw [hg];exact (below_size (by repeat (first | (with_reducible first | exact HB.out | apply below_alloc | apply pw_below_drewN | apply below_drew1 | refine below_set ?_ GE519.out) | exact HB.out))):w.heap.size ≤ gb527));have n6_:=Aside0.mk ((by rw [hg];exact Nat.ne_of_lt (blk_lt (g:=gb519) (o:=.cells #[.slice A0_0 l0_0.length c0_0,.slice (some ad526) l0_1.length c0_1] 25 (0,0)) (by (with_reducible repeat (first | refine blk_drewN ?_ _ | refine blk_drew ?_ | refine blk_alloc ?_ _));exact BK519.out)):gb519 ≠ gb527));have n7_:=Aside0.mk ((by rw [hg];exact Nat.ne_of_gt (blk_lt (g:=gb519) (o:=.cells #[.slice A0_0 l0_0.length c0_0,.slice (some ad526) l0_1.length c0_1] 25 (0,0)) (by (with_reducible repeat (first | refine blk_drewN ?_ _ | refine blk_drew ?_ | refine blk_alloc ?_ _));exact BK519.out)):gb527 ≠ gb519));clear HO_5;clear BK519;clear HB;have HO_5:=n0_;have BK519:=n1_;have HB:=n2_;have BK527:=n3_;have GW527:=n4_;have GE527:=n5_;have NB519_527:=n6_;have NB527_519:=n7_;clear n0_ n1_ n2_ n3_ n4_ n5_ n6_ n7_;clear hb hbox hg;have hnb29:=NB527_519.out;have hnc29:=NB519_527.out;have hcz30_0:w28.cell? ⟨gb527,0,none⟩ = some (.int .i64 0):=(blk_cell BK527.out 0).trans rfl;have hcz30_1:w28.cell? ⟨gb527,1,none⟩ = some (.int .i64 0):=(blk_cell BK527.out 1).trans rfl;have hcz30_2:w28.cell? ⟨gb527,2,none⟩ = some (.float .f64 0):=(blk_cell BK527.out 2).trans rfl;have hcz30_3:w28.cell? ⟨gb527,3,none⟩ = some (.bool false):=(blk_cell BK527.out 3).trans rfl;have hfz30_0:=blk_frozen BK527.out 0;have hfz30_1:=blk_frozen BK527.out 1;have hfz30_2:=blk_frozen BK527.out 2;have hfz30_3:=blk_frozen BK527.out 3;have hcz31_0:w28.cell? ⟨gb519,0,none⟩ = some (.slice A0_0 l0_0.length c0_0):=(blk_cell BK519.out 0).trans rfl;have hcz31_1:w28.cell? ⟨gb519,1,none⟩ = some (.slice (some ad526) l0_1.length c0_1):=(blk_cell BK519.out 1).trans rfl;have hfz31_0:=blk_frozen BK519.out 0;have hfz31_1:=blk_frozen BK519.out 1) | (go_at_call 38;(with_reducible refine (beaconref08_place.calls k3 _ _ l0_0 _ _ l0_1 ((rd_T74 l0_1 x8_3).f0) t528 _ ?side1 ?side2 ?side3 ?side4 A24.out).mono ?_);(case side1 => exact Kd.C_below HR0_0.out (by repeat (first | (with_reducible first | exact HB.out | apply below_alloc | apply pw_below_drewN | apply below_drew1 | refine below_set ?_ GE519.out | refine below_set ?_ GE527.out) | exact HB.out)));(case side2 => exact HC0_0.out);(case side3 => exact Kd.C_below HR0_1.out (by repeat (first | (with_reducible first | exact HB.out | apply below_alloc | apply pw_below_drewN | apply below_drew1 | refine below_set ?_ GE519.out | refine below_set ?_ GE527.out) | exact HB.out)));(case side4 => exact HC0_1.out);rintro e w32 ⟨rfl,hb⟩;have n0_:=Aside0.mk (Kd.R_below (by (with_reducible repeat (first | apply Kd.R_alloc | apply Kd.R_drewN | apply Kd.R_drew));exact (Kd.R_mono (Kd.R_far (p:=⟨gb527,3,none⟩) (Kd.R_far (p:=⟨gb527,2,none⟩) (Kd.R_far (p:=⟨gb527,1,none⟩) (Kd.R_far (p:=⟨gb527,0,none⟩) (Kd.R_types HO_5.out BK527.out (by decide)) (fun _ hk => hk.2) (.int .i64 ((rd_T74 l0_1 x8_3).f0))) (fun _ hk => hk.2) (.int .i64 ((rd_T74 l0_1 x8_3).f1))) (fun _ hk => hk.2) (.float .f64 ((rd_T74 l0_1 x8_3).f2))) (fun _ hk => hk.2) (.bool ((rd_T74 l0_1 x8_3).f3))) (fun _ h_ => h_.1))) hb);have n1_:=Aside0.mk (blk_below (g:=gb519) (o:=.cells #[.slice A0_0 l0_0.length c0_0,.slice (some ad526) l0_1.length c0_1] 25 (0,0)) (by (with_reducible repeat (first | refine blk_drewN ?_ _ | refine blk_drew ?_ | refine blk_alloc ?_ _));refine blk_far ?_ NB519_527.out _;(with_reducible repeat (first | refine blk_drewN ?_ _ | refine blk_drew ?_ | refine blk_alloc ?_ _));refine blk_far ?_ NB519_527.out _;(with_reducible repeat (first | refine blk_drewN ?_ _ | refine blk_drew ?_ | refine blk_alloc ?_ _));refine blk_far ?_ NB519_527.out _;(with_reducible repeat (first | refine blk_drewN ?_ _ | refine blk_drew ?_ | refine blk_alloc ?_ _));refine blk_far ?_ NB519_527.out _;(with_reducible repeat (first | refine blk_drewN ?_ _ | refine blk_drew ?_ | refine blk_alloc ?_ _));exact BK519.out) hb);have n2_:=Aside0.mk (blk_below (g:=gb527) (o:=.cells #[.int .i64 ((rd_T74 l0_1 x8_3).f0),.int .i64 ((rd_T74 l0_1 x8_3).f1),.float .f64 ((rd_T74 l0_1 x8_3).f2),.bool ((rd_T74 l0_1 x8_3).f3)] 74 (0,0)) (by (with_reducible repeat (first | refine blk_drewN ?_ _ | refine blk_drew ?_ | refine blk_alloc ?_ _));refine blk_put (cs:=#[.int .i64 ((rd_T74 l0_1 x8_3).f0),.int .i64 ((rd_T74 l0_1 x8_3).f1),.float .f64 ((rd_T74 l0_1 x8_3).f2),.bool false]) ?_ 3 _ rfl;(with_reducible repeat (first | refine blk_drewN ?_ _ | refine blk_drew ?_ | refine blk_alloc ?_ _));refine blk_put (cs:=#[.int .i64 ((rd_T74 l0_1 x8_3).f0),.int .i64 ((rd_T74 l0_1 x8_3).f1),.float .f64 0,.bool false]) ?_ 2 _ rfl;(with_reducible repeat (first | refine blk_drewN ?_ _ | refine blk_drew ?_ | refine blk_alloc ?_ _));refine blk_put (cs:=#[.int .i64 ((rd_T74 l0_1 x8_3).f0),.int .i64 0,.float .f64 0,.bool false]) ?_ 1 _ rfl;(with_reducible repeat (first | refine blk_drewN ?_ _ | refine blk_drew ?_ | refine blk_alloc ?_ _));refine blk_put (cs:=#[.int .i64 0,.int .i64 0,.float .f64 0,.bool false]) ?_ 0 _ rfl;(with_reducible repeat (first | refine blk_drewN ?_ _ | refine blk_drew ?_ | refine blk_alloc ?_ _));exact BK527.out) hb);have n3_:=Aside0.mk (below_step (by repeat (first | (with_reducible first | exact HB.out | apply below_alloc | apply pw_below_drewN | apply below_drew1 | refine below_set ?_ GE519.out | refine below_set ?_ GE527.out) | exact HB.out)) hb);clear HO_5;clear BK519;clear BK527;clear HB;have HO_5:=n0_;have BK519:=n1_;have BK527:=n2_;have HB:=n3_;clear n0_ n1_ n2_ n3_;(try clear hb);(try clear hb2);(try clear hk);(try clear hi);have hcz33_0:w32.cell? ⟨gb519,0,none⟩ = some (.slice A0_0 l0_0.length c0_0):=(blk_cell BK519.out 0).trans rfl;have hcz33_1:w32.cell? ⟨gb519,1,none⟩ = some (.slice (some ad526) l0_1.length c0_1):=(blk_cell BK519.out 1).trans rfl;have hfz33_0:=blk_frozen BK519.out 0;have hfz33_1:=blk_frozen BK519.out 1;have hcz34_0:w32.cell? ⟨gb527,0,none⟩ = some (.int .i64 ((rd_T74 l0_1 x8_3).f0)):=(blk_cell BK527.out 0).trans rfl;have hcz34_1:w32.cell? ⟨gb527,1,none⟩ = some (.int .i64 ((rd_T74 l0_1 x8_3).f1)):=(blk_cell BK527.out 1).trans rfl;have hcz34_2:w32.cell? ⟨gb527,2,none⟩ = some (.float .f64 ((rd_T74 l0_1 x8_3).f2)):=(blk_cell BK527.out 2).trans rfl;have hcz34_3:w32.cell? ⟨gb527,3,none⟩ = some (.bool ((rd_T74 l0_1 x8_3).f3)):=(blk_cell BK527.out 3).trans rfl;have hfz34_0:=blk_frozen BK527.out 0;have hfz34_1:=blk_frozen BK527.out 1;have hfz34_2:=blk_frozen BK527.out 2;have hfz34_3:=blk_frozen BK527.out 3) | (go_at_call 38;(with_reducible refine (beaconref08_place.calls k3 _ _ l0_0 _ _ l0_1 ((rd_T74 l0_1 x8_3).f1) t529 _ ?side1 ?side2 ?side3 ?side4 A25.out).mono ?_);(case side1 => repeat (first | exact (Kd.C_below HR0_0.out HB.out) | (with_reducible refine Kd.C_alloc ?_ _) | (with_reducible refine Kd.C_drewN ?_ _) | (with_reducible refine Kd.C_drew ?_)));(case side2 => exact HC0_0.out);(case side3 => repeat (first | exact (Kd.C_below HR0_1.out HB.out) | (with_reducible refine Kd.C_alloc ?_ _) | (with_reducible refine Kd.C_drewN ?_ _) | (with_reducible refine Kd.C_drew ?_)));(case side4 => exact HC0_1.out);rintro e w35 ⟨rfl,hb⟩;have n0_:=Aside0.mk (Kd.R_below (by (with_reducible repeat (first | apply Kd.R_alloc | apply Kd.R_drewN | apply Kd.R_drew));exact HO_5.out) hb);have n1_:=Aside0.mk (blk_below (g:=gb519) (o:=.cells #[.slice A0_0 l0_0.length c0_0,.slice (some ad526) l0_1.length c0_1] 25 (0,0)) (by (with_reducible repeat (first | refine blk_drewN ?_ _ | refine blk_drew ?_ | refine blk_alloc ?_ _));exact BK519.out) hb);have n2_:=Aside0.mk (blk_below (g:=gb527) (o:=.cells #[.int .i64 ((rd_T74 l0_1 x8_3).f0),.int .i64 ((rd_T74 l0_1 x8_3).f1),.float .f64 ((rd_T74 l0_1 x8_3).f2),.bool ((rd_T74 l0_1 x8_3).f3)] 74 (0,0)) (by (with_reducible repeat (first | refine blk_drewN ?_ _ | refine blk_drew ?_ | refine blk_alloc ?_ _));exact BK527.out) hb);have n3_:=Aside0.mk (below_step (by repeat (first | (with_reducible first | exact HB.out | apply below_alloc | apply pw_below_drewN | apply below_drew1 | refine below_set ?_ GE519.out | refine below_set ?_ GE527.out) | exact HB.out)) hb);clear HO_5;clear BK519;clear BK527;clear HB;have HO_5:=n0_;have BK519:=n1_;have BK527:=n2_;have HB:=n3_;clear n0_ n1_ n2_ n3_;(try clear hb);(try clear hb2);(try clear hk);(try clear hi)));go_upto_region 18 with (first | ((with_reducible refine gate_dst (N:=9) rfl ?_);refine box_event ?hg (N:=9) ?hd (cs:=#[.int .i64 0,.int .i64 0,.float .f64 0,.bool false]) (t:=74) ?hr ?_;(case hd => rfl);(case hg => rfl);(case hr => first | (go_simp;done) | (go_simp;rfl));intro gb527 hg w28 hbox hb;have n0_:=Aside0.mk (Kd.R_below (by (with_reducible repeat (first | apply Kd.R_alloc | apply Kd.R_drewN | apply Kd.R_drew));exact HO_5.out) hb);have n1_:=Aside0.mk (blk_below (g:=gb519) (o:=.cells #[.slice A0_0 l0_0.length c0_0,.slice (some ad526) l0_1.length c0_1] 25 (0,0)) (by (with_reducible repeat (first | refine blk_drewN ?_ _ | refine blk_drew ?_ | refine blk_alloc ?_ _));exact BK519.out) hb);have n2_:=Aside0.mk (below_step (by repeat (first | (with_reducible first | exact HB.out | apply below_alloc | apply pw_below_drewN | apply below_drew1 | refine below_set ?_ GE519.out) | exact HB.out)) hb);have n3_:=Aside0.mk (hbox);have n4_:=Aside0.mk ((by rw [hg];exact (below_size (by repeat (first | (with_reducible first | exact HB.out | apply below_alloc | apply pw_below_drewN | apply below_drew1 | refine below_set ?_ GE519.out) | exact HB.out))):w.heap.size ≤ gb527));have n5_:=Aside0.mk ((by rw [hg];exact (below_size (by repeat (first | (with_reducible first | exact HB.out | apply below_alloc | apply pw_below_drewN | apply below_drew1 | refine below_set ?_ GE519.out) | exact HB.out))):w.heap.size ≤ gb527));have n6_:=Aside0.mk ((by rw [hg];exact Nat.ne_of_lt (blk_lt (g:=gb519) (o:=.cells #[.slice A0_0 l0_0.length c0_0,.slice (some ad526) l0_1.length c0_1] 25 (0,0)) (by (with_reducible repeat (first | refine blk_drewN ?_ _ | refine blk_drew ?_ | refine blk_alloc ?_ _));exact BK519.out)):gb519 ≠ gb527));have n7_:=Aside0.mk ((by rw [hg];exact Nat.ne_of_gt (blk_lt (g:=gb519) (o:=.cells #[.slice A0_0 l0_0.length c0_0,.slice (some ad526) l0_1.length c0_1] 25 (0,0)) (by (with_reducible repeat (first | refine blk_drewN ?_ _ | refine blk_drew ?_ | refine blk_alloc ?_ _));exact BK519.out)):gb527 ≠ gb519));clear HO_5;clear BK519;clear HB;have HO_5:=n0_;have BK519:=n1_;have HB:=n2_;have BK527:=n3_;have GW527:=n4_;have GE527:=n5_;have NB519_527:=n6_;have NB527_519:=n7_;clear n0_ n1_ n2_ n3_ n4_ n5_ n6_ n7_;clear hb hbox hg;have hnb29:=NB527_519.out;have hnc29:=NB519_527.out;have hcz30_0:w28.cell? ⟨gb527,0,none⟩ = some (.int .i64 0):=(blk_cell BK527.out 0).trans rfl;have hcz30_1:w28.cell? ⟨gb527,1,none⟩ = some (.int .i64 0):=(blk_cell BK527.out 1).trans rfl;have hcz30_2:w28.cell? ⟨gb527,2,none⟩ = some (.float .f64 0):=(blk_cell BK527.out 2).trans rfl;have hcz30_3:w28.cell? ⟨gb527,3,none⟩ = some (.bool false):=(blk_cell BK527.out 3).trans rfl;have hfz30_0:=blk_frozen BK527.out 0;have hfz30_1:=blk_frozen BK527.out 1;have hfz30_2:=blk_frozen BK527.out 2;have hfz30_3:=blk_frozen BK527.out 3;have hcz31_0:w28.cell? ⟨gb519,0,none⟩ = some (.slice A0_0 l0_0.length c0_0):=(blk_cell BK519.out 0).trans rfl;have hcz31_1:w28.cell? ⟨gb519,1,none⟩ = some (.slice (some ad526) l0_1.length c0_1):=(blk_cell BK519.out 1).trans rfl;have hfz31_0:=blk_frozen BK519.out 0;have hfz31_1:=blk_frozen BK519.out 1) | (go_at_call 38;(with_reducible refine (beaconref08_place.calls k3 _ _ l0_0 _ _ l0_1 ((rd_T74 l0_1 x8_3).f0) t528 _ ?side1 ?side2 ?side3 ?side4 A24.out).mono ?_);(case side1 => exact Kd.C_below HR0_0.out (by repeat (first | (with_reducible first | exact HB.out | apply below_alloc | apply pw_below_drewN | apply below_drew1 | refine below_set ?_ GE519.out | refine below_set ?_ GE527.out) | exact HB.out)));(case side2 => exact HC0_0.out);(case side3 => exact Kd.C_below HR0_1.out (by repeat (first | (with_reducible first | exact HB.out | apply below_alloc | apply pw_below_drewN | apply below_drew1 | refine below_set ?_ GE519.out | refine below_set ?_ GE527.out) | exact HB.out)));(case side4 => exact HC0_1.out);rintro e w32 ⟨rfl,hb⟩;have n0_:=Aside0.mk (Kd.R_below (by (with_reducible repeat (first | apply Kd.R_alloc | apply Kd.R_drewN | apply Kd.R_drew));exact (Kd.R_mono (Kd.R_far (p:=⟨gb527,3,none⟩) (Kd.R_far (p:=⟨gb527,2,none⟩) (Kd.R_far (p:=⟨gb527,1,none⟩) (Kd.R_far (p:=⟨gb527,0,none⟩) (Kd.R_types HO_5.out BK527.out (by decide)) (fun _ hk => hk.2) (.int .i64 ((rd_T74 l0_1 x8_3).f0))) (fun _ hk => hk.2) (.int .i64 ((rd_T74 l0_1 x8_3).f1))) (fun _ hk => hk.2) (.float .f64 ((rd_T74 l0_1 x8_3).f2))) (fun _ hk => hk.2) (.bool ((rd_T74 l0_1 x8_3).f3))) (fun _ h_ => h_.1))) hb);have n1_:=Aside0.mk (blk_below (g:=gb519) (o:=.cells #[.slice A0_0 l0_0.length c0_0,.slice (some ad526) l0_1.length c0_1] 25 (0,0)) (by (with_reducible repeat (first | refine blk_drewN ?_ _ | refine blk_drew ?_ | refine blk_alloc ?_ _));refine blk_far ?_ NB519_527.out _;(with_reducible repeat (first | refine blk_drewN ?_ _ | refine blk_drew ?_ | refine blk_alloc ?_ _));refine blk_far ?_ NB519_527.out _;(with_reducible repeat (first | refine blk_drewN ?_ _ | refine blk_drew ?_ | refine blk_alloc ?_ _));refine blk_far ?_ NB519_527.out _;(with_reducible repeat (first | refine blk_drewN ?_ _ | refine blk_drew ?_ | refine blk_alloc ?_ _));refine blk_far ?_ NB519_527.out _;(with_reducible repeat (first | refine blk_drewN ?_ _ | refine blk_drew ?_ | refine blk_alloc ?_ _));exact BK519.out) hb);have n2_:=Aside0.mk (blk_below (g:=gb527) (o:=.cells #[.int .i64 ((rd_T74 l0_1 x8_3).f0),.int .i64 ((rd_T74 l0_1 x8_3).f1),.float .f64 ((rd_T74 l0_1 x8_3).f2),.bool ((rd_T74 l0_1 x8_3).f3)] 74 (0,0)) (by (with_reducible repeat (first | refine blk_drewN ?_ _ | refine blk_drew ?_ | refine blk_alloc ?_ _));refine blk_put (cs:=#[.int .i64 ((rd_T74 l0_1 x8_3).f0),.int .i64 ((rd_T74 l0_1 x8_3).f1),.float .f64 ((rd_T74 l0_1 x8_3).f2),.bool false]) ?_ 3 _ rfl;(with_reducible repeat (first | refine blk_drewN ?_ _ | refine blk_drew ?_ | refine blk_alloc ?_ _));refine blk_put (cs:=#[.int .i64 ((rd_T74 l0_1 x8_3).f0),.int .i64 ((rd_T74 l0_1 x8_3).f1),.float .f64 0,.bool false]) ?_ 2 _ rfl;(with_reducible repeat (first | refine blk_drewN ?_ _ | refine blk_drew ?_ | refine blk_alloc ?_ _));refine blk_put (cs:=#[.int .i64 ((rd_T74 l0_1 x8_3).f0),.int .i64 0,.float .f64 0,.bool false]) ?_ 1 _ rfl;(with_reducible repeat (first | refine blk_drewN ?_ _ | refine blk_drew ?_ | refine blk_alloc ?_ _));refine blk_put (cs:=#[.int .i64 0,.int .i64 0,.float .f64 0,.bool false]) ?_ 0 _ rfl;(with_reducible repeat (first | refine blk_drewN ?_ _ | refine blk_drew ?_ | refine blk_alloc ?_ _));exact BK527.out) hb);have n3_:=Aside0.mk (below_step (by repeat (first | (with_reducible first | exact HB.out | apply below_alloc | apply pw_below_drewN | apply below_drew1 | refine below_set ?_ GE519.out | refine below_set ?_ GE527.out) | exact HB.out)) hb);clear HO_5;clear BK519;clear BK527;clear HB;have HO_5:=n0_;have BK519:=n1_;have BK527:=n2_;have HB:=n3_;clear n0_ n1_ n2_ n3_;(try clear hb);(try clear hb2);(try clear hk);(try clear hi);have hcz33_0:w32.cell? ⟨gb519,0,none⟩ = some (.slice A0_0 l0_0.length c0_0):=(blk_cell BK519.out 0).trans rfl;have hcz33_1:w32.cell? ⟨gb519,1,none⟩ = some (.slice (some ad526) l0_1.length c0_1):=(blk_cell BK519.out 1).trans rfl;have hfz33_0:=blk_frozen BK519.out 0;have hfz33_1:=blk_frozen BK519.out 1;have hcz34_0:w32.cell? ⟨gb527,0,none⟩ = some (.int .i64 ((rd_T74 l0_1 x8_3).f0)):=(blk_cell BK527.out 0).trans rfl;have hcz34_1:w32.cell? ⟨gb527,1,none⟩ = some (.int .i64 ((rd_T74 l0_1 x8_3).f1)):=(blk_cell BK527.out 1).trans rfl;have hcz34_2:w32.cell? ⟨gb527,2,none⟩ = some (.float .f64 ((rd_T74 l0_1 x8_3).f2)):=(blk_cell BK527.out 2).trans rfl;have hcz34_3:w32.cell? ⟨gb527,3,none⟩ = some (.bool ((rd_T74 l0_1 x8_3).f3)):=(blk_cell BK527.out 3).trans rfl;have hfz34_0:=blk_frozen BK527.out 0;have hfz34_1:=blk_frozen BK527.out 1;have hfz34_2:=blk_frozen BK527.out 2;have hfz34_3:=blk_frozen BK527.out 3) | (go_at_call 38;(with_reducible refine (beaconref08_place.calls k3 _ _ l0_0 _ _ l0_1 ((rd_T74 l0_1 x8_3).f1) t529 _ ?side1 ?side2 ?side3 ?side4 A25.out).mono ?_);(case side1 => repeat (first | exact (Kd.C_below HR0_0.out HB.out) | (with_reducible refine Kd.C_alloc ?_ _) | (with_reducible refine Kd.C_drewN ?_ _) | (with_reducible refine Kd.C_drew ?_)));(case side2 => exact HC0_0.out);(case side3 => repeat (first | exact (Kd.C_below HR0_1.out HB.out) | (with_reducible refine Kd.C_alloc ?_ _) | (with_reducible refine Kd.C_drewN ?_ _) | (with_reducible refine Kd.C_drew ?_)));(case side4 => exact HC0_1.out);rintro e w35 ⟨rfl,hb⟩;have n0_:=Aside0.mk (Kd.R_below (by (with_reducible repeat (first | apply Kd.R_alloc | apply Kd.R_drewN | apply Kd.R_drew));exact HO_5.out) hb);have n1_:=Aside0.mk (blk_below (g:=gb519) (o:=.cells #[.slice A0_0 l0_0.length c0_0,.slice (some ad526) l0_1.length c0_1] 25 (0,0)) (by (with_reducible repeat (first | refine blk_drewN ?_ _ | refine blk_drew ?_ | refine blk_alloc ?_ _));exact BK519.out) hb);have n2_:=Aside0.mk (blk_below (g:=gb527) (o:=.cells #[.int .i64 ((rd_T74 l0_1 x8_3).f0),.int .i64 ((rd_T74 l0_1 x8_3).f1),.float .f64 ((rd_T74 l0_1 x8_3).f2),.bool ((rd_T74 l0_1 x8_3).f3)] 74 (0,0)) (by (with_reducible repeat (first | refine blk_drewN ?_ _ | refine blk_drew ?_ | refine blk_alloc ?_ _));exact BK527.out) hb);have n3_:=Aside0.mk (below_step (by repeat (first | (with_reducible first | exact HB.out | apply below_alloc | apply pw_below_drewN | apply below_drew1 | refine below_set ?_ GE519.out | refine below_set ?_ GE527.out) | exact HB.out)) hb);clear HO_5;clear BK519;clear BK527;clear HB;have HO_5:=n0_;have BK519:=n1_;have BK527:=n2_;have HB:=n3_;clear n0_ n1_ n2_ n3_;(try clear hb);(try clear hb2);(try clear hk);(try clear hi))))
       (try simp only [Act.put,List.setIfInBounds_toArray,List.set_cons_zero,List.set_cons_succ])
       go_cut [90] (fun v90 wc => ∃ (kq:Nat) (x90_25:Bool),v90 = .bool x90_25 ∧ Aside0 (beaconref08_Components.j3 kq x5_3 x7_3 x8_3 t528 t529 x90_25 l0_0 l0_1 = some (r1,r2)) ∧ Aside0 (kq ≤ k3) ∧ Aside0 (Kd.R (Kd.int .i64) 3 wc w.heap.size (fun _ => True) (.slice Ao20 x5_3.length co20) x5_3) ∧ Aside0 (wc.heap[gb519]? = some (.cells #[(.slice A0_0 l0_0.length c0_0),(.slice (some ad526) l0_1.length c0_1)] 25 (0,0))) ∧ Aside0 (wc.heap[gb527]? = some (.cells #[.int .i64 ((rd_T74 l0_1 x8_3).f0),.int .i64 ((rd_T74 l0_1 x8_3).f1),.float .f64 ((rd_T74 l0_1 x8_3).f2),.bool ((rd_T74 l0_1 x8_3).f3)] 74 (0,0))) ∧ Aside0 (Below w.heap.size w wc))
       case first =>
        have H:=HC26.out
        clear HC26
        obtain ⟨bq36,hbq36⟩:∃ b_:Bool,b_ = ((rd_T74 l0_1 x8_3).f3):=⟨_,rfl⟩
        replace H:(if bq36 = true then (if 0 ≤ t528 then (if t528 < (l0_0.length:Int) then (if (rd_T40 l0_0 t528).f1 = true then (if 0 ≤ t529 then (if t529 < (l0_0.length:Int) then (if (rd_T40 l0_0 t529).f1 = true then (if t528 < (x5_3.length:Int) then (if t529 < (x5_3.length:Int) then (beaconref08_Components.j3 k3 x5_3 x7_3 x8_3 t528 t529 ((rd x5_3 t528) != (rd x5_3 t529)) l0_0 l0_1) else (none)) else (none)) else (beaconref08_Components.j3 k3 x5_3 x7_3 x8_3 t528 t529 false l0_0 l0_1)) else (none)) else (none)) else (beaconref08_Components.j3 k3 x5_3 x7_3 x8_3 t528 t529 false l0_0 l0_1)) else (none)) else (none)) else (beaconref08_Components.j3 k3 x5_3 x7_3 x8_3 t528 t529 false l0_0 l0_1)) = some (r1,r2):=by rw [← hbq36] at H;exact H
        have Nbq36:=Aside0.mk hbq36
        clear hbq36
        (try rw [← Nbq36.out])
        by_cases c37:bq36 = true
        rotate_left
        ·replace c37:=Bool.eq_false_iff.mpr c37
         subst c37
         have H1:(beaconref08_Components.j3 k3 x5_3 x7_3 x8_3 t528 t529 false l0_0 l0_1) = some (r1,r2):=by rw [if_neg (show ¬ (false = true) by decide)] at H;exact H
         clear H
         have H:=H1
         clear H1
         have H':=Aside0.mk H
         clear H
         have hnb57:=NB527_519.out
         have hnc57:=NB519_527.out
         have hcz58_0:w35.cell? ⟨gb527,0,none⟩ = some (.int .i64 ((rd_T74 l0_1 x8_3).f0)):=(blk_cell BK527.out 0).trans (by first | rfl | ((try rw [← Nbq36.out]);rfl))
         have hcz58_1:w35.cell? ⟨gb527,1,none⟩ = some (.int .i64 ((rd_T74 l0_1 x8_3).f1)):=(blk_cell BK527.out 1).trans (by first | rfl | ((try rw [← Nbq36.out]);rfl))
         have hcz58_2:w35.cell? ⟨gb527,2,none⟩ = some (.float .f64 ((rd_T74 l0_1 x8_3).f2)):=(blk_cell BK527.out 2).trans (by first | rfl | ((try rw [← Nbq36.out]);rfl))
         have hcz58_3:w35.cell? ⟨gb527,3,none⟩ = some (.bool false):=(blk_cell BK527.out 3).trans (by first | rfl | ((try rw [← Nbq36.out]);rfl))
         have hfz58_0:=blk_frozen BK527.out 0
         have hfz58_1:=blk_frozen BK527.out 1
         have hfz58_2:=blk_frozen BK527.out 2
         have hfz58_3:=blk_frozen BK527.out 3
         go_wp2
         repeat (go_quiet (fail);try go_wp2)
         go_meet
         case rel => (try rw [← Nbq36.out]);exact ⟨_,(false),(by first | rfl | (simp;done) | (simp [*];done)),H',⟨by have:=HK1.out;have:=HK2.out;have:=HK3.out;first | omega | exact Nat.le_refl _⟩,⟨by (try simp only [hl5_2]);(try simp only [hl5_3]);(with_reducible repeat (first | apply Kd.R_alloc | apply Kd.R_drewN | apply Kd.R_drew));exact HO_5.out⟩,⟨by (try simp only [hl5_2]);(try simp only [hl5_3]);(with_reducible repeat (first | refine blk_drewN ?_ _ | refine blk_drew ?_ | refine blk_alloc ?_ _));first | exact BK519.out | ((try rw [← Nbq36.out]);exact BK519.out) | (have hb_:=BK519.out;(try rw [← Nbq36.out] at hb_);exact hb_)⟩,⟨by (try simp only [hl5_2]);(try simp only [hl5_3]);(with_reducible repeat (first | refine blk_drewN ?_ _ | refine blk_drew ?_ | refine blk_alloc ?_ _));first | exact BK527.out | ((try rw [← Nbq36.out]);exact BK527.out) | (have hb_:=BK527.out;(try rw [← Nbq36.out] at hb_);exact hb_)⟩,⟨by repeat (first | (with_reducible first | exact HB.out | apply below_alloc | apply pw_below_drewN | apply below_drew1 | refine below_set ?_ GE519.out | refine below_set ?_ GE527.out) | exact HB.out)⟩⟩
        subst c37
        have H1:(if 0 ≤ t528 then (if t528 < (l0_0.length:Int) then (if (rd_T40 l0_0 t528).f1 = true then (if 0 ≤ t529 then (if t529 < (l0_0.length:Int) then (if (rd_T40 l0_0 t529).f1 = true then (if t528 < (x5_3.length:Int) then (if t529 < (x5_3.length:Int) then (beaconref08_Components.j3 k3 x5_3 x7_3 x8_3 t528 t529 ((rd x5_3 t528) != (rd x5_3 t529)) l0_0 l0_1) else (none)) else (none)) else (beaconref08_Components.j3 k3 x5_3 x7_3 x8_3 t528 t529 false l0_0 l0_1)) else (none)) else (none)) else (beaconref08_Components.j3 k3 x5_3 x7_3 x8_3 t528 t529 false l0_0 l0_1)) else (none)) else (none)) = some (r1,r2):=by rw [if_pos rfl] at H;exact H
        clear H
        have H:=H1
        clear H1
        by_cases c38:0 ≤ t528
        rotate_left
        ·rw [if_neg c38] at H
         exact absurd H (by simp)
        rw [if_pos c38] at H
        have c38b0:decide (0 ≤ t528) = true:=decide_eq_true c38
        clear c38
        by_cases c39:t528 < (l0_0.length:Int)
        rotate_left
        ·rw [if_neg c39] at H
         exact absurd H (by simp)
        rw [if_pos c39] at H
        have c39b0:decide (t528 < (l0_0.length:Int)) = true:=decide_eq_true c39
        clear c39
        obtain ⟨bq40,hbq40⟩:∃ b_:Bool,b_ = ((rd_T40 l0_0 t528).f1):=⟨_,rfl⟩
        replace H:(if bq40 = true then (if 0 ≤ t529 then (if t529 < (l0_0.length:Int) then (if (rd_T40 l0_0 t529).f1 = true then (if t528 < (x5_3.length:Int) then (if t529 < (x5_3.length:Int) then (beaconref08_Components.j3 k3 x5_3 x7_3 x8_3 t528 t529 ((rd x5_3 t528) != (rd x5_3 t529)) l0_0 l0_1) else (none)) else (none)) else (beaconref08_Components.j3 k3 x5_3 x7_3 x8_3 t528 t529 false l0_0 l0_1)) else (none)) else (none)) else (beaconref08_Components.j3 k3 x5_3 x7_3 x8_3 t528 t529 false l0_0 l0_1)) = some (r1,r2):=by rw [← hbq40] at H;exact H
        have Nbq40:=Aside0.mk hbq40
        clear hbq40
        by_cases c41:bq40 = true
        rotate_left
        ·replace c41:=Bool.eq_false_iff.mpr c41
         subst c41
         have H1:(beaconref08_Components.j3 k3 x5_3 x7_3 x8_3 t528 t529 false l0_0 l0_1) = some (r1,r2):=by rw [if_neg (show ¬ (false = true) by decide)] at H;exact H
         clear H
         have H:=H1
         clear H1
         have H':=Aside0.mk H
         clear H
         have hnb54:=NB527_519.out
         have hnc54:=NB519_527.out
         have hcz55_0:w35.cell? ⟨gb527,0,none⟩ = some (.int .i64 ((rd_T74 l0_1 x8_3).f0)):=(blk_cell BK527.out 0).trans (by first | rfl | ((try rw [← Nbq36.out]);(try rw [← Nbq40.out]);rfl))
         have hcz55_1:w35.cell? ⟨gb527,1,none⟩ = some (.int .i64 ((rd_T74 l0_1 x8_3).f1)):=(blk_cell BK527.out 1).trans (by first | rfl | ((try rw [← Nbq36.out]);(try rw [← Nbq40.out]);rfl))
         have hcz55_2:w35.cell? ⟨gb527,2,none⟩ = some (.float .f64 ((rd_T74 l0_1 x8_3).f2)):=(blk_cell BK527.out 2).trans (by first | rfl | ((try rw [← Nbq36.out]);(try rw [← Nbq40.out]);rfl))
         have hcz55_3:w35.cell? ⟨gb527,3,none⟩ = some (.bool true):=(blk_cell BK527.out 3).trans (by first | rfl | ((try rw [← Nbq36.out]);(try rw [← Nbq40.out]);rfl))
         have hfz55_0:=blk_frozen BK527.out 0
         have hfz55_1:=blk_frozen BK527.out 1
         have hfz55_2:=blk_frozen BK527.out 2
         have hfz55_3:=blk_frozen BK527.out 3
         have hcz56_0:w35.cell? ⟨gb519,0,none⟩ = some (.slice A0_0 l0_0.length c0_0):=(blk_cell BK519.out 0).trans (by first | rfl | ((try rw [← Nbq36.out]);(try rw [← Nbq40.out]);rfl))
         have hcz56_1:w35.cell? ⟨gb519,1,none⟩ = some (.slice (some ad526) l0_1.length c0_1):=(blk_cell BK519.out 1).trans (by first | rfl | ((try rw [← Nbq36.out]);(try rw [← Nbq40.out]);rfl))
         have hfz56_0:=blk_frozen BK519.out 0
         have hfz56_1:=blk_frozen BK519.out 1
         have p530:0 ≤ (t528:Int):=of_decide_eq_true (by first | (with_reducible assumption) | assumption)
         have q530:t528 < (l0_0.length:Int):=of_decide_eq_true (by first | (with_reducible assumption) | assumption)
         obtain ⟨ad530,e530,hx530_0,hx530_1,hx530_2⟩:=at_T40 HR0_0.out t528 p530 q530
         (try rw [← Nbq36.out] at hx530_1)
         (try rw [← Nbq40.out] at hx530_1)
         (try rw [← Nbq36.out] at hx530_2)
         (try rw [← Nbq40.out] at hx530_2)
         cases e530
         replace hx530_0:=(HB.out.cell (World.block_lt_of_cell? w _ hx530_0)).trans hx530_0
         replace hx530_1:=(HB.out.cell (World.block_lt_of_cell? w _ hx530_1)).trans hx530_1
         replace hx530_2:=(HB.out.cell (World.block_lt_of_cell? w _ hx530_2)).trans hx530_2
         replace p530:=eq_true p530
         replace q530:=eq_true q530
         go_wp2
         repeat (go_quiet (fail);try go_wp2)
         go_meet
         case rel => (try rw [← Nbq36.out]);(try rw [← Nbq40.out]);exact ⟨_,(false),(by first | rfl | (simp;done) | (simp [*];done)),H',⟨by have:=HK1.out;have:=HK2.out;have:=HK3.out;first | omega | exact Nat.le_refl _⟩,⟨by (try simp only [hl5_2]);(try simp only [hl5_3]);(with_reducible repeat (first | apply Kd.R_alloc | apply Kd.R_drewN | apply Kd.R_drew));exact HO_5.out⟩,⟨by (try simp only [hl5_2]);(try simp only [hl5_3]);(with_reducible repeat (first | refine blk_drewN ?_ _ | refine blk_drew ?_ | refine blk_alloc ?_ _));first | exact BK519.out | ((try rw [← Nbq36.out]);(try rw [← Nbq40.out]);exact BK519.out) | (have hb_:=BK519.out;(try rw [← Nbq36.out] at hb_);(try rw [← Nbq40.out] at hb_);exact hb_)⟩,⟨by (try simp only [hl5_2]);(try simp only [hl5_3]);(with_reducible repeat (first | refine blk_drewN ?_ _ | refine blk_drew ?_ | refine blk_alloc ?_ _));first | exact BK527.out | ((try rw [← Nbq36.out]);(try rw [← Nbq40.out]);exact BK527.out) | (have hb_:=BK527.out;(try rw [← Nbq36.out] at hb_);(try rw [← Nbq40.out] at hb_);exact hb_)⟩,⟨by repeat (first | (with_reducible first | exact HB.out | apply below_alloc | apply pw_below_drewN | apply below_drew1 | refine below_set ?_ GE519.out | refine below_set ?_ GE527.out) | exact HB.out)⟩⟩
        subst c41
        have H1:(if 0 ≤ t529 then (if t529 < (l0_0.length:Int) then (if (rd_T40 l0_0 t529).f1 = true then (if t528 < (x5_3.length:Int) then (if t529 < (x5_3.length:Int) then (beaconref08_Components.j3 k3 x5_3 x7_3 x8_3 t528 t529 ((rd x5_3 t528) != (rd x5_3 t529)) l0_0 l0_1) else (none)) else (none)) else (beaconref08_Components.j3 k3 x5_3 x7_3 x8_3 t528 t529 false l0_0 l0_1)) else (none)) else (none)) = some (r1,r2):=by rw [if_pos rfl] at H;exact H
        clear H
        have H:=H1
        clear H1
        by_cases c42:0 ≤ t529
        rotate_left
        ·rw [if_neg c42] at H
         exact absurd H (by simp)
        rw [if_pos c42] at H
        have c42b0:decide (0 ≤ t529) = true:=decide_eq_true c42
        clear c42
        by_cases c43:t529 < (l0_0.length:Int)
        rotate_left
        ·rw [if_neg c43] at H
         exact absurd H (by simp)
        rw [if_pos c43] at H
        have c43b0:decide (t529 < (l0_0.length:Int)) = true:=decide_eq_true c43
        clear c43
        obtain ⟨bq44,hbq44⟩:∃ b_:Bool,b_ = ((rd_T40 l0_0 t529).f1):=⟨_,rfl⟩
        replace H:(if bq44 = true then (if t528 < (x5_3.length:Int) then (if t529 < (x5_3.length:Int) then (beaconref08_Components.j3 k3 x5_3 x7_3 x8_3 t528 t529 ((rd x5_3 t528) != (rd x5_3 t529)) l0_0 l0_1) else (none)) else (none)) else (beaconref08_Components.j3 k3 x5_3 x7_3 x8_3 t528 t529 false l0_0 l0_1)) = some (r1,r2):=by rw [← hbq44] at H;exact H
        have Nbq44:=Aside0.mk hbq44
        clear hbq44
        by_cases c45:bq44 = true
        ·subst c45
         have H1:(if t528 < (x5_3.length:Int) then (if t529 < (x5_3.length:Int) then (beaconref08_Components.j3 k3 x5_3 x7_3 x8_3 t528 t529 ((rd x5_3 t528) != (rd x5_3 t529)) l0_0 l0_1) else (none)) else (none)) = some (r1,r2):=by rw [if_pos rfl] at H;exact H
         clear H
         have H:=H1
         clear H1
         by_cases c46:t528 < (x5_3.length:Int)
         rotate_left
         ·rw [if_neg c46] at H
          exact absurd H (by simp)
         rw [if_pos c46] at H
         have c46b0:decide (t528 < (x5_3.length:Int)) = true:=decide_eq_true c46
         clear c46
         by_cases c47:t529 < (x5_3.length:Int)
         rotate_left
         ·rw [if_neg c47] at H
          exact absurd H (by simp)
         rw [if_pos c47] at H
         have c47b0:decide (t529 < (x5_3.length:Int)) = true:=decide_eq_true c47
         clear c47
         have H':=Aside0.mk H
         clear H
         have hnb48:=NB527_519.out
         have hnc48:=NB519_527.out
         have hcz49_0:w35.cell? ⟨gb527,0,none⟩ = some (.int .i64 ((rd_T74 l0_1 x8_3).f0)):=(blk_cell BK527.out 0).trans (by first | rfl | ((try rw [← Nbq36.out]);(try rw [← Nbq40.out]);(try rw [← Nbq44.out]);rfl))
         have hcz49_1:w35.cell? ⟨gb527,1,none⟩ = some (.int .i64 ((rd_T74 l0_1 x8_3).f1)):=(blk_cell BK527.out 1).trans (by first | rfl | ((try rw [← Nbq36.out]);(try rw [← Nbq40.out]);(try rw [← Nbq44.out]);rfl))
         have hcz49_2:w35.cell? ⟨gb527,2,none⟩ = some (.float .f64 ((rd_T74 l0_1 x8_3).f2)):=(blk_cell BK527.out 2).trans (by first | rfl | ((try rw [← Nbq36.out]);(try rw [← Nbq40.out]);(try rw [← Nbq44.out]);rfl))
         have hcz49_3:w35.cell? ⟨gb527,3,none⟩ = some (.bool true):=(blk_cell BK527.out 3).trans (by first | rfl | ((try rw [← Nbq36.out]);(try rw [← Nbq40.out]);(try rw [← Nbq44.out]);rfl))
         have hfz49_0:=blk_frozen BK527.out 0
         have hfz49_1:=blk_frozen BK527.out 1
         have hfz49_2:=blk_frozen BK527.out 2
         have hfz49_3:=blk_frozen BK527.out 3
         have hcz50_0:w35.cell? ⟨gb519,0,none⟩ = some (.slice A0_0 l0_0.length c0_0):=(blk_cell BK519.out 0).trans (by first | rfl | ((try rw [← Nbq36.out]);(try rw [← Nbq40.out]);(try rw [← Nbq44.out]);rfl))
         have hcz50_1:w35.cell? ⟨gb519,1,none⟩ = some (.slice (some ad526) l0_1.length c0_1):=(blk_cell BK519.out 1).trans (by first | rfl | ((try rw [← Nbq36.out]);(try rw [← Nbq40.out]);(try rw [← Nbq44.out]);rfl))
         have hfz50_0:=blk_frozen BK519.out 0
         have hfz50_1:=blk_frozen BK519.out 1
         have p530:0 ≤ (t528:Int):=of_decide_eq_true (by first | (with_reducible assumption) | assumption)
         have q530:t528 < (l0_0.length:Int):=of_decide_eq_true (by first | (with_reducible assumption) | assumption)
         obtain ⟨ad530,e530,hx530_0,hx530_1,hx530_2⟩:=at_T40 HR0_0.out t528 p530 q530
         (try rw [← Nbq36.out] at hx530_1)
         (try rw [← Nbq40.out] at hx530_1)
         (try rw [← Nbq44.out] at hx530_1)
         (try rw [← Nbq36.out] at hx530_2)
         (try rw [← Nbq40.out] at hx530_2)
         (try rw [← Nbq44.out] at hx530_2)
         cases e530
         replace hx530_0:=(HB.out.cell (World.block_lt_of_cell? w _ hx530_0)).trans hx530_0
         replace hx530_1:=(HB.out.cell (World.block_lt_of_cell? w _ hx530_1)).trans hx530_1
         replace hx530_2:=(HB.out.cell (World.block_lt_of_cell? w _ hx530_2)).trans hx530_2
         replace p530:=eq_true p530
         replace q530:=eq_true q530
         have p531:0 ≤ (t529:Int):=of_decide_eq_true (by first | (with_reducible assumption) | assumption)
         have q531:t529 < (l0_0.length:Int):=of_decide_eq_true (by first | (with_reducible assumption) | assumption)
         obtain ⟨ad531,e531,hx531_0,hx531_1,hx531_2⟩:=at_T40 HR0_0.out t529 p531 q531
         (try rw [← Nbq36.out] at hx531_1)
         (try rw [← Nbq40.out] at hx531_1)
         (try rw [← Nbq44.out] at hx531_1)
         (try rw [← Nbq36.out] at hx531_2)
         (try rw [← Nbq40.out] at hx531_2)
         (try rw [← Nbq44.out] at hx531_2)
         obtain rfl:ad530 = ad531:=(by injection e531)
         replace hx531_0:=(HB.out.cell (World.block_lt_of_cell? w _ hx531_0)).trans hx531_0
         replace hx531_1:=(HB.out.cell (World.block_lt_of_cell? w _ hx531_1)).trans hx531_1
         replace hx531_2:=(HB.out.cell (World.block_lt_of_cell? w _ hx531_2)).trans hx531_2
         replace p531:=eq_true p531
         replace q531:=eq_true q531
         have p532:0 ≤ (t528:Int):=of_decide_eq_true (by first | (with_reducible assumption) | assumption)
         have q532:t528 < (x5_3.length:Int):=of_decide_eq_true (by first | (with_reducible assumption) | assumption)
         obtain ⟨ad532,e532,hx532_0⟩:=Kd.at_int (Kd.R_reads' HO_5.out).2.2 t528 p532 q532
         cases e532
         replace p532:=eq_true p532
         replace q532:=eq_true q532
         have p533:0 ≤ (t529:Int):=of_decide_eq_true (by first | (with_reducible assumption) | assumption)
         have q533:t529 < (x5_3.length:Int):=of_decide_eq_true (by first | (with_reducible assumption) | assumption)
         obtain ⟨ad533,e533,hx533_0⟩:=Kd.at_int (Kd.R_reads' HO_5.out).2.2 t529 p533 q533
         obtain rfl:ad532 = ad533:=(by injection e533)
         replace p533:=eq_true p533
         replace q533:=eq_true q533
         go_wp2
         repeat (go_quiet (fail);try go_wp2)
         go_meet
         case rel => (try rw [← Nbq36.out]);(try rw [← Nbq40.out]);(try rw [← Nbq44.out]);exact ⟨_,(((rd x5_3 t528) != (rd x5_3 t529))),(by first | rfl | (simp;done) | (simp [*];done)),H',⟨by have:=HK1.out;have:=HK2.out;have:=HK3.out;first | omega | exact Nat.le_refl _⟩,⟨by (try simp only [hl5_2]);(try simp only [hl5_3]);(with_reducible repeat (first | apply Kd.R_alloc | apply Kd.R_drewN | apply Kd.R_drew));exact HO_5.out⟩,⟨by (try simp only [hl5_2]);(try simp only [hl5_3]);(with_reducible repeat (first | refine blk_drewN ?_ _ | refine blk_drew ?_ | refine blk_alloc ?_ _));first | exact BK519.out | ((try rw [← Nbq36.out]);(try rw [← Nbq40.out]);(try rw [← Nbq44.out]);exact BK519.out) | (have hb_:=BK519.out;(try rw [← Nbq36.out] at hb_);(try rw [← Nbq40.out] at hb_);(try rw [← Nbq44.out] at hb_);exact hb_)⟩,⟨by (try simp only [hl5_2]);(try simp only [hl5_3]);(with_reducible repeat (first | refine blk_drewN ?_ _ | refine blk_drew ?_ | refine blk_alloc ?_ _));first | exact BK527.out | ((try rw [← Nbq36.out]);(try rw [← Nbq40.out]);(try rw [← Nbq44.out]);exact BK527.out) | (have hb_:=BK527.out;(try rw [← Nbq36.out] at hb_);(try rw [← Nbq40.out] at hb_);(try rw [← Nbq44.out] at hb_);exact hb_)⟩,⟨by repeat (first | (with_reducible first | exact HB.out | apply below_alloc | apply pw_below_drewN | apply below_drew1 | refine below_set ?_ GE519.out | refine below_set ?_ GE527.out) | exact HB.out)⟩⟩
        replace c45:=Bool.eq_false_iff.mpr c45
        subst c45
        have H1:(beaconref08_Components.j3 k3 x5_3 x7_3 x8_3 t528 t529 false l0_0 l0_1) = some (r1,r2):=by rw [if_neg (show ¬ (false = true) by decide)] at H;exact H
        clear H
        have H:=H1
        clear H1
        have H':=Aside0.mk H
        clear H
        have hnb51:=NB527_519.out
        have hnc51:=NB519_527.out
        have hcz52_0:w35.cell? ⟨gb527,0,none⟩ = some (.int .i64 ((rd_T74 l0_1 x8_3).f0)):=(blk_cell BK527.out 0).trans (by first | rfl | ((try rw [← Nbq36.out]);(try rw [← Nbq40.out]);(try rw [← Nbq44.out]);rfl))
        have hcz52_1:w35.cell? ⟨gb527,1,none⟩ = some (.int .i64 ((rd_T74 l0_1 x8_3).f1)):=(blk_cell BK527.out 1).trans (by first | rfl | ((try rw [← Nbq36.out]);(try rw [← Nbq40.out]);(try rw [← Nbq44.out]);rfl))
        have hcz52_2:w35.cell? ⟨gb527,2,none⟩ = some (.float .f64 ((rd_T74 l0_1 x8_3).f2)):=(blk_cell BK527.out 2).trans (by first | rfl | ((try rw [← Nbq36.out]);(try rw [← Nbq40.out]);(try rw [← Nbq44.out]);rfl))
        have hcz52_3:w35.cell? ⟨gb527,3,none⟩ = some (.bool true):=(blk_cell BK527.out 3).trans (by first | rfl | ((try rw [← Nbq36.out]);(try rw [← Nbq40.out]);(try rw [← Nbq44.out]);rfl))
        have hfz52_0:=blk_frozen BK527.out 0
        have hfz52_1:=blk_frozen BK527.out 1
        have hfz52_2:=blk_frozen BK527.out 2
        have hfz52_3:=blk_frozen BK527.out 3
        have hcz53_0:w35.cell? ⟨gb519,0,none⟩ = some (.slice A0_0 l0_0.length c0_0):=(blk_cell BK519.out 0).trans (by first | rfl | ((try rw [← Nbq36.out]);(try rw [← Nbq40.out]);(try rw [← Nbq44.out]);rfl))
        have hcz53_1:w35.cell? ⟨gb519,1,none⟩ = some (.slice (some ad526) l0_1.length c0_1):=(blk_cell BK519.out 1).trans (by first | rfl | ((try rw [← Nbq36.out]);(try rw [← Nbq40.out]);(try rw [← Nbq44.out]);rfl))
        have hfz53_0:=blk_frozen BK519.out 0
        have hfz53_1:=blk_frozen BK519.out 1
        have p530:0 ≤ (t528:Int):=of_decide_eq_true (by first | (with_reducible assumption) | assumption)
        have q530:t528 < (l0_0.length:Int):=of_decide_eq_true (by first | (with_reducible assumption) | assumption)
        obtain ⟨ad530,e530,hx530_0,hx530_1,hx530_2⟩:=at_T40 HR0_0.out t528 p530 q530
        (try rw [← Nbq36.out] at hx530_1)
        (try rw [← Nbq40.out] at hx530_1)
        (try rw [← Nbq44.out] at hx530_1)
        (try rw [← Nbq36.out] at hx530_2)
        (try rw [← Nbq40.out] at hx530_2)
        (try rw [← Nbq44.out] at hx530_2)
        cases e530
        replace hx530_0:=(HB.out.cell (World.block_lt_of_cell? w _ hx530_0)).trans hx530_0
        replace hx530_1:=(HB.out.cell (World.block_lt_of_cell? w _ hx530_1)).trans hx530_1
        replace hx530_2:=(HB.out.cell (World.block_lt_of_cell? w _ hx530_2)).trans hx530_2
        replace p530:=eq_true p530
        replace q530:=eq_true q530
        have p531:0 ≤ (t529:Int):=of_decide_eq_true (by first | (with_reducible assumption) | assumption)
        have q531:t529 < (l0_0.length:Int):=of_decide_eq_true (by first | (with_reducible assumption) | assumption)
        obtain ⟨ad531,e531,hx531_0,hx531_1,hx531_2⟩:=at_T40 HR0_0.out t529 p531 q531
        (try rw [← Nbq36.out] at hx531_1)
        (try rw [← Nbq40.out] at hx531_1)
        (try rw [← Nbq44.out] at hx531_1)
        (try rw [← Nbq36.out] at hx531_2)
        (try rw [← Nbq40.out] at hx531_2)
        (try rw [← Nbq44.out] at hx531_2)
        obtain rfl:ad530 = ad531:=(by injection e531)
        replace hx531_0:=(HB.out.cell (World.block_lt_of_cell? w _ hx531_0)).trans hx531_0
        replace hx531_1:=(HB.out.cell (World.block_lt_of_cell? w _ hx531_1)).trans hx531_1
        replace hx531_2:=(HB.out.cell (World.block_lt_of_cell? w _ hx531_2)).trans hx531_2
        replace p531:=eq_true p531
        replace q531:=eq_true q531
        go_wp2
        repeat (go_quiet (fail);try go_wp2)
        go_meet
        case rel => (try rw [← Nbq36.out]);(try rw [← Nbq40.out]);(try rw [← Nbq44.out]);exact ⟨_,(false),(by first | rfl | (simp;done) | (simp [*];done)),H',⟨by have:=HK1.out;have:=HK2.out;have:=HK3.out;first | omega | exact Nat.le_refl _⟩,⟨by (try simp only [hl5_2]);(try simp only [hl5_3]);(with_reducible repeat (first | apply Kd.R_alloc | apply Kd.R_drewN | apply Kd.R_drew));exact HO_5.out⟩,⟨by (try simp only [hl5_2]);(try simp only [hl5_3]);(with_reducible repeat (first | refine blk_drewN ?_ _ | refine blk_drew ?_ | refine blk_alloc ?_ _));first | exact BK519.out | ((try rw [← Nbq36.out]);(try rw [← Nbq40.out]);(try rw [← Nbq44.out]);exact BK519.out) | (have hb_:=BK519.out;(try rw [← Nbq36.out] at hb_);(try rw [← Nbq40.out] at hb_);(try rw [← Nbq44.out] at hb_);exact hb_)⟩,⟨by (try simp only [hl5_2]);(try simp only [hl5_3]);(with_reducible repeat (first | refine blk_drewN ?_ _ | refine blk_drew ?_ | refine blk_alloc ?_ _));first | exact BK527.out | ((try rw [← Nbq36.out]);(try rw [← Nbq40.out]);(try rw [← Nbq44.out]);exact BK527.out) | (have hb_:=BK527.out;(try rw [← Nbq36.out] at hb_);(try rw [← Nbq40.out] at hb_);(try rw [← Nbq44.out] at hb_);exact hb_)⟩,⟨by repeat (first | (with_reducible first | exact HB.out | apply below_alloc | apply pw_below_drewN | apply below_drew1 | refine below_set ?_ GE519.out | refine below_set ?_ GE527.out) | exact HB.out)⟩⟩
       case rest =>
        clear HC26
        obtain ⟨kq,x90_25,rfl,HA,HJ25,HO_5,BK519,BK527,HB⟩:=hcut
        cases kq with
        | zero => exact absurd HA.out (by simp [beaconref08_Components.j3])
        | succ kj25 =>
         have H:=HA.out
         clear HA
         simp only [beaconref08_Components.j3] at H
         by_cases c59:x90_25 = true
         rotate_left
         ·replace c59:=Bool.eq_false_iff.mpr c59
          subst c59
          have H1:(beaconref08_Components.l2 kj25 x5_3 x7_3 (wrap64 (x8_3 + 1)) l0_0 l0_1) = some (r1,r2):=by rw [if_neg (show ¬ (false = true) by decide)] at H;exact H
          clear H
          have H:=H1
          clear H1
          have H':=Aside0.mk H
          clear H
          go_wp2
          repeat (go_quiet (fail);try go_wp2)
          (try simp only [← hl5_3])
          go_roundg kj25
          case measure => have:=HK1.out;have:=HK2.out;have:=HK3.out;have:=HJ25.out;omega
          case rel => exact ⟨(x5_3),(x7_3),(wrap64 (x8_3 + 1)),(by first | rfl | (simp;done) | (simp [*];done)),(by first | rfl | (simp;done) | (simp [*];done)),H',⟨by have:=HK1.out;have:=HK2.out;have:=HK3.out;have:=HJ25.out;omega⟩,⟨by (try simp only [hl5_2]);(try simp only [hl5_3]);(with_reducible repeat (first | apply Kd.R_alloc | apply Kd.R_drewN | apply Kd.R_drew));exact HO_5.out⟩,⟨by (try simp only [hl5_2]);(try simp only [hl5_3]);(with_reducible repeat (first | refine blk_drewN ?_ _ | refine blk_drew ?_ | refine blk_alloc ?_ _));exact BK519.out⟩,⟨by repeat (first | (with_reducible first | exact HB.out | apply below_alloc | apply pw_below_drewN | apply below_drew1 | refine below_set ?_ GE519.out | refine below_set ?_ GE527.out) | exact HB.out)⟩⟩
         subst c59
         have H1:(if 0 ≤ t528 then (if t528 < (x5_3.length:Int) then (if 0 ≤ t529 then (if t529 < (x5_3.length:Int) then (if (rd x5_3 t529) < (rd x5_3 t528) then (beaconref08_Components.l2 kj25 ((x5_3.set (t528:Int).toNat (rd x5_3 t529)).set (t529:Int).toNat (rd x5_3 t529)) true (wrap64 (x8_3 + 1)) l0_0 l0_1) else (beaconref08_Components.l2 kj25 ((x5_3.set (t528:Int).toNat (rd x5_3 t528)).set (t529:Int).toNat (rd x5_3 t528)) true (wrap64 (x8_3 + 1)) l0_0 l0_1)) else (none)) else (none)) else (none)) else (none)) = some (r1,r2):=by rw [if_pos rfl] at H;exact H
         clear H
         have H:=H1
         clear H1
         by_cases c60:0 ≤ t528
         rotate_left
         ·rw [if_neg c60] at H
          exact absurd H (by simp)
         rw [if_pos c60] at H
         have c60b0:decide (0 ≤ t528) = true:=decide_eq_true c60
         clear c60
         by_cases c61:t528 < (x5_3.length:Int)
         rotate_left
         ·rw [if_neg c61] at H
          exact absurd H (by simp)
         rw [if_pos c61] at H
         have c61b0:decide (t528 < (x5_3.length:Int)) = true:=decide_eq_true c61
         clear c61
         by_cases c62:0 ≤ t529
         rotate_left
         ·rw [if_neg c62] at H
          exact absurd H (by simp)
         rw [if_pos c62] at H
         have c62b0:decide (0 ≤ t529) = true:=decide_eq_true c62
         clear c62
         by_cases c63:t529 < (x5_3.length:Int)
         rotate_left
         ·rw [if_neg c63] at H
          exact absurd H (by simp)
         rw [if_pos c63] at H
         have c63b0:decide (t529 < (x5_3.length:Int)) = true:=decide_eq_true c63
         clear c63
         by_cases c64:(rd x5_3 t529) < (rd x5_3 t528)
         ·rw [if_pos c64] at H
          have c64b0:decide ((rd x5_3 t529) < (rd x5_3 t528)) = true:=decide_eq_true c64
          clear c64
          obtain ⟨y537,hy537⟩:∃ y_:List Int,y_ = (x5_3.set (t528:Int).toNat (rd x5_3 t529)):=⟨_,rfl⟩
          replace H:(beaconref08_Components.l2 kj25 (y537.set (t529:Int).toNat (rd x5_3 t529)) true (wrap64 (x8_3 + 1)) l0_0 l0_1) = some (r1,r2):=by first | (rw [hy537];with_reducible exact H) | (have H2_:=(Option.bind_some _ _).symm.trans H;rw [hy537];with_reducible exact H2_) | (have H2_:=(Option.bind_some _ _).symm.trans H;with_reducible exact H2_) | with_reducible exact H | (rw [hy537];exact H) | exact H
          have Ny537:=Aside0.mk hy537
          clear hy537
          obtain ⟨y538,hy538⟩:∃ y_:List Int,y_ = (y537.set (t529:Int).toNat (rd x5_3 t529)):=⟨_,rfl⟩
          replace H:(beaconref08_Components.l2 kj25 y538 true (wrap64 (x8_3 + 1)) l0_0 l0_1) = some (r1,r2):=by first | (rw [hy538];with_reducible exact H) | (have H2_:=(Option.bind_some _ _).symm.trans H;rw [hy538];with_reducible exact H2_) | (have H2_:=(Option.bind_some _ _).symm.trans H;with_reducible exact H2_) | with_reducible exact H | (rw [hy538];exact H) | exact H
          have Ny538:=Aside0.mk hy538
          clear hy538
          have H':=Aside0.mk H
          clear H
          have p534:0 ≤ (t528:Int):=of_decide_eq_true (by first | (with_reducible assumption) | assumption)
          have q534:t528 < (x5_3.length:Int):=of_decide_eq_true (by first | (with_reducible assumption) | assumption)
          obtain ⟨ad534,e534,hx534_0⟩:=Kd.at_int (Kd.R_reads' HO_5.out).2.2 t528 p534 q534
          cases e534
          replace p534:=eq_true p534
          replace q534:=eq_true q534
          have p535:0 ≤ (t529:Int):=of_decide_eq_true (by first | (with_reducible assumption) | assumption)
          have q535:t529 < (x5_3.length:Int):=of_decide_eq_true (by first | (with_reducible assumption) | assumption)
          obtain ⟨ad535,e535,hx535_0⟩:=Kd.at_int (Kd.R_reads' HO_5.out).2.2 t529 p535 q535
          obtain rfl:ad534 = ad535:=(by injection e535)
          replace p535:=eq_true p535
          replace q535:=eq_true q535
          have p536:0 ≤ (t529:Int):=of_decide_eq_true (by first | (with_reducible assumption) | assumption)
          have q536:t529 < (x5_3.length:Int):=of_decide_eq_true (by first | (with_reducible assumption) | assumption)
          obtain ⟨ad536,e536,hx536_0⟩:=Kd.at_int (Kd.R_reads' HO_5.out).2.2 t529 p536 q536
          obtain rfl:ad534 = ad536:=(by injection e536)
          replace p536:=eq_true p536
          replace q536:=eq_true q536
          have p65:0 ≤ (t528:Int):=of_decide_eq_true (by first | (with_reducible assumption) | assumption)
          have q65:(t528:Int) < ((x5_3.length:Int):Int):=of_decide_eq_true (by first | (with_reducible assumption) | assumption)
          obtain ⟨go65,co65,eo65,gb65,gl65,cl65,HG65⟩:=Kd.R_form HO_5.out (by omega)
          (first | cases eo65 | (injection eo65 with ea_ en_ ec_;(first | subst ea_ | (injection ea_ with ea_;subst ea_));subst ec_;clear en_))
          have GB65:=Aside0.mk gb65
          have GG65:=Aside0.mk HG65
          clear gb65 gl65 HG65
          (first | simp only [add_plain] at hx534_0 | skip)
          (first | simp only [add_plain] at hx535_0 | skip)
          (first | simp only [add_plain] at hx536_0 | skip)
          obtain ⟨hx65_0,hf65_0⟩:=Kd.R_celln 0 HO_5.out (t528:Int) p65 q65
          replace p65:=eq_true p65
          replace q65:=eq_true q65
          have HP67:=Kd.R_putg HO_5.out (t528:Int) (rd x5_3 t529)
          go_wp2_with (first | ((with_reducible refine gate_store (t:=3) (p:=108) rfl ?_);(try (rw [drewN_self wc];generalize hq_:World.drewN wc _ = wc;have n0_:=Aside0.mk (Kd.R_at hq_ HO_5.out);have n1_:=Aside0.mk (blk_at hq_ BK519.out);have n2_:=Aside0.mk (blk_at hq_ BK527.out);have n3_:=Aside0.mk (below_at hq_ HB.out);clear hq_ HO_5 BK519 BK527 HB;have HO_5:=n0_;have BK519:=n1_;have BK527:=n2_;have HB:=n3_;clear n0_ n1_ n2_ n3_;(try (have HP67:=Kd.R_putg HO_5.out (t528:Int) (rd x5_3 t529)))));refine store_event (t:=3) (p:=108) (v:=?vo_w68) (w1:=(wc.setCell ⟨go65,(t528:Int).toNat,none⟩ (.int .i64 (rd x5_3 t529)))) ?hg ?ho ?hn ?hr ?_;(case ho => rfl);(case hg => rfl);(case hn => rfl);(case hr => first | (go_simp;done) | (go_simp;rfl));intro w68 hw;have hg:wc.grownBy w68 (some go65):=(by rw [hw];exact HP67.2);have hp_:Kd.R (Kd.int .i64) 3 w68 w.heap.size (fun _ => True) (.slice (some ⟨go65,0,none⟩) x5_3.length co20) y537:=(by rw [hw,Ny537.out];exact HP67.1);clear HP67;have n0_:=Aside0.mk (hp_);have n1_:=Aside0.mk (blk_grown (g:=gb519) (o:=.cells #[.slice A0_0 l0_0.length c0_0,.slice (some ad526) l0_1.length c0_1] 25 (0,0)) (by (with_reducible repeat (first | refine blk_drewN ?_ _ | refine blk_drew ?_ | refine blk_alloc ?_ _));exact BK519.out) hg (Kd.R_ne HO_5.out BK519.out (by decide)));have n2_:=Aside0.mk (blk_grown (g:=gb527) (o:=.cells #[.int .i64 ((rd_T74 l0_1 x8_3).f0),.int .i64 ((rd_T74 l0_1 x8_3).f1),.float .f64 ((rd_T74 l0_1 x8_3).f2),.bool ((rd_T74 l0_1 x8_3).f3)] 74 (0,0)) (by (with_reducible repeat (first | refine blk_drewN ?_ _ | refine blk_drew ?_ | refine blk_alloc ?_ _));exact BK527.out) hg (Kd.R_ne HO_5.out BK527.out (by decide)));have n3_:=Aside0.mk ((by rw [hw];exact below_set (HB.out) GB65.out:Below w.heap.size w w68));clear HO_5;clear BK519;clear BK527;clear HB;have HO_5:=n0_;have BK519:=n1_;have BK527:=n2_;have HB:=n3_;clear n0_ n1_ n2_ n3_;clear hg hw hp_;have p66:0 ≤ (t529:Int):=of_decide_eq_true (by first | (with_reducible assumption) | assumption);have q66:(t529:Int) < ((x5_3.length:Int):Int):=of_decide_eq_true (by first | (with_reducible assumption) | assumption);obtain ⟨hx66_0,hf66_0⟩:=Kd.R_celln 0 HO_5.out (t529:Int) p66 q66;replace p66:=eq_true p66;replace q66:=eq_true q66;obtain ⟨hy69_,hz69_⟩:=Kd.R_celln 0 HO_5.out (t529:Int) (of_decide_eq_true (by first | (with_reducible assumption) | assumption)) (of_decide_eq_true (by first | (with_reducible assumption) | assumption));have HP69:=Kd.R_putg HO_5.out (t529:Int) (rd x5_3 t529)) | ((with_reducible refine gate_store (t:=3) (p:=112) rfl ?_);(try (rw [drewN_self w68];generalize hq_:World.drewN w68 _ = w68;have n0_:=Aside0.mk (Kd.R_at hq_ HO_5.out);have n1_:=Aside0.mk (blk_at hq_ BK519.out);have n2_:=Aside0.mk (blk_at hq_ BK527.out);have n3_:=Aside0.mk (below_at hq_ HB.out);clear hq_ HO_5 BK519 BK527 HB;have HO_5:=n0_;have BK519:=n1_;have BK527:=n2_;have HB:=n3_;clear n0_ n1_ n2_ n3_;(try (obtain ⟨hy69_,hz69_⟩:=Kd.R_celln 0 HO_5.out (t529:Int) (of_decide_eq_true (by first | (with_reducible assumption) | assumption)) (of_decide_eq_true (by first | (with_reducible assumption) | assumption))));(try (have HP69:=Kd.R_putg HO_5.out (t529:Int) (rd x5_3 t529)))));refine store_event (t:=3) (p:=112) (v:=?vo_w70) (w1:=(w68.setCell ⟨go65,(t529:Int).toNat,none⟩ (.int .i64 (rd x5_3 t529)))) ?hg ?ho ?hn ?hr ?_;(case ho => rfl);(case hg => rfl);(case hn => rfl);(case hr => first | (go_simp;done) | (go_simp;rfl));intro w70 hw;have hg:w68.grownBy w70 (some go65):=(by rw [hw];exact HP69.2);have hp_:Kd.R (Kd.int .i64) 3 w70 w.heap.size (fun _ => True) (.slice (some ⟨go65,0,none⟩) x5_3.length co20) y538:=(by rw [hw,Ny538.out];exact HP69.1);clear HP69;have n0_:=Aside0.mk (hp_);have n1_:=Aside0.mk (blk_grown (g:=gb519) (o:=.cells #[.slice A0_0 l0_0.length c0_0,.slice (some ad526) l0_1.length c0_1] 25 (0,0)) (by (with_reducible repeat (first | refine blk_drewN ?_ _ | refine blk_drew ?_ | refine blk_alloc ?_ _));exact BK519.out) hg (Kd.R_ne HO_5.out BK519.out (by decide)));have n2_:=Aside0.mk (blk_grown (g:=gb527) (o:=.cells #[.int .i64 ((rd_T74 l0_1 x8_3).f0),.int .i64 ((rd_T74 l0_1 x8_3).f1),.float .f64 ((rd_T74 l0_1 x8_3).f2),.bool ((rd_T74 l0_1 x8_3).f3)] 74 (0,0)) (by (with_reducible repeat (first | refine blk_drewN ?_ _ | refine blk_drew ?_ | refine blk_alloc ?_ _));exact BK527.out) hg (Kd.R_ne HO_5.out BK527.out (by decide)));have n3_:=Aside0.mk ((by rw [hw];exact below_set (HB.out) GB65.out:Below w.heap.size w w70));clear HO_5;clear BK519;clear BK527;clear HB;have HO_5:=n0_;have BK519:=n1_;have BK527:=n2_;have HB:=n3_;clear n0_ n1_ n2_ n3_;clear hg hw hp_))
          (try simp only [← hl5_3])
          go_roundg kj25
          case measure => have:=HK1.out;have:=HK2.out;have:=HK3.out;have:=HJ25.out;omega
          case rel => exact ⟨(y538),(true),(wrap64 (x8_3 + 1)),(by first | rfl | (simp;done) | (simp [*];done)),(by first | rfl | (simp;done) | (simp [*];done)),H',⟨by have:=HK1.out;have:=HK2.out;have:=HK3.out;have:=HJ25.out;omega⟩,⟨by (try simp only [hl5_2]);(try simp only [hl5_3]);(with_reducible repeat (first | apply Kd.R_alloc | apply Kd.R_drewN | apply Kd.R_drew));exact HO_5.out⟩,⟨by (try simp only [hl5_2]);(try simp only [hl5_3]);(with_reducible repeat (first | refine blk_drewN ?_ _ | refine blk_drew ?_ | refine blk_alloc ?_ _));exact BK519.out⟩,⟨by repeat (first | (with_reducible first | exact HB.out | apply below_alloc | apply pw_below_drewN | apply below_drew1 | refine below_set ?_ GE519.out | refine below_set ?_ GE527.out) | exact HB.out)⟩⟩
         rw [if_neg c64] at H
         have c64b0:decide ((rd x5_3 t529) < (rd x5_3 t528)) = false:=decide_eq_false c64
         clear c64
         obtain ⟨y539,hy539⟩:∃ y_:List Int,y_ = (x5_3.set (t528:Int).toNat (rd x5_3 t528)):=⟨_,rfl⟩
         replace H:(beaconref08_Components.l2 kj25 (y539.set (t529:Int).toNat (rd x5_3 t528)) true (wrap64 (x8_3 + 1)) l0_0 l0_1) = some (r1,r2):=by first | (rw [hy539];with_reducible exact H) | (have H2_:=(Option.bind_some _ _).symm.trans H;rw [hy539];with_reducible exact H2_) | (have H2_:=(Option.bind_some _ _).symm.trans H;with_reducible exact H2_) | with_reducible exact H | (rw [hy539];exact H) | exact H
         have Ny539:=Aside0.mk hy539
         clear hy539
         obtain ⟨y540,hy540⟩:∃ y_:List Int,y_ = (y539.set (t529:Int).toNat (rd x5_3 t528)):=⟨_,rfl⟩
         replace H:(beaconref08_Components.l2 kj25 y540 true (wrap64 (x8_3 + 1)) l0_0 l0_1) = some (r1,r2):=by first | (rw [hy540];with_reducible exact H) | (have H2_:=(Option.bind_some _ _).symm.trans H;rw [hy540];with_reducible exact H2_) | (have H2_:=(Option.bind_some _ _).symm.trans H;with_reducible exact H2_) | with_reducible exact H | (rw [hy540];exact H) | exact H
         have Ny540:=Aside0.mk hy540
         clear hy540
         have H':=Aside0.mk H
         clear H
         have p534:0 ≤ (t528:Int):=of_decide_eq_true (by first | (with_reducible assumption) | assumption)
         have q534:t528 < (x5_3.length:Int):=of_decide_eq_true (by first | (with_reducible assumption) | assumption)
         obtain ⟨ad534,e534,hx534_0⟩:=Kd.at_int (Kd.R_reads' HO_5.out).2.2 t528 p534 q534
         cases e534
         replace p534:=eq_true p534
         replace q534:=eq_true q534
         have p535:0 ≤ (t529:Int):=of_decide_eq_true (by first | (with_reducible assumption) | assumption)
         have q535:t529 < (x5_3.length:Int):=of_decide_eq_true (by first | (with_reducible assumption) | assumption)
         obtain ⟨ad535,e535,hx535_0⟩:=Kd.at_int (Kd.R_reads' HO_5.out).2.2 t529 p535 q535
         obtain rfl:ad534 = ad535:=(by injection e535)
         replace p535:=eq_true p535
         replace q535:=eq_true q535
         have p71:0 ≤ (t528:Int):=of_decide_eq_true (by first | (with_reducible assumption) | assumption)
         have q71:(t528:Int) < ((x5_3.length:Int):Int):=of_decide_eq_true (by first | (with_reducible assumption) | assumption)
         obtain ⟨go71,co71,eo71,gb71,gl71,cl71,HG71⟩:=Kd.R_form HO_5.out (by omega)
         (first | cases eo71 | (injection eo71 with ea_ en_ ec_;(first | subst ea_ | (injection ea_ with ea_;subst ea_));subst ec_;clear en_))
         have GB71:=Aside0.mk gb71
         have GG71:=Aside0.mk HG71
         clear gb71 gl71 HG71
         (first | simp only [add_plain] at hx534_0 | skip)
         (first | simp only [add_plain] at hx535_0 | skip)
         obtain ⟨hx71_0,hf71_0⟩:=Kd.R_celln 0 HO_5.out (t528:Int) p71 q71
         replace p71:=eq_true p71
         replace q71:=eq_true q71
         have HP73:=Kd.R_putg HO_5.out (t528:Int) (rd x5_3 t528)
         go_wp2_with (first | ((with_reducible refine gate_store (t:=3) (p:=108) rfl ?_);(try (rw [drewN_self wc];generalize hq_:World.drewN wc _ = wc;have n0_:=Aside0.mk (Kd.R_at hq_ HO_5.out);have n1_:=Aside0.mk (blk_at hq_ BK519.out);have n2_:=Aside0.mk (blk_at hq_ BK527.out);have n3_:=Aside0.mk (below_at hq_ HB.out);clear hq_ HO_5 BK519 BK527 HB;have HO_5:=n0_;have BK519:=n1_;have BK527:=n2_;have HB:=n3_;clear n0_ n1_ n2_ n3_;(try (have HP73:=Kd.R_putg HO_5.out (t528:Int) (rd x5_3 t528)))));refine store_event (t:=3) (p:=108) (v:=?vo_w74) (w1:=(wc.setCell ⟨go71,(t528:Int).toNat,none⟩ (.int .i64 (rd x5_3 t528)))) ?hg ?ho ?hn ?hr ?_;(case ho => rfl);(case hg => rfl);(case hn => rfl);(case hr => first | (go_simp;done) | (go_simp;rfl));intro w74 hw;have hg:wc.grownBy w74 (some go71):=(by rw [hw];exact HP73.2);have hp_:Kd.R (Kd.int .i64) 3 w74 w.heap.size (fun _ => True) (.slice (some ⟨go71,0,none⟩) x5_3.length co20) y539:=(by rw [hw,Ny539.out];exact HP73.1);clear HP73;have n0_:=Aside0.mk (hp_);have n1_:=Aside0.mk (blk_grown (g:=gb519) (o:=.cells #[.slice A0_0 l0_0.length c0_0,.slice (some ad526) l0_1.length c0_1] 25 (0,0)) (by (with_reducible repeat (first | refine blk_drewN ?_ _ | refine blk_drew ?_ | refine blk_alloc ?_ _));exact BK519.out) hg (Kd.R_ne HO_5.out BK519.out (by decide)));have n2_:=Aside0.mk (blk_grown (g:=gb527) (o:=.cells #[.int .i64 ((rd_T74 l0_1 x8_3).f0),.int .i64 ((rd_T74 l0_1 x8_3).f1),.float .f64 ((rd_T74 l0_1 x8_3).f2),.bool ((rd_T74 l0_1 x8_3).f3)] 74 (0,0)) (by (with_reducible repeat (first | refine blk_drewN ?_ _ | refine blk_drew ?_ | refine blk_alloc ?_ _));exact BK527.out) hg (Kd.R_ne HO_5.out BK527.out (by decide)));have n3_:=Aside0.mk ((by rw [hw];exact below_set (HB.out) GB71.out:Below w.heap.size w w74));clear HO_5;clear BK519;clear BK527;clear HB;have HO_5:=n0_;have BK519:=n1_;have BK527:=n2_;have HB:=n3_;clear n0_ n1_ n2_ n3_;clear hg hw hp_;have p72:0 ≤ (t529:Int):=of_decide_eq_true (by first | (with_reducible assumption) | assumption);have q72:(t529:Int) < ((x5_3.length:Int):Int):=of_decide_eq_true (by first | (with_reducible assumption) | assumption);obtain ⟨hx72_0,hf72_0⟩:=Kd.R_celln 0 HO_5.out (t529:Int) p72 q72;replace p72:=eq_true p72;replace q72:=eq_true q72;obtain ⟨hy75_,hz75_⟩:=Kd.R_celln 0 HO_5.out (t529:Int) (of_decide_eq_true (by first | (with_reducible assumption) | assumption)) (of_decide_eq_true (by first | (with_reducible assumption) | assumption));have HP75:=Kd.R_putg HO_5.out (t529:Int) (rd x5_3 t528)) | ((with_reducible refine gate_store (t:=3) (p:=112) rfl ?_);(try (rw [drewN_self w74];generalize hq_:World.drewN w74 _ = w74;have n0_:=Aside0.mk (Kd.R_at hq_ HO_5.out);have n1_:=Aside0.mk (blk_at hq_ BK519.out);have n2_:=Aside0.mk (blk_at hq_ BK527.out);have n3_:=Aside0.mk (below_at hq_ HB.out);clear hq_ HO_5 BK519 BK527 HB;have HO_5:=n0_;have BK519:=n1_;have BK527:=n2_;have HB:=n3_;clear n0_ n1_ n2_ n3_;(try (obtain ⟨hy75_,hz75_⟩:=Kd.R_celln 0 HO_5.out (t529:Int) (of_decide_eq_true (by first | (with_reducible assumption) | assumption)) (of_decide_eq_true (by first | (with_reducible assumption) | assumption))));(try (have HP75:=Kd.R_putg HO_5.out (t529:Int) (rd x5_3 t528)))));refine store_event (t:=3) (p:=112) (v:=?vo_w76) (w1:=(w74.setCell ⟨go71,(t529:Int).toNat,none⟩ (.int .i64 (rd x5_3 t528)))) ?hg ?ho ?hn ?hr ?_;(case ho => rfl);(case hg => rfl);(case hn => rfl);(case hr => first | (go_simp;done) | (go_simp;rfl));intro w76 hw;have hg:w74.grownBy w76 (some go71):=(by rw [hw];exact HP75.2);have hp_:Kd.R (Kd.int .i64) 3 w76 w.heap.size (fun _ => True) (.slice (some ⟨go71,0,none⟩) x5_3.length co20) y540:=(by rw [hw,Ny540.out];exact HP75.1);clear HP75;have n0_:=Aside0.mk (hp_);have n1_:=Aside0.mk (blk_grown (g:=gb519) (o:=.cells #[.slice A0_0 l0_0.length c0_0,.slice (some ad526) l0_1.length c0_1] 25 (0,0)) (by (with_reducible repeat (first | refine blk_drewN ?_ _ | refine blk_drew ?_ | refine blk_alloc ?_ _));exact BK519.out) hg (Kd.R_ne HO_5.out BK519.out (by decide)));have n2_:=Aside0.mk (blk_grown (g:=gb527) (o:=.cells #[.int .i64 ((rd_T74 l0_1 x8_3).f0),.int .i64 ((rd_T74 l0_1 x8_3).f1),.float .f64 ((rd_T74 l0_1 x8_3).f2),.bool ((rd_T74 l0_1 x8_3).f3)] 74 (0,0)) (by (with_reducible repeat (first | refine blk_drewN ?_ _ | refine blk_drew ?_ | refine blk_alloc ?_ _));exact BK527.out) hg (Kd.R_ne HO_5.out BK527.out (by decide)));have n3_:=Aside0.mk ((by rw [hw];exact below_set (HB.out) GB71.out:Below w.heap.size w w76));clear HO_5;clear BK519;clear BK527;clear HB;have HO_5:=n0_;have BK519:=n1_;have BK527:=n2_;have HB:=n3_;clear n0_ n1_ n2_ n3_;clear hg hw hp_))
         (try simp only [← hl5_3])
         go_roundg kj25
         case measure => have:=HK1.out;have:=HK2.out;have:=HK3.out;have:=HJ25.out;omega
         case rel => exact ⟨(y540),(true),(wrap64 (x8_3 + 1)),(by first | rfl | (simp;done) | (simp [*];done)),(by first | rfl | (simp;done) | (simp [*];done)),H',⟨by have:=HK1.out;have:=HK2.out;have:=HK3.out;have:=HJ25.out;omega⟩,⟨by (try simp only [hl5_2]);(try simp only [hl5_3]);(with_reducible repeat (first | apply Kd.R_alloc | apply Kd.R_drewN | apply Kd.R_drew));exact HO_5.out⟩,⟨by (try simp only [hl5_2]);(try simp only [hl5_3]);(with_reducible repeat (first | refine blk_drewN ?_ _ | refine blk_drew ?_ | refine blk_alloc ?_ _));exact BK519.out⟩,⟨by repeat (first | (with_reducible first | exact HB.out | apply below_alloc | apply pw_below_drewN | apply below_drew1 | refine below_set ?_ GE519.out | refine below_set ?_ GE527.out) | exact HB.out)⟩⟩
end Go.Proofs.Ytmdkcecbklgihaa.PA
