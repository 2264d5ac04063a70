/- Printed by a program of this session (wip/tools/patch_print.py and pr.py, over the kit's print): each Go function as a plain Lean function, and that the Go code comes to just its answers. Conditions: those that each theorem names. -/
import Derived.Test.YtmdkcecbklgihaaCPAx0
import Derived.Test.YtmdkcecbklgihaaCPAx1
import Derived.Test.YtmdkcecbklgihaaCPAx4
import Derived.Test.YtmdkcecbklgihaaLiPAx9
import Derived.Test.YtmdkcecbklgihaaLiHz
namespace Go.Proofs.Ytmdkcecbklgihaa.PA
open Go.RowKit Go.Proofs.YtmdkcecbklgihaaW.PrintWords Go.Proofs.YtmdkcecbklgihaaW.PrintLast Go.Proofs.YtmdkcecbklgihaaW.PrintMore
attribute [local go_sem] max2_int min2_int max_two min_two max_three min_three max_four min_four
set_option linter.unusedVariables false
set_option linter.unusedSimpArgs false
mutual
noncomputable def beaconlaw08_PathsLimits.j0:Nat → List Nat → List Nat → Bool → List (S40) → List (S74) → Nat → Nat → Option (Bool)
 | 0,_,_,_,_,_,_,_ => none
 | k + 1,x7,x9,x40,x313000,x313001,x314000,x314001 => if x40 = true then (if (x7.length:Int) = 0 then (some true) else (if (x9.length:Int) = 0 then (some true) else (if (FloatKind.f64.format.order x314000 x314001 == some .gt) = true then ((beaconlaw08_awake.f).bind fun t322 => (some t322)) else (some false)))) else (if (x7.length:Int) = (x9.length:Int) then ((beaconref07_Check.f k x313000 x313001).bind fun t323 => (beaconlaw08_PathsLimits.j1 k x7 x9 (t323 != 0) x314000 x314001)) else (beaconlaw08_PathsLimits.j1 k x7 x9 true x314000 x314001))
noncomputable def beaconlaw08_PathsLimits.j1:Nat → List Nat → List Nat → Bool → Nat → Nat → Option (Bool)
 | 0,_,_,_,_,_ => none
 | k + 1,x7,x9,x68,x314000,x314001 => if x68 = true then (some false) else (beaconlaw08_PathsLimits.l0 k x7 x9 0 x314000 x314001)
noncomputable def beaconlaw08_PathsLimits.l0:Nat → List Nat → List Nat → Int → Nat → Nat → Option (Bool)
 | 0,_,_,_,_,_ => none
 | k + 1,x7,x9,x11,x314000,x314001 => if x11 < (x7.length:Int) then (if 0 ≤ x11 then ((math_IsInf.f (rdOf (0:Nat) x7 x11) 1).bind fun t326 => (if t326 = true then (beaconlaw08_PathsLimits.j3 k x7 x9 x11 false x314000 x314001) else (if x11 < (x9.length:Int) then (beaconlaw08_PathsLimits.j3 k x7 x9 x11 (FloatKind.f64.format.order (rdOf (0:Nat) x7 x11) (rdOf (0:Nat) x9 x11) != some .eq) x314000 x314001) else (none)))) else (none)) else ((beaconlaw08_awake.f).bind fun t324 => (some t324))
noncomputable def beaconlaw08_PathsLimits.j3:Nat → List Nat → List Nat → Int → Bool → Nat → Nat → Option (Bool)
 | 0,_,_,_,_,_,_ => none
 | k + 1,x7,x9,x11,x91,x314000,x314001 => if x91 = true then (some false) else (if 0 ≤ x11 then (if x11 < (x7.length:Int) then ((math_IsInf.f (rdOf (0:Nat) x7 x11) 1).bind fun t330 => (if t330 = true then (if x11 < (x9.length:Int) then ((math_IsInf.f (rdOf (0:Nat) x9 x11) 1).bind fun t332 => (if t332 = true then (beaconlaw08_PathsLimits.j4 k x7 x9 x11 false x314000 x314001) else (beaconlaw08_PathsLimits.j4 k x7 x9 x11 (FloatKind.f64.format.order (rdOf (0:Nat) x9 x11) x314000 == some .lt) x314000 x314001))) else (none)) else (beaconlaw08_PathsLimits.j4 k x7 x9 x11 false x314000 x314001))) else (none)) else (none))
noncomputable def beaconlaw08_PathsLimits.j4:Nat → List Nat → List Nat → Int → Bool → Nat → Nat → Option (Bool)
 | 0,_,_,_,_,_,_ => none
 | k + 1,x7,x9,x11,x113,x314000,x314001 => if x113 = true then (some false) else (beaconlaw08_PathsLimits.l0 k x7 x9 (wrap64 (x11 + 1)) x314000 x314001)
end
noncomputable def beaconlaw08_PathsLimits.f (k:Nat) (l0_0:List (S40)) (l0_1:List (S74)) (a1_0:Nat) (a1_1:Nat) (a2:Int):Option (Bool):=(paths_Dists.f l0_0 l0_1 a1_0 a2).bind fun bt314 => ((paths_Dists.f l0_0 l0_1 a1_1 a2).bind fun bt318 => (if bt314.2 = 0 then (if bt318.2 = 0 then (beaconlaw08_PathsLimits.j0 k bt314.1 bt318.1 (FloatKind.f64.format.order a1_0 a1_1 == some .gt) l0_0 l0_1 a1_0 a1_1) else (beaconlaw08_PathsLimits.j0 k bt314.1 bt318.1 true l0_0 l0_1 a1_0 a1_1)) else (beaconlaw08_PathsLimits.j0 k bt314.1 bt318.1 true l0_0 l0_1 a1_0 a1_1)))
set_option maxHeartbeats 8000000 in
set_option maxRecDepth 100000 in
theorem beaconlaw08_PathsLimits.calls (k:Nat) (A0_0:Option Addr) (c0_0:Nat) (l0_0:List (S40)) (A0_1:Option Addr) (c0_1:Nat) (l0_1:List (S74)) (a1_0:Nat) (a1_1:Nat) (a2:Int) (r:Bool) (w:World) (hr0_0:Kd.C k40 w A0_0 l0_0.length l0_0) (hc0_0:l0_0.length ≤ c0_0) (hr0_1:Kd.C k74 w A0_1 l0_1.length l0_1) (hc0_1:l0_1.length ≤ c0_1) (h:beaconlaw08_PathsLimits.f k l0_0 l0_1 a1_0 a1_1 a2 = some r) :
  Calls Try.prog 6 #[.agg #[.slice A0_0 l0_0.length c0_0,.slice A0_1 l0_1.length c0_1],.agg #[.float .f64 a1_0,.float .f64 a1_1],.int .i64 a2] w fun e w' => e = .returned (.bool r) ∧ Below w.heap.size w w':=by
 have hu25:=Try.underlying25
 have hu41:=Try.underlying41
 have HR0_0:=Aside0.mk hr0_0
 have HC0_0:=Aside0.mk hc0_0
 clear hr0_0 hc0_0
 have HR0_1:=Aside0.mk hr0_1
 have HC0_1:=Aside0.mk hc0_1
 clear hr0_1 hc0_1
 have HB:=Aside0.mk (Below.refl w.heap.size w)
 have H:((paths_Dists.f l0_0 l0_1 a1_0 a2).bind fun bt314 => ((paths_Dists.f l0_0 l0_1 a1_1 a2).bind fun bt318 => (if bt314.2 = 0 then (if bt318.2 = 0 then (beaconlaw08_PathsLimits.j0 k bt314.1 bt318.1 (FloatKind.f64.format.order a1_0 a1_1 == some .gt) l0_0 l0_1 a1_0 a1_1) else (beaconlaw08_PathsLimits.j0 k bt314.1 bt318.1 true l0_0 l0_1 a1_0 a1_1)) else (beaconlaw08_PathsLimits.j0 k bt314.1 bt318.1 true l0_0 l0_1 a1_0 a1_1)))) = some r:=h
 clear h
 replace H:=Option.bind_eq_some_iff.mp H
 obtain ⟨⟨t314,t317⟩,A40,H⟩:=H
 replace H:((paths_Dists.f l0_0 l0_1 a1_1 a2).bind fun bt318 => (if t317 = 0 then (if bt318.2 = 0 then (beaconlaw08_PathsLimits.j0 k t314 bt318.1 (FloatKind.f64.format.order a1_0 a1_1 == some .gt) l0_0 l0_1 a1_0 a1_1) else (beaconlaw08_PathsLimits.j0 k t314 bt318.1 true l0_0 l0_1 a1_0 a1_1)) else (beaconlaw08_PathsLimits.j0 k t314 bt318.1 true l0_0 l0_1 a1_0 a1_1))) = some r:=H
 have A4:=Aside0.mk A40
 clear A40
 replace H:=Option.bind_eq_some_iff.mp H
 obtain ⟨⟨t318,t321⟩,A50,H⟩:=H
 replace H:(if t317 = 0 then (if t321 = 0 then (beaconlaw08_PathsLimits.j0 k t314 t318 (FloatKind.f64.format.order a1_0 a1_1 == some .gt) l0_0 l0_1 a1_0 a1_1) else (beaconlaw08_PathsLimits.j0 k t314 t318 true l0_0 l0_1 a1_0 a1_1)) else (beaconlaw08_PathsLimits.j0 k t314 t318 true l0_0 l0_1 a1_0 a1_1)) = some r:=H
 have A5:=Aside0.mk A50
 clear A50
 have HC6:=Aside0.mk H
 clear H
 go_enter Try.func6,Try.ntmps6
 go_upto_region 3 with (first | ((with_reducible refine gate_dst (N:=3) rfl ?_);(try (refine gate_guard (by rfl) ?_;dsimp only));refine box_event ?hg (N:=3) ?hd (cs:=#[.slice A0_0 l0_0.length c0_0,.slice A0_1 l0_1.length c0_1]) (t:=25) ?hr ?_;(case hd => rfl);(case hg => rfl);(case hr => first | (go_simp;done) | (go_simp;rfl));intro gb312 hg w7 hbox hb;have n0_:=Aside0.mk (below_step (by repeat (first | (with_reducible first | exact HB.out | apply below_alloc | apply pw_below_drewN | apply below_drew1) | exact HB.out)) hb);have n1_:=Aside0.mk (hbox);have n2_:=Aside0.mk ((by rw [hg];exact (below_size (by repeat (first | (with_reducible first | exact HB.out | apply below_alloc | apply pw_below_drewN | apply below_drew1) | exact HB.out))):w.heap.size ≤ gb312));have n3_:=Aside0.mk ((by rw [hg];exact (below_size (by repeat (first | (with_reducible first | exact HB.out | apply below_alloc | apply pw_below_drewN | apply below_drew1) | exact HB.out))):w.heap.size ≤ gb312));clear HB;have HB:=n0_;have BK312:=n1_;have GW312:=n2_;have GE312:=n3_;clear n0_ n1_ n2_ n3_;clear hb hbox hg) | ((with_reducible refine gate_dst (N:=4) rfl ?_);(try (refine gate_guard (by rfl) ?_;dsimp only));refine box_event ?hg (N:=4) ?hd (cs:=#[.float .f64 a1_0,.float .f64 a1_1]) (t:=41) ?hr ?_;(case hd => rfl);(case hg => rfl);(case hr => first | (go_simp;done) | (go_simp;rfl));intro gb313 hg w8 hbox hb;have n0_:=Aside0.mk (blk_below (g:=gb312) (o:=.cells #[.slice A0_0 l0_0.length c0_0,.slice A0_1 l0_1.length c0_1] 25 (0,0)) (by (with_reducible repeat (first | refine blk_drewN ?_ _ | refine blk_drew ?_ | refine blk_alloc ?_ _));exact BK312.out) hb);have n1_:=Aside0.mk (below_step (by repeat (first | (with_reducible first | exact HB.out | apply below_alloc | apply pw_below_drewN | apply below_drew1 | refine below_set ?_ GE312.out) | exact HB.out)) hb);have n2_:=Aside0.mk (hbox);have n3_:=Aside0.mk ((by rw [hg];exact (below_size (by repeat (first | (with_reducible first | exact HB.out | apply below_alloc | apply pw_below_drewN | apply below_drew1 | refine below_set ?_ GE312.out) | exact HB.out))):w.heap.size ≤ gb313));have n4_:=Aside0.mk ((by rw [hg];exact (below_size (by repeat (first | (with_reducible first | exact HB.out | apply below_alloc | apply pw_below_drewN | apply below_drew1 | refine below_set ?_ GE312.out) | exact HB.out))):w.heap.size ≤ gb313));have n5_:=Aside0.mk ((by rw [hg];exact Nat.ne_of_lt (blk_lt (g:=gb312) (o:=.cells #[.slice A0_0 l0_0.length c0_0,.slice A0_1 l0_1.length c0_1] 25 (0,0)) (by (with_reducible repeat (first | refine blk_drewN ?_ _ | refine blk_drew ?_ | refine blk_alloc ?_ _));exact BK312.out)):gb312 ≠ gb313));have n6_:=Aside0.mk ((by rw [hg];exact Nat.ne_of_gt (blk_lt (g:=gb312) (o:=.cells #[.slice A0_0 l0_0.length c0_0,.slice A0_1 l0_1.length c0_1] 25 (0,0)) (by (with_reducible repeat (first | refine blk_drewN ?_ _ | refine blk_drew ?_ | refine blk_alloc ?_ _));exact BK312.out)):gb313 ≠ gb312));clear BK312;clear HB;have BK312:=n0_;have HB:=n1_;have BK313:=n2_;have GW313:=n3_;have GE313:=n4_;have NB312_313:=n5_;have NB313_312:=n6_;clear n0_ n1_ n2_ n3_ n4_ n5_ n6_;clear hb hbox hg;have hnb9:=NB312_313.out;have hnc9:=NB313_312.out;have hcz10_0:w8.cell? ⟨gb312,0,none⟩ = some (.slice A0_0 l0_0.length c0_0):=(blk_cell BK312.out 0).trans rfl;have hcz10_1:w8.cell? ⟨gb312,1,none⟩ = some (.slice A0_1 l0_1.length c0_1):=(blk_cell BK312.out 1).trans rfl;have hfz10_0:=blk_frozen BK312.out 0;have hfz10_1:=blk_frozen BK312.out 1;have hcz11_0:w8.cell? ⟨gb313,0,none⟩ = some (.float .f64 a1_0):=(blk_cell BK313.out 0).trans rfl;have hcz11_1:w8.cell? ⟨gb313,1,none⟩ = some (.float .f64 a1_1):=(blk_cell BK313.out 1).trans rfl;have hfz11_0:=blk_frozen BK313.out 0;have hfz11_1:=blk_frozen BK313.out 1) | (go_at_call 15;(with_reducible refine (paths_Dists.calls _ _ l0_0 _ _ l0_1 a1_0 a2 t314 t317 _ ?side1 ?side2 ?side3 ?side4 A4.out).mono ?_);(case side1 => repeat (first | exact (Kd.C_below HR0_0.out HB.out) | (with_reducible refine Kd.C_alloc ?_ _) | (with_reducible refine Kd.C_drewN ?_ _) | (with_reducible refine Kd.C_drew ?_)));(case side2 => exact HC0_0.out);(case side3 => repeat (first | exact (Kd.C_below HR0_1.out HB.out) | (with_reducible refine Kd.C_alloc ?_ _) | (with_reducible refine Kd.C_drewN ?_ _) | (with_reducible refine Kd.C_drew ?_)));(case side4 => exact HC0_1.out);rintro e w12 ⟨v315,rfl,ho0,hb⟩;have n0_:=Aside0.mk (Kd.R_lower ho0 (below_size (by repeat (first | (with_reducible first | exact HB.out | apply below_alloc | apply pw_below_drewN | apply below_drew1 | refine below_set ?_ GE312.out | refine below_set ?_ GE313.out) | exact HB.out))));have n1_:=Aside0.mk (blk_below (g:=gb312) (o:=.cells #[.slice A0_0 l0_0.length c0_0,.slice A0_1 l0_1.length c0_1] 25 (0,0)) (by (with_reducible repeat (first | refine blk_drewN ?_ _ | refine blk_drew ?_ | refine blk_alloc ?_ _));exact BK312.out) hb);have n2_:=Aside0.mk (blk_below (g:=gb313) (o:=.cells #[.float .f64 a1_0,.float .f64 a1_1] 41 (0,0)) (by (with_reducible repeat (first | refine blk_drewN ?_ _ | refine blk_drew ?_ | refine blk_alloc ?_ _));exact BK313.out) hb);have n3_:=Aside0.mk (below_step (by repeat (first | (with_reducible first | exact HB.out | apply below_alloc | apply pw_below_drewN | apply below_drew1 | refine below_set ?_ GE312.out | refine below_set ?_ GE313.out) | exact HB.out)) hb);clear BK312;clear BK313;clear HB;have HO316:=n0_;have BK312:=n1_;have BK313:=n2_;have HB:=n3_;clear n0_ n1_ n2_ n3_;(try clear hb);(try clear hb2);(try clear hk);(try clear hi);(try clear ho0);have hcz13_0:w12.cell? ⟨gb312,0,none⟩ = some (.slice A0_0 l0_0.length c0_0):=(blk_cell BK312.out 0).trans rfl;have hcz13_1:w12.cell? ⟨gb312,1,none⟩ = some (.slice A0_1 l0_1.length c0_1):=(blk_cell BK312.out 1).trans rfl;have hfz13_0:=blk_frozen BK312.out 0;have hfz13_1:=blk_frozen BK312.out 1;have hcz14_0:w12.cell? ⟨gb313,0,none⟩ = some (.float .f64 a1_0):=(blk_cell BK313.out 0).trans rfl;have hcz14_1:w12.cell? ⟨gb313,1,none⟩ = some (.float .f64 a1_1):=(blk_cell BK313.out 1).trans rfl;have hfz14_0:=blk_frozen BK313.out 0;have hfz14_1:=blk_frozen BK313.out 1) | (go_at_call 15;(with_reducible refine (paths_Dists.calls _ _ l0_0 _ _ l0_1 a1_1 a2 t318 t321 _ ?side1 ?side2 ?side3 ?side4 A5.out).mono ?_);(case side1 => repeat (first | exact (Kd.C_below HR0_0.out HB.out) | (with_reducible refine Kd.C_alloc ?_ _) | (with_reducible refine Kd.C_drewN ?_ _) | (with_reducible refine Kd.C_drew ?_)));(case side2 => exact HC0_0.out);(case side3 => repeat (first | exact (Kd.C_below HR0_1.out HB.out) | (with_reducible refine Kd.C_alloc ?_ _) | (with_reducible refine Kd.C_drewN ?_ _) | (with_reducible refine Kd.C_drew ?_)));(case side4 => exact HC0_1.out);rintro e w15 ⟨v319,rfl,ho0,hb⟩;have n0_:=Aside0.mk (Kd.R_elder' (by (with_reducible repeat (first | apply Kd.R_alloc | apply Kd.R_drewN | apply Kd.R_drew));exact HO316.out) (Kd.R_base ho0) hb);have n1_:=Aside0.mk (Kd.R_lower (Kd.R_new' ho0 (Kd.R_lt (by (with_reducible repeat (first | apply Kd.R_alloc | apply Kd.R_drewN | apply Kd.R_drew));exact HO316.out))) (below_size (by repeat (first | (with_reducible first | exact HB.out | apply below_alloc | apply pw_below_drewN | apply below_drew1 | refine below_set ?_ GE312.out | refine below_set ?_ GE313.out) | exact HB.out))));have n2_:=Aside0.mk (blk_below (g:=gb312) (o:=.cells #[.slice A0_0 l0_0.length c0_0,.slice A0_1 l0_1.length c0_1] 25 (0,0)) (by (with_reducible repeat (first | refine blk_drewN ?_ _ | refine blk_drew ?_ | refine blk_alloc ?_ _));exact BK312.out) hb);have n3_:=Aside0.mk (blk_below (g:=gb313) (o:=.cells #[.float .f64 a1_0,.float .f64 a1_1] 41 (0,0)) (by (with_reducible repeat (first | refine blk_drewN ?_ _ | refine blk_drew ?_ | refine blk_alloc ?_ _));exact BK313.out) hb);have n4_:=Aside0.mk (below_step (by repeat (first | (with_reducible first | exact HB.out | apply below_alloc | apply pw_below_drewN | apply below_drew1 | refine below_set ?_ GE312.out | refine below_set ?_ GE313.out) | exact HB.out)) hb);clear HO316;clear BK312;clear BK313;clear HB;have HO316:=n0_;have HO320:=n1_;have BK312:=n2_;have BK313:=n3_;have HB:=n4_;clear n0_ n1_ n2_ n3_ n4_;(try clear hb);(try clear hb2);(try clear hk);(try clear hi);(try clear ho0)))
 repeat (go_quiet (first | ((with_reducible refine gate_dst (N:=3) rfl ?_);(try (refine gate_guard (by rfl) ?_;dsimp only));refine box_event ?hg (N:=3) ?hd (cs:=#[.slice A0_0 l0_0.length c0_0,.slice A0_1 l0_1.length c0_1]) (t:=25) ?hr ?_;(case hd => rfl);(case hg => rfl);(case hr => first | (go_simp;done) | (go_simp;rfl));intro gb312 hg w7 hbox hb;have n0_:=Aside0.mk (below_step (by repeat (first | (with_reducible first | exact HB.out | apply below_alloc | apply pw_below_drewN | apply below_drew1) | exact HB.out)) hb);have n1_:=Aside0.mk (hbox);have n2_:=Aside0.mk ((by rw [hg];exact (below_size (by repeat (first | (with_reducible first | exact HB.out | apply below_alloc | apply pw_below_drewN | apply below_drew1) | exact HB.out))):w.heap.size ≤ gb312));have n3_:=Aside0.mk ((by rw [hg];exact (below_size (by repeat (first | (with_reducible first | exact HB.out | apply below_alloc | apply pw_below_drewN | apply below_drew1) | exact HB.out))):w.heap.size ≤ gb312));clear HB;have HB:=n0_;have BK312:=n1_;have GW312:=n2_;have GE312:=n3_;clear n0_ n1_ n2_ n3_;clear hb hbox hg) | ((with_reducible refine gate_dst (N:=4) rfl ?_);(try (refine gate_guard (by rfl) ?_;dsimp only));refine box_event ?hg (N:=4) ?hd (cs:=#[.float .f64 a1_0,.float .f64 a1_1]) (t:=41) ?hr ?_;(case hd => rfl);(case hg => rfl);(case hr => first | (go_simp;done) | (go_simp;rfl));intro gb313 hg w8 hbox hb;have n0_:=Aside0.mk (blk_below (g:=gb312) (o:=.cells #[.slice A0_0 l0_0.length c0_0,.slice A0_1 l0_1.length c0_1] 25 (0,0)) (by (with_reducible repeat (first | refine blk_drewN ?_ _ | refine blk_drew ?_ | refine blk_alloc ?_ _));exact BK312.out) hb);have n1_:=Aside0.mk (below_step (by repeat (first | (with_reducible first | exact HB.out | apply below_alloc | apply pw_below_drewN | apply below_drew1 | refine below_set ?_ GE312.out) | exact HB.out)) hb);have n2_:=Aside0.mk (hbox);have n3_:=Aside0.mk ((by rw [hg];exact (below_size (by repeat (first | (with_reducible first | exact HB.out | apply below_alloc | apply pw_below_drewN | apply below_drew1 | refine below_set ?_ GE312.out) | exact HB.out))):w.heap.size ≤ gb313));have n4_:=Aside0.mk ((by rw [hg];exact (below_size (by repeat (first | (with_reducible first | exact HB.out | apply below_alloc | apply pw_below_drewN | apply below_drew1 | refine below_set ?_ GE312.out) | exact HB.out))):w.heap.size ≤ gb313));have n5_:=Aside0.mk ((by rw [hg];exact Nat.ne_of_lt (blk_lt (g:=gb312) (o:=.cells #[.slice A0_0 l0_0.length c0_0,.slice A0_1 l0_1.length c0_1] 25 (0,0)) (by (with_reducible repeat (first | refine blk_drewN ?_ _ | refine blk_drew ?_ | refine blk_alloc ?_ _));exact BK312.out)):gb312 ≠ gb313));have n6_:=Aside0.mk ((by rw [hg];exact Nat.ne_of_gt (blk_lt (g:=gb312) (o:=.cells #[.slice A0_0 l0_0.length c0_0,.slice A0_1 l0_1.length c0_1] 25 (0,0)) (by (with_reducible repeat (first | refine blk_drewN ?_ _ | refine blk_drew ?_ | refine blk_alloc ?_ _));exact BK312.out)):gb313 ≠ gb312));clear BK312;clear HB;have BK312:=n0_;have HB:=n1_;have BK313:=n2_;have GW313:=n3_;have GE313:=n4_;have NB312_313:=n5_;have NB313_312:=n6_;clear n0_ n1_ n2_ n3_ n4_ n5_ n6_;clear hb hbox hg;have hnb9:=NB312_313.out;have hnc9:=NB313_312.out;have hcz10_0:w8.cell? ⟨gb312,0,none⟩ = some (.slice A0_0 l0_0.length c0_0):=(blk_cell BK312.out 0).trans rfl;have hcz10_1:w8.cell? ⟨gb312,1,none⟩ = some (.slice A0_1 l0_1.length c0_1):=(blk_cell BK312.out 1).trans rfl;have hfz10_0:=blk_frozen BK312.out 0;have hfz10_1:=blk_frozen BK312.out 1;have hcz11_0:w8.cell? ⟨gb313,0,none⟩ = some (.float .f64 a1_0):=(blk_cell BK313.out 0).trans rfl;have hcz11_1:w8.cell? ⟨gb313,1,none⟩ = some (.float .f64 a1_1):=(blk_cell BK313.out 1).trans rfl;have hfz11_0:=blk_frozen BK313.out 0;have hfz11_1:=blk_frozen BK313.out 1) | (go_at_call 15;(with_reducible refine (paths_Dists.calls _ _ l0_0 _ _ l0_1 a1_0 a2 t314 t317 _ ?side1 ?side2 ?side3 ?side4 A4.out).mono ?_);(case side1 => repeat (first | exact (Kd.C_below HR0_0.out HB.out) | (with_reducible refine Kd.C_alloc ?_ _) | (with_reducible refine Kd.C_drewN ?_ _) | (with_reducible refine Kd.C_drew ?_)));(case side2 => exact HC0_0.out);(case side3 => repeat (first | exact (Kd.C_below HR0_1.out HB.out) | (with_reducible refine Kd.C_alloc ?_ _) | (with_reducible refine Kd.C_drewN ?_ _) | (with_reducible refine Kd.C_drew ?_)));(case side4 => exact HC0_1.out);rintro e w12 ⟨v315,rfl,ho0,hb⟩;have n0_:=Aside0.mk (Kd.R_lower ho0 (below_size (by repeat (first | (with_reducible first | exact HB.out | apply below_alloc | apply pw_below_drewN | apply below_drew1 | refine below_set ?_ GE312.out | refine below_set ?_ GE313.out) | exact HB.out))));have n1_:=Aside0.mk (blk_below (g:=gb312) (o:=.cells #[.slice A0_0 l0_0.length c0_0,.slice A0_1 l0_1.length c0_1] 25 (0,0)) (by (with_reducible repeat (first | refine blk_drewN ?_ _ | refine blk_drew ?_ | refine blk_alloc ?_ _));exact BK312.out) hb);have n2_:=Aside0.mk (blk_below (g:=gb313) (o:=.cells #[.float .f64 a1_0,.float .f64 a1_1] 41 (0,0)) (by (with_reducible repeat (first | refine blk_drewN ?_ _ | refine blk_drew ?_ | refine blk_alloc ?_ _));exact BK313.out) hb);have n3_:=Aside0.mk (below_step (by repeat (first | (with_reducible first | exact HB.out | apply below_alloc | apply pw_below_drewN | apply below_drew1 | refine below_set ?_ GE312.out | refine below_set ?_ GE313.out) | exact HB.out)) hb);clear BK312;clear BK313;clear HB;have HO316:=n0_;have BK312:=n1_;have BK313:=n2_;have HB:=n3_;clear n0_ n1_ n2_ n3_;(try clear hb);(try clear hb2);(try clear hk);(try clear hi);(try clear ho0);have hcz13_0:w12.cell? ⟨gb312,0,none⟩ = some (.slice A0_0 l0_0.length c0_0):=(blk_cell BK312.out 0).trans rfl;have hcz13_1:w12.cell? ⟨gb312,1,none⟩ = some (.slice A0_1 l0_1.length c0_1):=(blk_cell BK312.out 1).trans rfl;have hfz13_0:=blk_frozen BK312.out 0;have hfz13_1:=blk_frozen BK312.out 1;have hcz14_0:w12.cell? ⟨gb313,0,none⟩ = some (.float .f64 a1_0):=(blk_cell BK313.out 0).trans rfl;have hcz14_1:w12.cell? ⟨gb313,1,none⟩ = some (.float .f64 a1_1):=(blk_cell BK313.out 1).trans rfl;have hfz14_0:=blk_frozen BK313.out 0;have hfz14_1:=blk_frozen BK313.out 1) | (go_at_call 15;(with_reducible refine (paths_Dists.calls _ _ l0_0 _ _ l0_1 a1_1 a2 t318 t321 _ ?side1 ?side2 ?side3 ?side4 A5.out).mono ?_);(case side1 => repeat (first | exact (Kd.C_below HR0_0.out HB.out) | (with_reducible refine Kd.C_alloc ?_ _) | (with_reducible refine Kd.C_drewN ?_ _) | (with_reducible refine Kd.C_drew ?_)));(case side2 => exact HC0_0.out);(case side3 => repeat (first | exact (Kd.C_below HR0_1.out HB.out) | (with_reducible refine Kd.C_alloc ?_ _) | (with_reducible refine Kd.C_drewN ?_ _) | (with_reducible refine Kd.C_drew ?_)));(case side4 => exact HC0_1.out);rintro e w15 ⟨v319,rfl,ho0,hb⟩;have n0_:=Aside0.mk (Kd.R_elder' (by (with_reducible repeat (first | apply Kd.R_alloc | apply Kd.R_drewN | apply Kd.R_drew));exact HO316.out) (Kd.R_base ho0) hb);have n1_:=Aside0.mk (Kd.R_lower (Kd.R_new' ho0 (Kd.R_lt (by (with_reducible repeat (first | apply Kd.R_alloc | apply Kd.R_drewN | apply Kd.R_drew));exact HO316.out))) (below_size (by repeat (first | (with_reducible first | exact HB.out | apply below_alloc | apply pw_below_drewN | apply below_drew1 | refine below_set ?_ GE312.out | refine below_set ?_ GE313.out) | exact HB.out))));have n2_:=Aside0.mk (blk_below (g:=gb312) (o:=.cells #[.slice A0_0 l0_0.length c0_0,.slice A0_1 l0_1.length c0_1] 25 (0,0)) (by (with_reducible repeat (first | refine blk_drewN ?_ _ | refine blk_drew ?_ | refine blk_alloc ?_ _));exact BK312.out) hb);have n3_:=Aside0.mk (blk_below (g:=gb313) (o:=.cells #[.float .f64 a1_0,.float .f64 a1_1] 41 (0,0)) (by (with_reducible repeat (first | refine blk_drewN ?_ _ | refine blk_drew ?_ | refine blk_alloc ?_ _));exact BK313.out) hb);have n4_:=Aside0.mk (below_step (by repeat (first | (with_reducible first | exact HB.out | apply below_alloc | apply pw_below_drewN | apply below_drew1 | refine below_set ?_ GE312.out | refine below_set ?_ GE313.out) | exact HB.out)) hb);clear HO316;clear BK312;clear BK313;clear HB;have HO316:=n0_;have HO320:=n1_;have BK312:=n2_;have BK313:=n3_;have HB:=n4_;clear n0_ n1_ n2_ n3_ n4_;(try clear hb);(try clear hb2);(try clear hk);(try clear hi);(try clear ho0)));go_upto_region 3 with (first | ((with_reducible refine gate_dst (N:=3) rfl ?_);(try (refine gate_guard (by rfl) ?_;dsimp only));refine box_event ?hg (N:=3) ?hd (cs:=#[.slice A0_0 l0_0.length c0_0,.slice A0_1 l0_1.length c0_1]) (t:=25) ?hr ?_;(case hd => rfl);(case hg => rfl);(case hr => first | (go_simp;done) | (go_simp;rfl));intro gb312 hg w7 hbox hb;have n0_:=Aside0.mk (below_step (by repeat (first | (with_reducible first | exact HB.out | apply below_alloc | apply pw_below_drewN | apply below_drew1) | exact HB.out)) hb);have n1_:=Aside0.mk (hbox);have n2_:=Aside0.mk ((by rw [hg];exact (below_size (by repeat (first | (with_reducible first | exact HB.out | apply below_alloc | apply pw_below_drewN | apply below_drew1) | exact HB.out))):w.heap.size ≤ gb312));have n3_:=Aside0.mk ((by rw [hg];exact (below_size (by repeat (first | (with_reducible first | exact HB.out | apply below_alloc | apply pw_below_drewN | apply below_drew1) | exact HB.out))):w.heap.size ≤ gb312));clear HB;have HB:=n0_;have BK312:=n1_;have GW312:=n2_;have GE312:=n3_;clear n0_ n1_ n2_ n3_;clear hb hbox hg) | ((with_reducible refine gate_dst (N:=4) rfl ?_);(try (refine gate_guard (by rfl) ?_;dsimp only));refine box_event ?hg (N:=4) ?hd (cs:=#[.float .f64 a1_0,.float .f64 a1_1]) (t:=41) ?hr ?_;(case hd => rfl);(case hg => rfl);(case hr => first | (go_simp;done) | (go_simp;rfl));intro gb313 hg w8 hbox hb;have n0_:=Aside0.mk (blk_below (g:=gb312) (o:=.cells #[.slice A0_0 l0_0.length c0_0,.slice A0_1 l0_1.length c0_1] 25 (0,0)) (by (with_reducible repeat (first | refine blk_drewN ?_ _ | refine blk_drew ?_ | refine blk_alloc ?_ _));exact BK312.out) hb);have n1_:=Aside0.mk (below_step (by repeat (first | (with_reducible first | exact HB.out | apply below_alloc | apply pw_below_drewN | apply below_drew1 | refine below_set ?_ GE312.out) | exact HB.out)) hb);have n2_:=Aside0.mk (hbox);have n3_:=Aside0.mk ((by rw [hg];exact (below_size (by repeat (first | (with_reducible first | exact HB.out | apply below_alloc | apply pw_below_drewN | apply below_drew1 | refine below_set ?_ GE312.out) | exact HB.out))):w.heap.size ≤ gb313));have n4_:=Aside0.mk ((by rw [hg];exact (below_size (by repeat (first | (with_reducible first | exact HB.out | apply below_alloc | apply pw_below_drewN | apply below_drew1 | refine below_set ?_ GE312.out) | exact HB.out))):w.heap.size ≤ gb313));have n5_:=Aside0.mk ((by rw [hg];exact Nat.ne_of_lt (blk_lt (g:=gb312) (o:=.cells #[.slice A0_0 l0_0.length c0_0,.slice A0_1 l0_1.length c0_1] 25 (0,0)) (by (with_reducible repeat (first | refine blk_drewN ?_ _ | refine blk_drew ?_ | refine blk_alloc ?_ _));exact BK312.out)):gb312 ≠ gb313));have n6_:=Aside0.mk ((by rw [hg];exact Nat.ne_of_gt (blk_lt (g:=gb312) (o:=.cells #[.slice A0_0 l0_0.length c0_0,.slice A0_1 l0_1.length c0_1] 25 (0,0)) (by (with_reducible repeat (first | refine blk_drewN ?_ _ | refine blk_drew ?_ | refine blk_alloc ?_ _));exact BK312.out)):gb313 ≠ gb312));clear BK312;clear HB;have BK312:=n0_;have HB:=n1_;have BK313:=n2_;have GW313:=n3_;have GE313:=n4_;have NB312_313:=n5_;have NB313_312:=n6_;clear n0_ n1_ n2_ n3_ n4_ n5_ n6_;clear hb hbox hg;have hnb9:=NB312_313.out;have hnc9:=NB313_312.out;have hcz10_0:w8.cell? ⟨gb312,0,none⟩ = some (.slice A0_0 l0_0.length c0_0):=(blk_cell BK312.out 0).trans rfl;have hcz10_1:w8.cell? ⟨gb312,1,none⟩ = some (.slice A0_1 l0_1.length c0_1):=(blk_cell BK312.out 1).trans rfl;have hfz10_0:=blk_frozen BK312.out 0;have hfz10_1:=blk_frozen BK312.out 1;have hcz11_0:w8.cell? ⟨gb313,0,none⟩ = some (.float .f64 a1_0):=(blk_cell BK313.out 0).trans rfl;have hcz11_1:w8.cell? ⟨gb313,1,none⟩ = some (.float .f64 a1_1):=(blk_cell BK313.out 1).trans rfl;have hfz11_0:=blk_frozen BK313.out 0;have hfz11_1:=blk_frozen BK313.out 1) | (go_at_call 15;(with_reducible refine (paths_Dists.calls _ _ l0_0 _ _ l0_1 a1_0 a2 t314 t317 _ ?side1 ?side2 ?side3 ?side4 A4.out).mono ?_);(case side1 => repeat (first | exact (Kd.C_below HR0_0.out HB.out) | (with_reducible refine Kd.C_alloc ?_ _) | (with_reducible refine Kd.C_drewN ?_ _) | (with_reducible refine Kd.C_drew ?_)));(case side2 => exact HC0_0.out);(case side3 => repeat (first | exact (Kd.C_below HR0_1.out HB.out) | (with_reducible refine Kd.C_alloc ?_ _) | (with_reducible refine Kd.C_drewN ?_ _) | (with_reducible refine Kd.C_drew ?_)));(case side4 => exact HC0_1.out);rintro e w12 ⟨v315,rfl,ho0,hb⟩;have n0_:=Aside0.mk (Kd.R_lower ho0 (below_size (by repeat (first | (with_reducible first | exact HB.out | apply below_alloc | apply pw_below_drewN | apply below_drew1 | refine below_set ?_ GE312.out | refine below_set ?_ GE313.out) | exact HB.out))));have n1_:=Aside0.mk (blk_below (g:=gb312) (o:=.cells #[.slice A0_0 l0_0.length c0_0,.slice A0_1 l0_1.length c0_1] 25 (0,0)) (by (with_reducible repeat (first | refine blk_drewN ?_ _ | refine blk_drew ?_ | refine blk_alloc ?_ _));exact BK312.out) hb);have n2_:=Aside0.mk (blk_below (g:=gb313) (o:=.cells #[.float .f64 a1_0,.float .f64 a1_1] 41 (0,0)) (by (with_reducible repeat (first | refine blk_drewN ?_ _ | refine blk_drew ?_ | refine blk_alloc ?_ _));exact BK313.out) hb);have n3_:=Aside0.mk (below_step (by repeat (first | (with_reducible first | exact HB.out | apply below_alloc | apply pw_below_drewN | apply below_drew1 | refine below_set ?_ GE312.out | refine below_set ?_ GE313.out) | exact HB.out)) hb);clear BK312;clear BK313;clear HB;have HO316:=n0_;have BK312:=n1_;have BK313:=n2_;have HB:=n3_;clear n0_ n1_ n2_ n3_;(try clear hb);(try clear hb2);(try clear hk);(try clear hi);(try clear ho0);have hcz13_0:w12.cell? ⟨gb312,0,none⟩ = some (.slice A0_0 l0_0.length c0_0):=(blk_cell BK312.out 0).trans rfl;have hcz13_1:w12.cell? ⟨gb312,1,none⟩ = some (.slice A0_1 l0_1.length c0_1):=(blk_cell BK312.out 1).trans rfl;have hfz13_0:=blk_frozen BK312.out 0;have hfz13_1:=blk_frozen BK312.out 1;have hcz14_0:w12.cell? ⟨gb313,0,none⟩ = some (.float .f64 a1_0):=(blk_cell BK313.out 0).trans rfl;have hcz14_1:w12.cell? ⟨gb313,1,none⟩ = some (.float .f64 a1_1):=(blk_cell BK313.out 1).trans rfl;have hfz14_0:=blk_frozen BK313.out 0;have hfz14_1:=blk_frozen BK313.out 1) | (go_at_call 15;(with_reducible refine (paths_Dists.calls _ _ l0_0 _ _ l0_1 a1_1 a2 t318 t321 _ ?side1 ?side2 ?side3 ?side4 A5.out).mono ?_);(case side1 => repeat (first | exact (Kd.C_below HR0_0.out HB.out) | (with_reducible refine Kd.C_alloc ?_ _) | (with_reducible refine Kd.C_drewN ?_ _) | (with_reducible refine Kd.C_drew ?_)));(case side2 => exact HC0_0.out);(case side3 => repeat (first | exact (Kd.C_below HR0_1.out HB.out) | (with_reducible refine Kd.C_alloc ?_ _) | (with_reducible refine Kd.C_drewN ?_ _) | (with_reducible refine Kd.C_drew ?_)));(case side4 => exact HC0_1.out);rintro e w15 ⟨v319,rfl,ho0,hb⟩;have n0_:=Aside0.mk (Kd.R_elder' (by (with_reducible repeat (first | apply Kd.R_alloc | apply Kd.R_drewN | apply Kd.R_drew));exact HO316.out) (Kd.R_base ho0) hb);have n1_:=Aside0.mk (Kd.R_lower (Kd.R_new' ho0 (Kd.R_lt (by (with_reducible repeat (first | apply Kd.R_alloc | apply Kd.R_drewN | apply Kd.R_drew));exact HO316.out))) (below_size (by repeat (first | (with_reducible first | exact HB.out | apply below_alloc | apply pw_below_drewN | apply below_drew1 | refine below_set ?_ GE312.out | refine below_set ?_ GE313.out) | exact HB.out))));have n2_:=Aside0.mk (blk_below (g:=gb312) (o:=.cells #[.slice A0_0 l0_0.length c0_0,.slice A0_1 l0_1.length c0_1] 25 (0,0)) (by (with_reducible repeat (first | refine blk_drewN ?_ _ | refine blk_drew ?_ | refine blk_alloc ?_ _));exact BK312.out) hb);have n3_:=Aside0.mk (blk_below (g:=gb313) (o:=.cells #[.float .f64 a1_0,.float .f64 a1_1] 41 (0,0)) (by (with_reducible repeat (first | refine blk_drewN ?_ _ | refine blk_drew ?_ | refine blk_alloc ?_ _));exact BK313.out) hb);have n4_:=Aside0.mk (below_step (by repeat (first | (with_reducible first | exact HB.out | apply below_alloc | apply pw_below_drewN | apply below_drew1 | refine below_set ?_ GE312.out | refine below_set ?_ GE313.out) | exact HB.out)) hb);clear HO316;clear BK312;clear BK313;clear HB;have HO316:=n0_;have HO320:=n1_;have BK312:=n2_;have BK313:=n3_;have HB:=n4_;clear n0_ n1_ n2_ n3_ n4_;(try clear hb);(try clear hb2);(try clear hk);(try clear hi);(try clear ho0))))
 (try simp only [Act.put,List.setIfInBounds_toArray,List.set_cons_zero,List.set_cons_succ])
 go_cut [40] (fun v40 wc => ∃ (kq:Nat) (x40_5:Bool),v40 = .bool x40_5 ∧ Aside0 (beaconlaw08_PathsLimits.j0 kq t314 t318 x40_5 l0_0 l0_1 a1_0 a1_1 = some r) ∧ Aside0 (kq ≤ k) ∧ Aside0 (Kd.R Kd.float 26 wc w.heap.size (fun k_ => some k_ ≠ (v319:Value).ownBlock) v315 t314) ∧ Aside0 (Kd.R Kd.float 26 wc w.heap.size (fun k_ => some k_ ≠ (v315:Value).ownBlock) v319 t318) ∧ Aside0 (wc.heap[gb312]? = some (.cells #[(.slice A0_0 l0_0.length c0_0),(.slice A0_1 l0_1.length c0_1)] 25 (0,0))) ∧ Aside0 (wc.heap[gb313]? = some (.cells #[.float .f64 a1_0,.float .f64 a1_1] 41 (0,0))) ∧ Aside0 (Below w.heap.size w wc))
 case first =>
  have H:=HC6.out
  clear HC6
  by_cases c16:t317 = 0
  ·rw [if_pos c16] at H
   have c16b0:(t317 == 0) = true:=beq_iff_eq.mpr c16
   have c16b1:(t317 != 0) = false:=bne_eq_false_iff_eq.mpr c16
   clear c16
   (first | rw [c16b0] | (simp only [i64_w,i32_w];rw [c16b0]) | skip)
   by_cases c17:t321 = 0
   ·rw [if_pos c17] at H
    have c17b0:(t321 == 0) = true:=beq_iff_eq.mpr c17
    have c17b1:(t321 != 0) = false:=bne_eq_false_iff_eq.mpr c17
    clear c17
    have H':=Aside0.mk H
    clear H
    have hnb18:=NB313_312.out
    have hnc18:=NB312_313.out
    have hcz19_0:w15.cell? ⟨gb313,0,none⟩ = some (.float .f64 a1_0):=(blk_cell BK313.out 0).trans rfl
    have hcz19_1:w15.cell? ⟨gb313,1,none⟩ = some (.float .f64 a1_1):=(blk_cell BK313.out 1).trans rfl
    have hfz19_0:=blk_frozen BK313.out 0
    have hfz19_1:=blk_frozen BK313.out 1
    go_wp2
    repeat (go_quiet (fail);try go_wp2)
    go_meet
    case rel => exact ⟨_,((FloatKind.f64.format.order a1_0 a1_1 == some .gt)),(by first | rfl | (simp;done) | (simp [*];done)),H',⟨by first | omega | exact Nat.le_refl _⟩,⟨by (with_reducible repeat (first | apply Kd.R_alloc | apply Kd.R_drewN | apply Kd.R_drew));exact Kd.R_mono HO316.out (fun _ hk => hk.2)⟩,⟨by (with_reducible repeat (first | apply Kd.R_alloc | apply Kd.R_drewN | apply Kd.R_drew));exact Kd.R_mono HO320.out (fun _ hk => hk.2)⟩,⟨by (with_reducible repeat (first | refine blk_drewN ?_ _ | refine blk_drew ?_ | refine blk_alloc ?_ _));exact BK312.out⟩,⟨by (with_reducible repeat (first | refine blk_drewN ?_ _ | refine blk_drew ?_ | refine blk_alloc ?_ _));exact BK313.out⟩,⟨by repeat (first | (with_reducible first | exact HB.out | apply below_alloc | apply pw_below_drewN | apply below_drew1 | refine below_set ?_ GE312.out | refine below_set ?_ GE313.out) | exact HB.out)⟩⟩
   ·rw [if_neg c17] at H
    have c17b0:(t321 == 0) = false:=beq_eq_false_iff_ne.mpr c17
    have c17b1:(t321 != 0) = true:=bne_iff_ne.mpr c17
    have H':=Aside0.mk H
    clear H
    go_wp2
    repeat (go_quiet (fail);try go_wp2)
    go_meet
    case rel => exact ⟨_,(true),(by first | rfl | (simp;done) | (simp [*];done)),H',⟨by first | omega | exact Nat.le_refl _⟩,⟨by (with_reducible repeat (first | apply Kd.R_alloc | apply Kd.R_drewN | apply Kd.R_drew));exact Kd.R_mono HO316.out (fun _ hk => hk.2)⟩,⟨by (with_reducible repeat (first | apply Kd.R_alloc | apply Kd.R_drewN | apply Kd.R_drew));exact Kd.R_mono HO320.out (fun _ hk => hk.2)⟩,⟨by (with_reducible repeat (first | refine blk_drewN ?_ _ | refine blk_drew ?_ | refine blk_alloc ?_ _));exact BK312.out⟩,⟨by (with_reducible repeat (first | refine blk_drewN ?_ _ | refine blk_drew ?_ | refine blk_alloc ?_ _));exact BK313.out⟩,⟨by repeat (first | (with_reducible first | exact HB.out | apply below_alloc | apply pw_below_drewN | apply below_drew1 | refine below_set ?_ GE312.out | refine below_set ?_ GE313.out) | exact HB.out)⟩⟩
  ·rw [if_neg c16] at H
   have c16b0:(t317 == 0) = false:=beq_eq_false_iff_ne.mpr c16
   have c16b1:(t317 != 0) = true:=bne_iff_ne.mpr c16
   (first | rw [c16b0] | (simp only [i64_w,i32_w];rw [c16b0]) | skip)
   have H':=Aside0.mk H
   clear H
   go_wp2
   repeat (go_quiet (fail);try go_wp2)
   go_meet
   case rel => exact ⟨_,(true),(by first | rfl | (simp;done) | (simp [*];done)),H',⟨by first | omega | exact Nat.le_refl _⟩,⟨by (with_reducible repeat (first | apply Kd.R_alloc | apply Kd.R_drewN | apply Kd.R_drew));exact Kd.R_mono HO316.out (fun _ hk => hk.2)⟩,⟨by (with_reducible repeat (first | apply Kd.R_alloc | apply Kd.R_drewN | apply Kd.R_drew));exact Kd.R_mono HO320.out (fun _ hk => hk.2)⟩,⟨by (with_reducible repeat (first | refine blk_drewN ?_ _ | refine blk_drew ?_ | refine blk_alloc ?_ _));exact BK312.out⟩,⟨by (with_reducible repeat (first | refine blk_drewN ?_ _ | refine blk_drew ?_ | refine blk_alloc ?_ _));exact BK313.out⟩,⟨by repeat (first | (with_reducible first | exact HB.out | apply below_alloc | apply pw_below_drewN | apply below_drew1 | refine below_set ?_ GE312.out | refine below_set ?_ GE313.out) | exact HB.out)⟩⟩
 case rest =>
  clear HC6
  try clear c1
  try clear p2
  try clear c6
  try clear c9
  try clear c16
  try clear c16b0
  try clear c16b1
  try clear c17
  try clear c17b0
  try clear c17b1
  try clear c18
  try clear hcz10_0
  try clear hcz10_1
  try clear hcz11_0
  try clear hcz11_1
  try clear hcz13_0
  try clear hcz13_1
  try clear hcz14_0
  try clear hcz14_1
  try clear hcz19_0
  try clear hcz19_1
  try clear hfz10_0
  try clear hfz10_1
  try clear hfz11_0
  try clear hfz11_1
  try clear hfz13_0
  try clear hfz13_1
  try clear hfz14_0
  try clear hfz14_1
  try clear hfz19_0
  try clear hfz19_1
  obtain ⟨kq,x40_5,rfl,HA,HJ5,HO_7,HO_9,BK312,BK313,HB⟩:=hcut
  cases kq with
  | zero => exact absurd HA.out (by simp [beaconlaw08_PathsLimits.j0])
  | succ kj5 =>
   have H:=HA.out
   clear HA
   simp only [beaconlaw08_PathsLimits.j0] at H
   by_cases c20:x40_5 = true
   ·subst c20
    have H1:(if (t314.length:Int) = 0 then (some true) else (if (t318.length:Int) = 0 then (some true) else (if (FloatKind.f64.format.order a1_0 a1_1 == some .gt) = true then ((beaconlaw08_awake.f).bind fun t322 => (some t322)) else (some false)))) = some r:=by rw [if_pos rfl] at H;exact H
    clear H
    have H:=H1
    clear H1
    by_cases c21:(t314.length:Int) = 0
    ·rw [if_pos c21] at H
     have c21b0:((t314.length:Int) == 0) = true:=beq_iff_eq.mpr c21
     have c21b1:((t314.length:Int) != 0) = false:=bne_eq_false_iff_eq.mpr c21
     clear c21
     obtain rfl:=Option.some.inj H
     obtain ⟨Ao22,co22,eo22⟩:=Kd.R_slice HO_7.out
     subst eo22
     go_wp2
     repeat (go_quiet (fail);try go_wp2)
     go_ret
     exact ⟨by first | rfl | (simp [errW_none,errW_some] <;> rfl) | (simp [*,errW_none,errW_some] <;> rfl),by repeat (first | (with_reducible first | exact HB.out | apply below_alloc | apply pw_below_drewN | apply below_drew1 | refine below_set ?_ GE312.out | refine below_set ?_ GE313.out) | exact HB.out)⟩
    ·rw [if_neg c21] at H
     have c21b0:((t314.length:Int) == 0) = false:=beq_eq_false_iff_ne.mpr c21
     have c21b1:((t314.length:Int) != 0) = true:=bne_iff_ne.mpr c21
     have c21b2:¬ (t314 = []):=fun h_ => c21 (by rw [h_];rfl)
     by_cases c23:(t318.length:Int) = 0
     ·rw [if_pos c23] at H
      have c23b0:((t318.length:Int) == 0) = true:=beq_iff_eq.mpr c23
      have c23b1:((t318.length:Int) != 0) = false:=bne_eq_false_iff_eq.mpr c23
      clear c23
      obtain rfl:=Option.some.inj H
      obtain ⟨Ao24,co24,eo24⟩:=Kd.R_slice HO_7.out
      subst eo24
      obtain ⟨Ao25,co25,eo25⟩:=Kd.R_slice HO_9.out
      subst eo25
      go_wp2
      repeat (go_quiet (fail);try go_wp2)
      go_ret
      exact ⟨by first | rfl | (simp [errW_none,errW_some] <;> rfl) | (simp [*,errW_none,errW_some] <;> rfl),by repeat (first | (with_reducible first | exact HB.out | apply below_alloc | apply pw_below_drewN | apply below_drew1 | refine below_set ?_ GE312.out | refine below_set ?_ GE313.out) | exact HB.out)⟩
     ·rw [if_neg c23] at H
      have c23b0:((t318.length:Int) == 0) = false:=beq_eq_false_iff_ne.mpr c23
      have c23b1:((t318.length:Int) != 0) = true:=bne_iff_ne.mpr c23
      have c23b2:¬ (t318 = []):=fun h_ => c23 (by rw [h_];rfl)
      by_cases c26:(FloatKind.f64.format.order a1_0 a1_1 == some .gt) = true
      ·rw [if_pos c26] at H
       have c26b0:(FloatKind.f64.format.order a1_0 a1_1 == some .gt) = true:=c26
       (try (have c26b1:decide (FloatKind.f64.format.order a1_0 a1_1 = some .gt) = true:=by simpa using c26))
       (try (have c26b2:(FloatKind.f64.format.order a1_0 a1_1 == some .gt) = true:=by simpa using c26))
       clear c26
       replace H:=Option.bind_eq_some_iff.mp H
       obtain ⟨t322,A270,H⟩:=H
       replace H:(some t322) = some r:=H
       have A27:=Aside0.mk A270
       clear A270
       obtain rfl:=Option.some.inj H
       obtain ⟨Ao28,co28,eo28⟩:=Kd.R_slice HO_7.out
       subst eo28
       obtain ⟨Ao29,co29,eo29⟩:=Kd.R_slice HO_9.out
       subst eo29
       have hnb30:=NB313_312.out
       have hnc30:=NB312_313.out
       have hcz31_0:wc.cell? ⟨gb313,0,none⟩ = some (.float .f64 a1_0):=(blk_cell BK313.out 0).trans rfl
       have hcz31_1:wc.cell? ⟨gb313,1,none⟩ = some (.float .f64 a1_1):=(blk_cell BK313.out 1).trans rfl
       have hfz31_0:=blk_frozen BK313.out 0
       have hfz31_1:=blk_frozen BK313.out 1
       go_wp2_with (first | (go_at_call 14;(with_reducible refine (beaconlaw08_awake.calls  t322 _ A27.out).mono ?_);rintro e w32 ⟨rfl,hb⟩;have n0_:=Aside0.mk (Kd.R_below (by (with_reducible repeat (first | apply Kd.R_alloc | apply Kd.R_drewN | apply Kd.R_drew));exact HO_7.out) hb);have n1_:=Aside0.mk (Kd.R_below (by (with_reducible repeat (first | apply Kd.R_alloc | apply Kd.R_drewN | apply Kd.R_drew));exact HO_9.out) hb);have n2_:=Aside0.mk (blk_below (g:=gb312) (o:=.cells #[.slice A0_0 l0_0.length c0_0,.slice A0_1 l0_1.length c0_1] 25 (0,0)) (by (with_reducible repeat (first | refine blk_drewN ?_ _ | refine blk_drew ?_ | refine blk_alloc ?_ _));exact BK312.out) hb);have n3_:=Aside0.mk (blk_below (g:=gb313) (o:=.cells #[.float .f64 a1_0,.float .f64 a1_1] 41 (0,0)) (by (with_reducible repeat (first | refine blk_drewN ?_ _ | refine blk_drew ?_ | refine blk_alloc ?_ _));exact BK313.out) hb);have n4_:=Aside0.mk (below_step (by repeat (first | (with_reducible first | exact HB.out | apply below_alloc | apply pw_below_drewN | apply below_drew1 | refine below_set ?_ GE312.out | refine below_set ?_ GE313.out) | exact HB.out)) hb);clear HO_7;clear HO_9;clear BK312;clear BK313;clear HB;have HO_7:=n0_;have HO_9:=n1_;have BK312:=n2_;have BK313:=n3_;have HB:=n4_;clear n0_ n1_ n2_ n3_ n4_;(try clear hb);(try clear hb2);(try clear hk);(try clear hi)))
       repeat (go_quiet (first | (go_at_call 14;(with_reducible refine (beaconlaw08_awake.calls  t322 _ A27.out).mono ?_);rintro e w32 ⟨rfl,hb⟩;have n0_:=Aside0.mk (Kd.R_below (by (with_reducible repeat (first | apply Kd.R_alloc | apply Kd.R_drewN | apply Kd.R_drew));exact HO_7.out) hb);have n1_:=Aside0.mk (Kd.R_below (by (with_reducible repeat (first | apply Kd.R_alloc | apply Kd.R_drewN | apply Kd.R_drew));exact HO_9.out) hb);have n2_:=Aside0.mk (blk_below (g:=gb312) (o:=.cells #[.slice A0_0 l0_0.length c0_0,.slice A0_1 l0_1.length c0_1] 25 (0,0)) (by (with_reducible repeat (first | refine blk_drewN ?_ _ | refine blk_drew ?_ | refine blk_alloc ?_ _));exact BK312.out) hb);have n3_:=Aside0.mk (blk_below (g:=gb313) (o:=.cells #[.float .f64 a1_0,.float .f64 a1_1] 41 (0,0)) (by (with_reducible repeat (first | refine blk_drewN ?_ _ | refine blk_drew ?_ | refine blk_alloc ?_ _));exact BK313.out) hb);have n4_:=Aside0.mk (below_step (by repeat (first | (with_reducible first | exact HB.out | apply below_alloc | apply pw_below_drewN | apply below_drew1 | refine below_set ?_ GE312.out | refine below_set ?_ GE313.out) | exact HB.out)) hb);clear HO_7;clear HO_9;clear BK312;clear BK313;clear HB;have HO_7:=n0_;have HO_9:=n1_;have BK312:=n2_;have BK313:=n3_;have HB:=n4_;clear n0_ n1_ n2_ n3_ n4_;(try clear hb);(try clear hb2);(try clear hk);(try clear hi)));try go_wp2_with (first | (go_at_call 14;(with_reducible refine (beaconlaw08_awake.calls  t322 _ A27.out).mono ?_);rintro e w32 ⟨rfl,hb⟩;have n0_:=Aside0.mk (Kd.R_below (by (with_reducible repeat (first | apply Kd.R_alloc | apply Kd.R_drewN | apply Kd.R_drew));exact HO_7.out) hb);have n1_:=Aside0.mk (Kd.R_below (by (with_reducible repeat (first | apply Kd.R_alloc | apply Kd.R_drewN | apply Kd.R_drew));exact HO_9.out) hb);have n2_:=Aside0.mk (blk_below (g:=gb312) (o:=.cells #[.slice A0_0 l0_0.length c0_0,.slice A0_1 l0_1.length c0_1] 25 (0,0)) (by (with_reducible repeat (first | refine blk_drewN ?_ _ | refine blk_drew ?_ | refine blk_alloc ?_ _));exact BK312.out) hb);have n3_:=Aside0.mk (blk_below (g:=gb313) (o:=.cells #[.float .f64 a1_0,.float .f64 a1_1] 41 (0,0)) (by (with_reducible repeat (first | refine blk_drewN ?_ _ | refine blk_drew ?_ | refine blk_alloc ?_ _));exact BK313.out) hb);have n4_:=Aside0.mk (below_step (by repeat (first | (with_reducible first | exact HB.out | apply below_alloc | apply pw_below_drewN | apply below_drew1 | refine below_set ?_ GE312.out | refine below_set ?_ GE313.out) | exact HB.out)) hb);clear HO_7;clear HO_9;clear BK312;clear BK313;clear HB;have HO_7:=n0_;have HO_9:=n1_;have BK312:=n2_;have BK313:=n3_;have HB:=n4_;clear n0_ n1_ n2_ n3_ n4_;(try clear hb);(try clear hb2);(try clear hk);(try clear hi))))
       go_ret
       exact ⟨by first | rfl | (simp [errW_none,errW_some] <;> rfl) | (simp [*,errW_none,errW_some] <;> rfl),by repeat (first | (with_reducible first | exact HB.out | apply below_alloc | apply pw_below_drewN | apply below_drew1 | refine below_set ?_ GE312.out | refine below_set ?_ GE313.out) | exact HB.out)⟩
      ·rw [if_neg c26] at H
       have c26b0:(FloatKind.f64.format.order a1_0 a1_1 == some .gt) = false:=by simpa using c26
       (try (have c26b1:decide (FloatKind.f64.format.order a1_0 a1_1 = some .gt) = false:=by simpa using c26))
       (try (have c26b2:(FloatKind.f64.format.order a1_0 a1_1 == some .gt) = false:=by simpa using c26))
       (try (have c26b3:¬ (FloatKind.f64.format.order a1_0 a1_1 = some .gt):=by simpa using c26))
       clear c26
       obtain rfl:=Option.some.inj H
       obtain ⟨Ao33,co33,eo33⟩:=Kd.R_slice HO_7.out
       subst eo33
       obtain ⟨Ao34,co34,eo34⟩:=Kd.R_slice HO_9.out
       subst eo34
       have hnb35:=NB313_312.out
       have hnc35:=NB312_313.out
       have hcz36_0:wc.cell? ⟨gb313,0,none⟩ = some (.float .f64 a1_0):=(blk_cell BK313.out 0).trans rfl
       have hcz36_1:wc.cell? ⟨gb313,1,none⟩ = some (.float .f64 a1_1):=(blk_cell BK313.out 1).trans rfl
       have hfz36_0:=blk_frozen BK313.out 0
       have hfz36_1:=blk_frozen BK313.out 1
       go_wp2
       repeat (go_quiet (fail);try go_wp2)
       go_ret
       exact ⟨by first | rfl | (simp [errW_none,errW_some] <;> rfl) | (simp [*,errW_none,errW_some] <;> rfl),by repeat (first | (with_reducible first | exact HB.out | apply below_alloc | apply pw_below_drewN | apply below_drew1 | refine below_set ?_ GE312.out | refine below_set ?_ GE313.out) | exact HB.out)⟩
   ·replace c20:=Bool.eq_false_iff.mpr c20
    subst c20
    have H1:(if (t314.length:Int) = (t318.length:Int) then ((beaconref07_Check.f kj5 l0_0 l0_1).bind fun t323 => (beaconlaw08_PathsLimits.j1 kj5 t314 t318 (t323 != 0) a1_0 a1_1)) else (beaconlaw08_PathsLimits.j1 kj5 t314 t318 true a1_0 a1_1)) = some r:=by rw [if_neg (show ¬ (false = true) by decide)] at H;exact H
    clear H
    have H:=H1
    clear H1
    have HC37:=Aside0.mk H
    clear H
    go_upto_region 5 with (fail)
    repeat (go_quiet (fail);go_upto_region 5 with (fail))
    go_cut [68] (fun v68 wc => ∃ (kq:Nat) (x68_36:Bool),v68 = .bool x68_36 ∧ Aside0 (beaconlaw08_PathsLimits.j1 kq t314 t318 x68_36 a1_0 a1_1 = some r) ∧ Aside0 (kq ≤ kj5) ∧ Aside0 (Kd.R Kd.float 26 wc w.heap.size (fun k_ => some k_ ≠ (v319:Value).ownBlock) v315 t314) ∧ Aside0 (Kd.R Kd.float 26 wc w.heap.size (fun k_ => some k_ ≠ (v315:Value).ownBlock) v319 t318) ∧ Aside0 (wc.heap[gb312]? = some (.cells #[(.slice A0_0 l0_0.length c0_0),(.slice A0_1 l0_1.length c0_1)] 25 (0,0))) ∧ Aside0 (wc.heap[gb313]? = some (.cells #[.float .f64 a1_0,.float .f64 a1_1] 41 (0,0))) ∧ Aside0 (Below w.heap.size w wc))
    case first =>
     have H:=HC37.out
     clear HC37
     by_cases c38:(t314.length:Int) = (t318.length:Int)
     ·rw [if_pos c38] at H
      have c38b0:((t314.length:Int) == (t318.length:Int)) = true:=beq_iff_eq.mpr c38
      have c38b1:((t314.length:Int) != (t318.length:Int)) = false:=bne_eq_false_iff_eq.mpr c38
      have c38b2:(t314.length == t318.length) = true:=by first | simpa using c38 | (simp at c38 ⊢;omega)
      clear c38
      (first | rw [c38b0] | (simp only [i64_w,i32_w];rw [c38b0]) | skip)
      replace H:=Option.bind_eq_some_iff.mp H
      obtain ⟨t323,A390,H⟩:=H
      replace H:(beaconlaw08_PathsLimits.j1 kj5 t314 t318 (t323 != 0) a1_0 a1_1) = some r:=H
      have A39:=Aside0.mk A390
      clear A390
      have H':=Aside0.mk H
      clear H
      obtain ⟨Ao40,co40,eo40⟩:=Kd.R_slice HO_7.out
      subst eo40
      obtain ⟨Ao41,co41,eo41⟩:=Kd.R_slice HO_9.out
      subst eo41
      have hnb42:=NB312_313.out
      have hnc42:=NB313_312.out
      have hcz43_0:wc.cell? ⟨gb312,0,none⟩ = some (.slice A0_0 l0_0.length c0_0):=(blk_cell BK312.out 0).trans rfl
      have hcz43_1:wc.cell? ⟨gb312,1,none⟩ = some (.slice A0_1 l0_1.length c0_1):=(blk_cell BK312.out 1).trans rfl
      have hfz43_0:=blk_frozen BK312.out 0
      have hfz43_1:=blk_frozen BK312.out 1
      go_wp2_with (first | (go_at_call 19;(with_reducible refine (beaconref07_Check.calls kj5 _ _ l0_0 _ _ l0_1 t323 _ ?side1 ?side2 ?side3 ?side4 A39.out).mono ?_);(case side1 => repeat (first | exact (Kd.C_below HR0_0.out HB.out) | (with_reducible refine Kd.C_alloc ?_ _) | (with_reducible refine Kd.C_drewN ?_ _) | (with_reducible refine Kd.C_drew ?_)));(case side2 => exact HC0_0.out);(case side3 => repeat (first | exact (Kd.C_below HR0_1.out HB.out) | (with_reducible refine Kd.C_alloc ?_ _) | (with_reducible refine Kd.C_drewN ?_ _) | (with_reducible refine Kd.C_drew ?_)));(case side4 => exact HC0_1.out);rintro e w44 ⟨rfl,hb⟩;have n0_:=Aside0.mk (Kd.R_below (by (with_reducible repeat (first | apply Kd.R_alloc | apply Kd.R_drewN | apply Kd.R_drew));exact HO_7.out) hb);have n1_:=Aside0.mk (Kd.R_below (by (with_reducible repeat (first | apply Kd.R_alloc | apply Kd.R_drewN | apply Kd.R_drew));exact HO_9.out) hb);have n2_:=Aside0.mk (blk_below (g:=gb312) (o:=.cells #[.slice A0_0 l0_0.length c0_0,.slice A0_1 l0_1.length c0_1] 25 (0,0)) (by (with_reducible repeat (first | refine blk_drewN ?_ _ | refine blk_drew ?_ | refine blk_alloc ?_ _));exact BK312.out) hb);have n3_:=Aside0.mk (blk_below (g:=gb313) (o:=.cells #[.float .f64 a1_0,.float .f64 a1_1] 41 (0,0)) (by (with_reducible repeat (first | refine blk_drewN ?_ _ | refine blk_drew ?_ | refine blk_alloc ?_ _));exact BK313.out) hb);have n4_:=Aside0.mk (below_step (by repeat (first | (with_reducible first | exact HB.out | apply below_alloc | apply pw_below_drewN | apply below_drew1 | refine below_set ?_ GE312.out | refine below_set ?_ GE313.out) | exact HB.out)) hb);clear HO_7;clear HO_9;clear BK312;clear BK313;clear HB;have HO_7:=n0_;have HO_9:=n1_;have BK312:=n2_;have BK313:=n3_;have HB:=n4_;clear n0_ n1_ n2_ n3_ n4_;(try clear hb);(try clear hb2);(try clear hk);(try clear hi)))
      repeat (go_quiet (first | (go_at_call 19;(with_reducible refine (beaconref07_Check.calls kj5 _ _ l0_0 _ _ l0_1 t323 _ ?side1 ?side2 ?side3 ?side4 A39.out).mono ?_);(case side1 => repeat (first | exact (Kd.C_below HR0_0.out HB.out) | (with_reducible refine Kd.C_alloc ?_ _) | (with_reducible refine Kd.C_drewN ?_ _) | (with_reducible refine Kd.C_drew ?_)));(case side2 => exact HC0_0.out);(case side3 => repeat (first | exact (Kd.C_below HR0_1.out HB.out) | (with_reducible refine Kd.C_alloc ?_ _) | (with_reducible refine Kd.C_drewN ?_ _) | (with_reducible refine Kd.C_drew ?_)));(case side4 => exact HC0_1.out);rintro e w44 ⟨rfl,hb⟩;have n0_:=Aside0.mk (Kd.R_below (by (with_reducible repeat (first | apply Kd.R_alloc | apply Kd.R_drewN | apply Kd.R_drew));exact HO_7.out) hb);have n1_:=Aside0.mk (Kd.R_below (by (with_reducible repeat (first | apply Kd.R_alloc | apply Kd.R_drewN | apply Kd.R_drew));exact HO_9.out) hb);have n2_:=Aside0.mk (blk_below (g:=gb312) (o:=.cells #[.slice A0_0 l0_0.length c0_0,.slice A0_1 l0_1.length c0_1] 25 (0,0)) (by (with_reducible repeat (first | refine blk_drewN ?_ _ | refine blk_drew ?_ | refine blk_alloc ?_ _));exact BK312.out) hb);have n3_:=Aside0.mk (blk_below (g:=gb313) (o:=.cells #[.float .f64 a1_0,.float .f64 a1_1] 41 (0,0)) (by (with_reducible repeat (first | refine blk_drewN ?_ _ | refine blk_drew ?_ | refine blk_alloc ?_ _));exact BK313.out) hb);have n4_:=Aside0.mk (below_step (by repeat (first | (with_reducible first | exact HB.out | apply below_alloc | apply pw_below_drewN | apply below_drew1 | refine below_set ?_ GE312.out | refine below_set ?_ GE313.out) | exact HB.out)) hb);clear HO_7;clear HO_9;clear BK312;clear BK313;clear HB;have HO_7:=n0_;have HO_9:=n1_;have BK312:=n2_;have BK313:=n3_;have HB:=n4_;clear n0_ n1_ n2_ n3_ n4_;(try clear hb);(try clear hb2);(try clear hk);(try clear hi)));try go_wp2_with (first | (go_at_call 19;(with_reducible refine (beaconref07_Check.calls kj5 _ _ l0_0 _ _ l0_1 t323 _ ?side1 ?side2 ?side3 ?side4 A39.out).mono ?_);(case side1 => repeat (first | exact (Kd.C_below HR0_0.out HB.out) | (with_reducible refine Kd.C_alloc ?_ _) | (with_reducible refine Kd.C_drewN ?_ _) | (with_reducible refine Kd.C_drew ?_)));(case side2 => exact HC0_0.out);(case side3 => repeat (first | exact (Kd.C_below HR0_1.out HB.out) | (with_reducible refine Kd.C_alloc ?_ _) | (with_reducible refine Kd.C_drewN ?_ _) | (with_reducible refine Kd.C_drew ?_)));(case side4 => exact HC0_1.out);rintro e w44 ⟨rfl,hb⟩;have n0_:=Aside0.mk (Kd.R_below (by (with_reducible repeat (first | apply Kd.R_alloc | apply Kd.R_drewN | apply Kd.R_drew));exact HO_7.out) hb);have n1_:=Aside0.mk (Kd.R_below (by (with_reducible repeat (first | apply Kd.R_alloc | apply Kd.R_drewN | apply Kd.R_drew));exact HO_9.out) hb);have n2_:=Aside0.mk (blk_below (g:=gb312) (o:=.cells #[.slice A0_0 l0_0.length c0_0,.slice A0_1 l0_1.length c0_1] 25 (0,0)) (by (with_reducible repeat (first | refine blk_drewN ?_ _ | refine blk_drew ?_ | refine blk_alloc ?_ _));exact BK312.out) hb);have n3_:=Aside0.mk (blk_below (g:=gb313) (o:=.cells #[.float .f64 a1_0,.float .f64 a1_1] 41 (0,0)) (by (with_reducible repeat (first | refine blk_drewN ?_ _ | refine blk_drew ?_ | refine blk_alloc ?_ _));exact BK313.out) hb);have n4_:=Aside0.mk (below_step (by repeat (first | (with_reducible first | exact HB.out | apply below_alloc | apply pw_below_drewN | apply below_drew1 | refine below_set ?_ GE312.out | refine below_set ?_ GE313.out) | exact HB.out)) hb);clear HO_7;clear HO_9;clear BK312;clear BK313;clear HB;have HO_7:=n0_;have HO_9:=n1_;have BK312:=n2_;have BK313:=n3_;have HB:=n4_;clear n0_ n1_ n2_ n3_ n4_;(try clear hb);(try clear hb2);(try clear hk);(try clear hi))))
      go_meet
      case rel => exact ⟨_,((t323 != 0)),(by first | rfl | (simp;done) | (simp [*];done)),H',⟨by have:=HJ5.out;first | omega | exact Nat.le_refl _⟩,⟨by (with_reducible repeat (first | apply Kd.R_alloc | apply Kd.R_drewN | apply Kd.R_drew));exact HO_7.out⟩,⟨by (with_reducible repeat (first | apply Kd.R_alloc | apply Kd.R_drewN | apply Kd.R_drew));exact HO_9.out⟩,⟨by (with_reducible repeat (first | refine blk_drewN ?_ _ | refine blk_drew ?_ | refine blk_alloc ?_ _));exact BK312.out⟩,⟨by (with_reducible repeat (first | refine blk_drewN ?_ _ | refine blk_drew ?_ | refine blk_alloc ?_ _));exact BK313.out⟩,⟨by repeat (first | (with_reducible first | exact HB.out | apply below_alloc | apply pw_below_drewN | apply below_drew1 | refine below_set ?_ GE312.out | refine below_set ?_ GE313.out) | exact HB.out)⟩⟩
     ·rw [if_neg c38] at H
      have c38b0:((t314.length:Int) == (t318.length:Int)) = false:=beq_eq_false_iff_ne.mpr c38
      have c38b1:((t314.length:Int) != (t318.length:Int)) = true:=bne_iff_ne.mpr c38
      have c38b2:(t314.length == t318.length) = false:=by first | simpa using c38 | (simp at c38 ⊢;omega)
      (first | rw [c38b0] | (simp only [i64_w,i32_w];rw [c38b0]) | skip)
      have H':=Aside0.mk H
      clear H
      obtain ⟨Ao45,co45,eo45⟩:=Kd.R_slice HO_7.out
      subst eo45
      obtain ⟨Ao46,co46,eo46⟩:=Kd.R_slice HO_9.out
      subst eo46
      go_wp2
      repeat (go_quiet (fail);try go_wp2)
      go_meet
      case rel => exact ⟨_,(true),(by first | rfl | (simp;done) | (simp [*];done)),H',⟨by have:=HJ5.out;first | omega | exact Nat.le_refl _⟩,⟨by (with_reducible repeat (first | apply Kd.R_alloc | apply Kd.R_drewN | apply Kd.R_drew));exact HO_7.out⟩,⟨by (with_reducible repeat (first | apply Kd.R_alloc | apply Kd.R_drewN | apply Kd.R_drew));exact HO_9.out⟩,⟨by (with_reducible repeat (first | refine blk_drewN ?_ _ | refine blk_drew ?_ | refine blk_alloc ?_ _));exact BK312.out⟩,⟨by (with_reducible repeat (first | refine blk_drewN ?_ _ | refine blk_drew ?_ | refine blk_alloc ?_ _));exact BK313.out⟩,⟨by repeat (first | (with_reducible first | exact HB.out | apply below_alloc | apply pw_below_drewN | apply below_drew1 | refine below_set ?_ GE312.out | refine below_set ?_ GE313.out) | exact HB.out)⟩⟩
    case rest =>
     clear HC37
     try clear c1
     try clear c2
     try clear p2
     try clear c3
     try clear c4
     try clear c6
     try clear c9
     try clear c16
     try clear c16b0
     try clear c16b1
     try clear c17
     try clear c17b0
     try clear c17b1
     try clear c18
     try clear c20
     try clear c21
     try clear c21b0
     try clear c21b1
     try clear c21b2
     try clear c23
     try clear c23b0
     try clear c23b1
     try clear c23b2
     try clear c26
     try clear c26b0
     try clear c26b1
     try clear c26b2
     try clear c30
     try clear c35
     try clear c38
     try clear c38b0
     try clear c38b1
     try clear c38b2
     try clear c42
     try clear hcz10_0
     try clear hcz10_1
     try clear hcz11_0
     try clear hcz11_1
     try clear hcz13_0
     try clear hcz13_1
     try clear hcz14_0
     try clear hcz14_1
     try clear hcz19_0
     try clear hcz19_1
     try clear hcz31_0
     try clear hcz31_1
     try clear hcz36_0
     try clear hcz36_1
     try clear hcz43_0
     try clear hcz43_1
     try clear hfz10_0
     try clear hfz10_1
     try clear hfz11_0
     try clear hfz11_1
     try clear hfz13_0
     try clear hfz13_1
     try clear hfz14_0
     try clear hfz14_1
     try clear hfz19_0
     try clear hfz19_1
     try clear hfz31_0
     try clear hfz31_1
     try clear hfz36_0
     try clear hfz36_1
     try clear hfz43_0
     try clear hfz43_1
     try clear p2
     obtain ⟨kq,x68_36,rfl,HA,HJ36,HO_7,HO_9,BK312,BK313,HB⟩:=hcut
     cases kq with
     | zero => exact absurd HA.out (by simp [beaconlaw08_PathsLimits.j1])
     | succ kj36 =>
      have H:=HA.out
      clear HA
      simp only [beaconlaw08_PathsLimits.j1] at H
      by_cases c47:x68_36 = true
      ·subst c47
       have H1:(some false) = some r:=by rw [if_pos rfl] at H;exact H
       clear H
       have H:=H1
       clear H1
       obtain rfl:=Option.some.inj H
       go_wp2
       repeat (go_quiet (fail);try go_wp2)
       go_ret
       exact ⟨by first | rfl | (simp [errW_none,errW_some] <;> rfl) | (simp [*,errW_none,errW_some] <;> rfl),by repeat (first | (with_reducible first | exact HB.out | apply below_alloc | apply pw_below_drewN | apply below_drew1 | refine below_set ?_ GE312.out | refine below_set ?_ GE313.out) | exact HB.out)⟩
      ·replace c47:=Bool.eq_false_iff.mpr c47
       subst c47
       have H1:(beaconlaw08_PathsLimits.l0 kj36 t314 t318 0 a1_0 a1_1) = some r:=by rw [if_neg (show ¬ (false = true) by decide)] at H;exact H
       clear H
       have H:=H1
       clear H1
       have H':=Aside0.mk H
       clear H
       go_wp2
       repeat (go_quiet (fail);try go_wp2)
       go_loopg [11] kj36 (fun kq v11 w' => ∃ (x11_3:Int),v11 = .int .i64 x11_3 ∧ Aside0 (beaconlaw08_PathsLimits.l0 kq t314 t318 x11_3 a1_0 a1_1 = some r) ∧ Aside0 (kq ≤ kj36) ∧ Aside0 (Kd.R Kd.float 26 w' w.heap.size (fun k_ => some k_ ≠ (v319:Value).ownBlock) v315 t314) ∧ Aside0 (Kd.R Kd.float 26 w' w.heap.size (fun k_ => some k_ ≠ (v315:Value).ownBlock) v319 t318) ∧ Aside0 (w'.heap[gb312]? = some (.cells #[(.slice A0_0 l0_0.length c0_0),(.slice A0_1 l0_1.length c0_1)] 25 (0,0))) ∧ Aside0 (w'.heap[gb313]? = some (.cells #[.float .f64 a1_0,.float .f64 a1_1] 41 (0,0))) ∧ Aside0 (Below w.heap.size w w'))
       case atStart => exact ⟨(0),(by first | rfl | (simp;done) | (simp [*];done)),H',⟨Nat.le_refl _⟩,⟨by (with_reducible repeat (first | apply Kd.R_alloc | apply Kd.R_drewN | apply Kd.R_drew));exact HO_7.out⟩,⟨by (with_reducible repeat (first | apply Kd.R_alloc | apply Kd.R_drewN | apply Kd.R_drew));exact HO_9.out⟩,⟨by (with_reducible repeat (first | refine blk_drewN ?_ _ | refine blk_drew ?_ | refine blk_alloc ?_ _));exact BK312.out⟩,⟨by (with_reducible repeat (first | refine blk_drewN ?_ _ | refine blk_drew ?_ | refine blk_alloc ?_ _));exact BK313.out⟩,⟨by repeat (first | (with_reducible first | exact HB.out | apply below_alloc | apply pw_below_drewN | apply below_drew1 | refine below_set ?_ GE312.out | refine below_set ?_ GE313.out) | exact HB.out)⟩⟩
       case round =>
        clear H'
        try clear c1
        try clear c2
        try clear p2
        try clear c3
        try clear c4
        try clear c6
        try clear c9
        try clear c16
        try clear c16b0
        try clear c16b1
        try clear c17
        try clear c17b0
        try clear c17b1
        try clear c18
        try clear c20
        try clear c21
        try clear c21b0
        try clear c21b1
        try clear c21b2
        try clear c23
        try clear c23b0
        try clear c23b1
        try clear c23b2
        try clear c26
        try clear c26b0
        try clear c26b1
        try clear c26b2
        try clear c30
        try clear c35
        try clear c38
        try clear c38b0
        try clear c38b1
        try clear c38b2
        try clear c42
        try clear c47
        try clear hcz10_0
        try clear hcz10_1
        try clear hcz11_0
        try clear hcz11_1
        try clear hcz13_0
        try clear hcz13_1
        try clear hcz14_0
        try clear hcz14_1
        try clear hcz19_0
        try clear hcz19_1
        try clear hcz31_0
        try clear hcz31_1
        try clear hcz36_0
        try clear hcz36_1
        try clear hcz43_0
        try clear hcz43_1
        try clear hfz10_0
        try clear hfz10_1
        try clear hfz11_0
        try clear hfz11_1
        try clear hfz13_0
        try clear hfz13_1
        try clear hfz14_0
        try clear hfz14_1
        try clear hfz19_0
        try clear hfz19_1
        try clear hfz31_0
        try clear hfz31_1
        try clear hfz36_0
        try clear hfz36_1
        try clear hfz43_0
        try clear hfz43_1
        try clear p2
        obtain ⟨x11_3,rfl,HA,HK3,HO_7,HO_9,BK312,BK313,HB⟩:=hrel
        cases gk with
        | zero => exact absurd HA.out (by simp [beaconlaw08_PathsLimits.l0])
        | succ k3 =>
         have H:=HA.out
         clear HA
         simp only [beaconlaw08_PathsLimits.l0] at H
         by_cases c48:x11_3 < (t314.length:Int)
         ·rw [if_pos c48] at H
          have c48b0:decide (x11_3 < (t314.length:Int)) = true:=decide_eq_true c48
          clear c48
          have HC49:=Aside0.mk H
          clear H
          obtain ⟨Ao50,co50,eo50⟩:=Kd.R_slice HO_7.out
          subst eo50
          go_upto_region 10 with (fail)
          repeat (go_quiet (fail);go_upto_region 10 with (fail))
          go_cut [91] (fun v91 wc => ∃ (kq:Nat) (x91_48:Bool),v91 = .bool x91_48 ∧ Aside0 (beaconlaw08_PathsLimits.j3 kq t314 t318 x11_3 x91_48 a1_0 a1_1 = some r) ∧ Aside0 (kq ≤ k3) ∧ Aside0 (Kd.R Kd.float 26 wc w.heap.size (fun k_ => some k_ ≠ (v319:Value).ownBlock) (.slice Ao50 t314.length co50) t314) ∧ Aside0 (Kd.R Kd.float 26 wc w.heap.size (fun k_ => some k_ ≠ ((.slice Ao50 t314.length co50):Value).ownBlock) v319 t318) ∧ Aside0 (wc.heap[gb312]? = some (.cells #[(.slice A0_0 l0_0.length c0_0),(.slice A0_1 l0_1.length c0_1)] 25 (0,0))) ∧ Aside0 (wc.heap[gb313]? = some (.cells #[.float .f64 a1_0,.float .f64 a1_1] 41 (0,0))) ∧ Aside0 (Below w.heap.size w wc))
          case first =>
           have H:=HC49.out
           clear HC49
           by_cases c51:0 ≤ x11_3
           ·rw [if_pos c51] at H
            have c51b0:decide (0 ≤ x11_3) = true:=decide_eq_true c51
            clear c51
            (first | rw [c51b0] | (simp only [i64_w,i32_w];rw [c51b0]) | skip)
            replace H:=Option.bind_eq_some_iff.mp H
            obtain ⟨t326,A520,H⟩:=H
            replace H:(if t326 = true then (beaconlaw08_PathsLimits.j3 k3 t314 t318 x11_3 false a1_0 a1_1) else (if x11_3 < (t318.length:Int) then (beaconlaw08_PathsLimits.j3 k3 t314 t318 x11_3 (FloatKind.f64.format.order (rdOf (0:Nat) t314 x11_3) (rdOf (0:Nat) t318 x11_3) != some .eq) a1_0 a1_1) else (none))) = some r:=H
            have A52:=Aside0.mk A520
            clear A520
            by_cases c53:t326 = true
            ·subst c53
             have H1:(beaconlaw08_PathsLimits.j3 k3 t314 t318 x11_3 false a1_0 a1_1) = some r:=by rw [if_pos rfl] at H;exact H
             clear H
             have H:=H1
             clear H1
             have H':=Aside0.mk H
             clear H
             have p325:0 ≤ (x11_3:Int):=of_decide_eq_true (by first | (with_reducible assumption) | assumption)
             have q325:x11_3 < (t314.length:Int):=of_decide_eq_true (by first | (with_reducible assumption) | assumption)
             obtain ⟨ad325,e325,hx325_0⟩:=Kd.at_float (Kd.R_reads' HO_7.out).2.2 x11_3 p325 q325
             cases e325
             replace p325:=eq_true p325
             replace q325:=eq_true q325
             go_wp2_with (first | (go_at_call 20;(with_reducible refine (math_IsInf.calls (rdOf (0:Nat) t314 x11_3) 1 true _ A52.out).mono ?_);rintro e w' ⟨rfl,⟨nd,rfl⟩⟩;(try first | exact ⟨rfl,_,World.drewN_drewN _ _ _⟩ | exact ⟨rfl,_,Eq.trans (World.drewN_drewN _ _ _) (congrArg (World.drewN _) (Nat.add_assoc _ _ _))⟩)))
             repeat (go_quiet (first | (go_at_call 20;(with_reducible refine (math_IsInf.calls (rdOf (0:Nat) t314 x11_3) 1 true _ A52.out).mono ?_);rintro e w' ⟨rfl,⟨nd,rfl⟩⟩;(try first | exact ⟨rfl,_,World.drewN_drewN _ _ _⟩ | exact ⟨rfl,_,Eq.trans (World.drewN_drewN _ _ _) (congrArg (World.drewN _) (Nat.add_assoc _ _ _))⟩)));try go_wp2_with (first | (go_at_call 20;(with_reducible refine (math_IsInf.calls (rdOf (0:Nat) t314 x11_3) 1 true _ A52.out).mono ?_);rintro e w' ⟨rfl,⟨nd,rfl⟩⟩;(try first | exact ⟨rfl,_,World.drewN_drewN _ _ _⟩ | exact ⟨rfl,_,Eq.trans (World.drewN_drewN _ _ _) (congrArg (World.drewN _) (Nat.add_assoc _ _ _))⟩))))
             go_meet
             case rel => exact ⟨_,(false),(by first | rfl | (simp;done) | (simp [*];done)),H',⟨by have:=HJ5.out;have:=HJ36.out;have:=HK3.out;first | omega | exact Nat.le_refl _⟩,⟨by (with_reducible repeat (first | apply Kd.R_alloc | apply Kd.R_drewN | apply Kd.R_drew));exact HO_7.out⟩,⟨by (with_reducible repeat (first | apply Kd.R_alloc | apply Kd.R_drewN | apply Kd.R_drew));exact HO_9.out⟩,⟨by (with_reducible repeat (first | refine blk_drewN ?_ _ | refine blk_drew ?_ | refine blk_alloc ?_ _));exact BK312.out⟩,⟨by (with_reducible repeat (first | refine blk_drewN ?_ _ | refine blk_drew ?_ | refine blk_alloc ?_ _));exact BK313.out⟩,⟨by repeat (first | (with_reducible first | exact HB.out | apply below_alloc | apply pw_below_drewN | apply below_drew1 | refine below_set ?_ GE312.out | refine below_set ?_ GE313.out) | exact HB.out)⟩⟩
            ·replace c53:=Bool.eq_false_iff.mpr c53
             subst c53
             have H1:(if x11_3 < (t318.length:Int) then (beaconlaw08_PathsLimits.j3 k3 t314 t318 x11_3 (FloatKind.f64.format.order (rdOf (0:Nat) t314 x11_3) (rdOf (0:Nat) t318 x11_3) != some .eq) a1_0 a1_1) else (none)) = some r:=by rw [if_neg (show ¬ (false = true) by decide)] at H;exact H
             clear H
             have H:=H1
             clear H1
             by_cases c54:x11_3 < (t318.length:Int)
             ·rw [if_pos c54] at H
              have c54b0:decide (x11_3 < (t318.length:Int)) = true:=decide_eq_true c54
              clear c54
              have H':=Aside0.mk H
              clear H
              have p325:0 ≤ (x11_3:Int):=of_decide_eq_true (by first | (with_reducible assumption) | assumption)
              have q325:x11_3 < (t314.length:Int):=of_decide_eq_true (by first | (with_reducible assumption) | assumption)
              obtain ⟨ad325,e325,hx325_0⟩:=Kd.at_float (Kd.R_reads' HO_7.out).2.2 x11_3 p325 q325
              cases e325
              replace p325:=eq_true p325
              replace q325:=eq_true q325
              go_wp2_with (first | (go_at_call 20;(with_reducible refine (math_IsInf.calls (rdOf (0:Nat) t314 x11_3) 1 false _ A52.out).mono ?_);rintro e w' ⟨rfl,⟨nd,rfl⟩⟩;(try first | exact ⟨rfl,_,World.drewN_drewN _ _ _⟩ | exact ⟨rfl,_,Eq.trans (World.drewN_drewN _ _ _) (congrArg (World.drewN _) (Nat.add_assoc _ _ _))⟩);have p327:0 ≤ (x11_3:Int):=of_decide_eq_true (by first | (with_reducible assumption) | assumption);have q327:x11_3 < (t314.length:Int):=of_decide_eq_true (by first | (with_reducible assumption) | assumption);obtain ⟨ad327,e327,hx327_0⟩:=Kd.at_float (Kd.R_reads' HO_7.out).2.2 x11_3 p327 q327;obtain rfl:ad325 = ad327:=(by injection e327);replace p327:=eq_true p327;replace q327:=eq_true q327;obtain ⟨Ao55,co55,eo55⟩:=Kd.R_slice HO_9.out;subst eo55;have p328:0 ≤ (x11_3:Int):=of_decide_eq_true (by first | (with_reducible assumption) | assumption);have q328:x11_3 < (t318.length:Int):=of_decide_eq_true (by first | (with_reducible assumption) | assumption);obtain ⟨ad328,e328,hx328_0⟩:=Kd.at_float (Kd.R_reads' HO_9.out).2.2 x11_3 p328 q328;cases e328;replace p328:=eq_true p328;replace q328:=eq_true q328))
              repeat (go_quiet (first | (go_at_call 20;(with_reducible refine (math_IsInf.calls (rdOf (0:Nat) t314 x11_3) 1 false _ A52.out).mono ?_);rintro e w' ⟨rfl,⟨nd,rfl⟩⟩;(try first | exact ⟨rfl,_,World.drewN_drewN _ _ _⟩ | exact ⟨rfl,_,Eq.trans (World.drewN_drewN _ _ _) (congrArg (World.drewN _) (Nat.add_assoc _ _ _))⟩);have p327:0 ≤ (x11_3:Int):=of_decide_eq_true (by first | (with_reducible assumption) | assumption);have q327:x11_3 < (t314.length:Int):=of_decide_eq_true (by first | (with_reducible assumption) | assumption);obtain ⟨ad327,e327,hx327_0⟩:=Kd.at_float (Kd.R_reads' HO_7.out).2.2 x11_3 p327 q327;obtain rfl:ad325 = ad327:=(by injection e327);replace p327:=eq_true p327;replace q327:=eq_true q327;obtain ⟨Ao55,co55,eo55⟩:=Kd.R_slice HO_9.out;subst eo55;have p328:0 ≤ (x11_3:Int):=of_decide_eq_true (by first | (with_reducible assumption) | assumption);have q328:x11_3 < (t318.length:Int):=of_decide_eq_true (by first | (with_reducible assumption) | assumption);obtain ⟨ad328,e328,hx328_0⟩:=Kd.at_float (Kd.R_reads' HO_9.out).2.2 x11_3 p328 q328;cases e328;replace p328:=eq_true p328;replace q328:=eq_true q328));try go_wp2_with (first | (go_at_call 20;(with_reducible refine (math_IsInf.calls (rdOf (0:Nat) t314 x11_3) 1 false _ A52.out).mono ?_);rintro e w' ⟨rfl,⟨nd,rfl⟩⟩;(try first | exact ⟨rfl,_,World.drewN_drewN _ _ _⟩ | exact ⟨rfl,_,Eq.trans (World.drewN_drewN _ _ _) (congrArg (World.drewN _) (Nat.add_assoc _ _ _))⟩);have p327:0 ≤ (x11_3:Int):=of_decide_eq_true (by first | (with_reducible assumption) | assumption);have q327:x11_3 < (t314.length:Int):=of_decide_eq_true (by first | (with_reducible assumption) | assumption);obtain ⟨ad327,e327,hx327_0⟩:=Kd.at_float (Kd.R_reads' HO_7.out).2.2 x11_3 p327 q327;obtain rfl:ad325 = ad327:=(by injection e327);replace p327:=eq_true p327;replace q327:=eq_true q327;obtain ⟨Ao55,co55,eo55⟩:=Kd.R_slice HO_9.out;subst eo55;have p328:0 ≤ (x11_3:Int):=of_decide_eq_true (by first | (with_reducible assumption) | assumption);have q328:x11_3 < (t318.length:Int):=of_decide_eq_true (by first | (with_reducible assumption) | assumption);obtain ⟨ad328,e328,hx328_0⟩:=Kd.at_float (Kd.R_reads' HO_9.out).2.2 x11_3 p328 q328;cases e328;replace p328:=eq_true p328;replace q328:=eq_true q328)))
              go_meet
              case rel => exact ⟨_,((FloatKind.f64.format.order (rdOf (0:Nat) t314 x11_3) (rdOf (0:Nat) t318 x11_3) != some .eq)),(by first | rfl | (simp;done) | (simp [*];done)),H',⟨by have:=HJ5.out;have:=HJ36.out;have:=HK3.out;first | omega | exact Nat.le_refl _⟩,⟨by (with_reducible repeat (first | apply Kd.R_alloc | apply Kd.R_drewN | apply Kd.R_drew));exact HO_7.out⟩,⟨by (with_reducible repeat (first | apply Kd.R_alloc | apply Kd.R_drewN | apply Kd.R_drew));exact HO_9.out⟩,⟨by (with_reducible repeat (first | refine blk_drewN ?_ _ | refine blk_drew ?_ | refine blk_alloc ?_ _));exact BK312.out⟩,⟨by (with_reducible repeat (first | refine blk_drewN ?_ _ | refine blk_drew ?_ | refine blk_alloc ?_ _));exact BK313.out⟩,⟨by repeat (first | (with_reducible first | exact HB.out | apply below_alloc | apply pw_below_drewN | apply below_drew1 | refine below_set ?_ GE312.out | refine below_set ?_ GE313.out) | exact HB.out)⟩⟩
             ·rw [if_neg c54] at H
              exact absurd H (by simp)
           ·rw [if_neg c51] at H
            exact absurd H (by simp)
          case rest =>
           clear HC49
           try clear c1
           try clear c2
           try clear p2
           try clear c3
           try clear p3
           try clear q3
           try clear hx3
           try clear c4
           try clear c5
           try clear c6
           try clear c9
           try clear c16
           try clear c16b0
           try clear c16b1
           try clear c17
           try clear c17b0
           try clear c17b1
           try clear c18
           try clear c20
           try clear c21
           try clear c21b0
           try clear c21b1
           try clear c21b2
           try clear c23
           try clear c23b0
           try clear c23b1
           try clear c23b2
           try clear c26
           try clear c26b0
           try clear c26b1
           try clear c26b2
           try clear c30
           try clear p32
           try clear q32
           try clear hx32
           try clear c35
           try clear c38
           try clear c38b0
           try clear c38b1
           try clear c38b2
           try clear c42
           try clear c47
           try clear c48
           try clear c48b0
           try clear c51
           try clear c51b0
           try clear c53
           try clear c54
           try clear c54b0
           try clear hcz10_0
           try clear hcz10_1
           try clear hcz11_0
           try clear hcz11_1
           try clear hcz13_0
           try clear hcz13_1
           try clear hcz14_0
           try clear hcz14_1
           try clear hcz19_0
           try clear hcz19_1
           try clear hcz31_0
           try clear hcz31_1
           try clear hcz36_0
           try clear hcz36_1
           try clear hcz43_0
           try clear hcz43_1
           try clear hfz10_0
           try clear hfz10_1
           try clear hfz11_0
           try clear hfz11_1
           try clear hfz13_0
           try clear hfz13_1
           try clear hfz14_0
           try clear hfz14_1
           try clear hfz19_0
           try clear hfz19_1
           try clear hfz31_0
           try clear hfz31_1
           try clear hfz36_0
           try clear hfz36_1
           try clear hfz43_0
           try clear hfz43_1
           try clear hx325_0
           try clear hx327_0
           try clear hx328_0
           try clear p2
           try clear p325
           try clear p327
           try clear p328
           try clear q325
           try clear q327
           try clear q328
           obtain ⟨kq,x91_48,rfl,HA,HJ48,HO_7,HO_9,BK312,BK313,HB⟩:=hcut
           cases kq with
           | zero => exact absurd HA.out (by simp [beaconlaw08_PathsLimits.j3])
           | succ kj48 =>
            have H:=HA.out
            clear HA
            simp only [beaconlaw08_PathsLimits.j3] at H
            by_cases c56:x91_48 = true
            ·subst c56
             have H1:(some false) = some r:=by rw [if_pos rfl] at H;exact H
             clear H
             have H:=H1
             clear H1
             obtain rfl:=Option.some.inj H
             go_wp2
             repeat (go_quiet (fail);try go_wp2)
             go_ret
             exact ⟨by first | rfl | (simp [errW_none,errW_some] <;> rfl) | (simp [*,errW_none,errW_some] <;> rfl),by repeat (first | (with_reducible first | exact HB.out | apply below_alloc | apply pw_below_drewN | apply below_drew1 | refine below_set ?_ GE312.out | refine below_set ?_ GE313.out) | exact HB.out)⟩
            ·replace c56:=Bool.eq_false_iff.mpr c56
             subst c56
             have H1:(if 0 ≤ x11_3 then (if x11_3 < (t314.length:Int) then ((math_IsInf.f (rdOf (0:Nat) t314 x11_3) 1).bind fun t330 => (if t330 = true then (if x11_3 < (t318.length:Int) then ((math_IsInf.f (rdOf (0:Nat) t318 x11_3) 1).bind fun t332 => (if t332 = true then (beaconlaw08_PathsLimits.j4 kj48 t314 t318 x11_3 false a1_0 a1_1) else (beaconlaw08_PathsLimits.j4 kj48 t314 t318 x11_3 (FloatKind.f64.format.order (rdOf (0:Nat) t318 x11_3) a1_0 == some .lt) a1_0 a1_1))) else (none)) else (beaconlaw08_PathsLimits.j4 kj48 t314 t318 x11_3 false a1_0 a1_1))) else (none)) else (none)) = some r:=by rw [if_neg (show ¬ (false = true) by decide)] at H;exact H
             clear H
             have H:=H1
             clear H1
             have HC57:=Aside0.mk H
             clear H
             go_upto_region 12 with (fail)
             repeat (go_quiet (fail);go_upto_region 12 with (fail))
             go_cut [113] (fun v113 wc => ∃ (kq:Nat) (x113_56:Bool),v113 = .bool x113_56 ∧ Aside0 (beaconlaw08_PathsLimits.j4 kq t314 t318 x11_3 x113_56 a1_0 a1_1 = some r) ∧ Aside0 (kq ≤ kj48) ∧ Aside0 (Kd.R Kd.float 26 wc w.heap.size (fun k_ => some k_ ≠ (v319:Value).ownBlock) (.slice Ao50 t314.length co50) t314) ∧ Aside0 (Kd.R Kd.float 26 wc w.heap.size (fun k_ => some k_ ≠ ((.slice Ao50 t314.length co50):Value).ownBlock) v319 t318) ∧ Aside0 (wc.heap[gb312]? = some (.cells #[(.slice A0_0 l0_0.length c0_0),(.slice A0_1 l0_1.length c0_1)] 25 (0,0))) ∧ Aside0 (wc.heap[gb313]? = some (.cells #[.float .f64 a1_0,.float .f64 a1_1] 41 (0,0))) ∧ Aside0 (Below w.heap.size w wc))
             case first =>
              have H:=HC57.out
              clear HC57
              by_cases c58:0 ≤ x11_3
              ·rw [if_pos c58] at H
               have c58b0:decide (0 ≤ x11_3) = true:=decide_eq_true c58
               clear c58
               (first | rw [c58b0] | (simp only [i64_w,i32_w];rw [c58b0]) | skip)
               by_cases c59:x11_3 < (t314.length:Int)
               ·rw [if_pos c59] at H
                have c59b0:decide (x11_3 < (t314.length:Int)) = true:=decide_eq_true c59
                clear c59
                replace H:=Option.bind_eq_some_iff.mp H
                obtain ⟨t330,A600,H⟩:=H
                replace H:(if t330 = true then (if x11_3 < (t318.length:Int) then ((math_IsInf.f (rdOf (0:Nat) t318 x11_3) 1).bind fun t332 => (if t332 = true then (beaconlaw08_PathsLimits.j4 kj48 t314 t318 x11_3 false a1_0 a1_1) else (beaconlaw08_PathsLimits.j4 kj48 t314 t318 x11_3 (FloatKind.f64.format.order (rdOf (0:Nat) t318 x11_3) a1_0 == some .lt) a1_0 a1_1))) else (none)) else (beaconlaw08_PathsLimits.j4 kj48 t314 t318 x11_3 false a1_0 a1_1)) = some r:=H
                have A60:=Aside0.mk A600
                clear A600
                by_cases c61:t330 = true
                ·subst c61
                 have H1:(if x11_3 < (t318.length:Int) then ((math_IsInf.f (rdOf (0:Nat) t318 x11_3) 1).bind fun t332 => (if t332 = true then (beaconlaw08_PathsLimits.j4 kj48 t314 t318 x11_3 false a1_0 a1_1) else (beaconlaw08_PathsLimits.j4 kj48 t314 t318 x11_3 (FloatKind.f64.format.order (rdOf (0:Nat) t318 x11_3) a1_0 == some .lt) a1_0 a1_1))) else (none)) = some r:=by rw [if_pos rfl] at H;exact H
                 clear H
                 have H:=H1
                 clear H1
                 by_cases c62:x11_3 < (t318.length:Int)
                 ·rw [if_pos c62] at H
                  have c62b0:decide (x11_3 < (t318.length:Int)) = true:=decide_eq_true c62
                  clear c62
                  replace H:=Option.bind_eq_some_iff.mp H
                  obtain ⟨t332,A630,H⟩:=H
                  replace H:(if t332 = true then (beaconlaw08_PathsLimits.j4 kj48 t314 t318 x11_3 false a1_0 a1_1) else (beaconlaw08_PathsLimits.j4 kj48 t314 t318 x11_3 (FloatKind.f64.format.order (rdOf (0:Nat) t318 x11_3) a1_0 == some .lt) a1_0 a1_1)) = some r:=H
                  have A63:=Aside0.mk A630
                  clear A630
                  by_cases c64:t332 = true
                  ·subst c64
                   have H1:(beaconlaw08_PathsLimits.j4 kj48 t314 t318 x11_3 false a1_0 a1_1) = some r:=by rw [if_pos rfl] at H;exact H
                   clear H
                   have H:=H1
                   clear H1
                   have H':=Aside0.mk H
                   clear H
                   have p329:0 ≤ (x11_3:Int):=of_decide_eq_true (by first | (with_reducible assumption) | assumption)
                   have q329:x11_3 < (t314.length:Int):=of_decide_eq_true (by first | (with_reducible assumption) | assumption)
                   obtain ⟨ad329,e329,hx329_0⟩:=Kd.at_float (Kd.R_reads' HO_7.out).2.2 x11_3 p329 q329
                   cases e329
                   replace p329:=eq_true p329
                   replace q329:=eq_true q329
                   go_wp2_with (first | (go_at_call 20;(with_reducible refine (math_IsInf.calls (rdOf (0:Nat) t314 x11_3) 1 true _ A60.out).mono ?_);rintro e w' ⟨rfl,⟨nd,rfl⟩⟩;(try first | exact ⟨rfl,_,World.drewN_drewN _ _ _⟩ | exact ⟨rfl,_,Eq.trans (World.drewN_drewN _ _ _) (congrArg (World.drewN _) (Nat.add_assoc _ _ _))⟩);obtain ⟨Ao65,co65,eo65⟩:=Kd.R_slice HO_9.out;subst eo65;have p331:0 ≤ (x11_3:Int):=of_decide_eq_true (by first | (with_reducible assumption) | assumption);have q331:x11_3 < (t318.length:Int):=of_decide_eq_true (by first | (with_reducible assumption) | assumption);obtain ⟨ad331,e331,hx331_0⟩:=Kd.at_float (Kd.R_reads' HO_9.out).2.2 x11_3 p331 q331;cases e331;replace p331:=eq_true p331;replace q331:=eq_true q331) | (go_at_call 20;(with_reducible refine (math_IsInf.calls (rdOf (0:Nat) t318 x11_3) 1 true _ A63.out).mono ?_);rintro e w' ⟨rfl,⟨nd,rfl⟩⟩;(try first | exact ⟨rfl,_,World.drewN_drewN _ _ _⟩ | exact ⟨rfl,_,Eq.trans (World.drewN_drewN _ _ _) (congrArg (World.drewN _) (Nat.add_assoc _ _ _))⟩)))
                   repeat (go_quiet (first | (go_at_call 20;(with_reducible refine (math_IsInf.calls (rdOf (0:Nat) t314 x11_3) 1 true _ A60.out).mono ?_);rintro e w' ⟨rfl,⟨nd,rfl⟩⟩;(try first | exact ⟨rfl,_,World.drewN_drewN _ _ _⟩ | exact ⟨rfl,_,Eq.trans (World.drewN_drewN _ _ _) (congrArg (World.drewN _) (Nat.add_assoc _ _ _))⟩);obtain ⟨Ao65,co65,eo65⟩:=Kd.R_slice HO_9.out;subst eo65;have p331:0 ≤ (x11_3:Int):=of_decide_eq_true (by first | (with_reducible assumption) | assumption);have q331:x11_3 < (t318.length:Int):=of_decide_eq_true (by first | (with_reducible assumption) | assumption);obtain ⟨ad331,e331,hx331_0⟩:=Kd.at_float (Kd.R_reads' HO_9.out).2.2 x11_3 p331 q331;cases e331;replace p331:=eq_true p331;replace q331:=eq_true q331) | (go_at_call 20;(with_reducible refine (math_IsInf.calls (rdOf (0:Nat) t318 x11_3) 1 true _ A63.out).mono ?_);rintro e w' ⟨rfl,⟨nd,rfl⟩⟩;(try first | exact ⟨rfl,_,World.drewN_drewN _ _ _⟩ | exact ⟨rfl,_,Eq.trans (World.drewN_drewN _ _ _) (congrArg (World.drewN _) (Nat.add_assoc _ _ _))⟩)));try go_wp2_with (first | (go_at_call 20;(with_reducible refine (math_IsInf.calls (rdOf (0:Nat) t314 x11_3) 1 true _ A60.out).mono ?_);rintro e w' ⟨rfl,⟨nd,rfl⟩⟩;(try first | exact ⟨rfl,_,World.drewN_drewN _ _ _⟩ | exact ⟨rfl,_,Eq.trans (World.drewN_drewN _ _ _) (congrArg (World.drewN _) (Nat.add_assoc _ _ _))⟩);obtain ⟨Ao65,co65,eo65⟩:=Kd.R_slice HO_9.out;subst eo65;have p331:0 ≤ (x11_3:Int):=of_decide_eq_true (by first | (with_reducible assumption) | assumption);have q331:x11_3 < (t318.length:Int):=of_decide_eq_true (by first | (with_reducible assumption) | assumption);obtain ⟨ad331,e331,hx331_0⟩:=Kd.at_float (Kd.R_reads' HO_9.out).2.2 x11_3 p331 q331;cases e331;replace p331:=eq_true p331;replace q331:=eq_true q331) | (go_at_call 20;(with_reducible refine (math_IsInf.calls (rdOf (0:Nat) t318 x11_3) 1 true _ A63.out).mono ?_);rintro e w' ⟨rfl,⟨nd,rfl⟩⟩;(try first | exact ⟨rfl,_,World.drewN_drewN _ _ _⟩ | exact ⟨rfl,_,Eq.trans (World.drewN_drewN _ _ _) (congrArg (World.drewN _) (Nat.add_assoc _ _ _))⟩))))
                   go_meet
                   case rel => exact ⟨_,(false),(by first | rfl | (simp;done) | (simp [*];done)),H',⟨by have:=HJ5.out;have:=HJ36.out;have:=HK3.out;have:=HJ48.out;first | omega | exact Nat.le_refl _⟩,⟨by (with_reducible repeat (first | apply Kd.R_alloc | apply Kd.R_drewN | apply Kd.R_drew));exact HO_7.out⟩,⟨by (with_reducible repeat (first | apply Kd.R_alloc | apply Kd.R_drewN | apply Kd.R_drew));exact HO_9.out⟩,⟨by (with_reducible repeat (first | refine blk_drewN ?_ _ | refine blk_drew ?_ | refine blk_alloc ?_ _));exact BK312.out⟩,⟨by (with_reducible repeat (first | refine blk_drewN ?_ _ | refine blk_drew ?_ | refine blk_alloc ?_ _));exact BK313.out⟩,⟨by repeat (first | (with_reducible first | exact HB.out | apply below_alloc | apply pw_below_drewN | apply below_drew1 | refine below_set ?_ GE312.out | refine below_set ?_ GE313.out) | exact HB.out)⟩⟩
                  ·replace c64:=Bool.eq_false_iff.mpr c64
                   subst c64
                   have H1:(beaconlaw08_PathsLimits.j4 kj48 t314 t318 x11_3 (FloatKind.f64.format.order (rdOf (0:Nat) t318 x11_3) a1_0 == some .lt) a1_0 a1_1) = some r:=by rw [if_neg (show ¬ (false = true) by decide)] at H;exact H
                   clear H
                   have H:=H1
                   clear H1
                   have H':=Aside0.mk H
                   clear H
                   have p329:0 ≤ (x11_3:Int):=of_decide_eq_true (by first | (with_reducible assumption) | assumption)
                   have q329:x11_3 < (t314.length:Int):=of_decide_eq_true (by first | (with_reducible assumption) | assumption)
                   obtain ⟨ad329,e329,hx329_0⟩:=Kd.at_float (Kd.R_reads' HO_7.out).2.2 x11_3 p329 q329
                   cases e329
                   replace p329:=eq_true p329
                   replace q329:=eq_true q329
                   go_wp2_with (first | (go_at_call 20;(with_reducible refine (math_IsInf.calls (rdOf (0:Nat) t314 x11_3) 1 true _ A60.out).mono ?_);rintro e w' ⟨rfl,⟨nd,rfl⟩⟩;(try first | exact ⟨rfl,_,World.drewN_drewN _ _ _⟩ | exact ⟨rfl,_,Eq.trans (World.drewN_drewN _ _ _) (congrArg (World.drewN _) (Nat.add_assoc _ _ _))⟩);obtain ⟨Ao66,co66,eo66⟩:=Kd.R_slice HO_9.out;subst eo66;have p331:0 ≤ (x11_3:Int):=of_decide_eq_true (by first | (with_reducible assumption) | assumption);have q331:x11_3 < (t318.length:Int):=of_decide_eq_true (by first | (with_reducible assumption) | assumption);obtain ⟨ad331,e331,hx331_0⟩:=Kd.at_float (Kd.R_reads' HO_9.out).2.2 x11_3 p331 q331;cases e331;replace p331:=eq_true p331;replace q331:=eq_true q331) | (go_at_call 20;(with_reducible refine (math_IsInf.calls (rdOf (0:Nat) t318 x11_3) 1 false _ A63.out).mono ?_);rintro e w' ⟨rfl,⟨nd,rfl⟩⟩;(try first | exact ⟨rfl,_,World.drewN_drewN _ _ _⟩ | exact ⟨rfl,_,Eq.trans (World.drewN_drewN _ _ _) (congrArg (World.drewN _) (Nat.add_assoc _ _ _))⟩);have p333:0 ≤ (x11_3:Int):=of_decide_eq_true (by first | (with_reducible assumption) | assumption);have q333:x11_3 < (t318.length:Int):=of_decide_eq_true (by first | (with_reducible assumption) | assumption);obtain ⟨ad333,e333,hx333_0⟩:=Kd.at_float (Kd.R_reads' HO_9.out).2.2 x11_3 p333 q333;obtain rfl:ad331 = ad333:=(by injection e333);replace p333:=eq_true p333;replace q333:=eq_true q333;have hnb67:=NB313_312.out;have hnc67:=NB312_313.out;have hcz68_0:wc.cell? ⟨gb313,0,none⟩ = some (.float .f64 a1_0):=(blk_cell BK313.out 0).trans rfl;have hcz68_1:wc.cell? ⟨gb313,1,none⟩ = some (.float .f64 a1_1):=(blk_cell BK313.out 1).trans rfl;have hfz68_0:=blk_frozen BK313.out 0;have hfz68_1:=blk_frozen BK313.out 1))
                   repeat (go_quiet (first | (go_at_call 20;(with_reducible refine (math_IsInf.calls (rdOf (0:Nat) t314 x11_3) 1 true _ A60.out).mono ?_);rintro e w' ⟨rfl,⟨nd,rfl⟩⟩;(try first | exact ⟨rfl,_,World.drewN_drewN _ _ _⟩ | exact ⟨rfl,_,Eq.trans (World.drewN_drewN _ _ _) (congrArg (World.drewN _) (Nat.add_assoc _ _ _))⟩);obtain ⟨Ao66,co66,eo66⟩:=Kd.R_slice HO_9.out;subst eo66;have p331:0 ≤ (x11_3:Int):=of_decide_eq_true (by first | (with_reducible assumption) | assumption);have q331:x11_3 < (t318.length:Int):=of_decide_eq_true (by first | (with_reducible assumption) | assumption);obtain ⟨ad331,e331,hx331_0⟩:=Kd.at_float (Kd.R_reads' HO_9.out).2.2 x11_3 p331 q331;cases e331;replace p331:=eq_true p331;replace q331:=eq_true q331) | (go_at_call 20;(with_reducible refine (math_IsInf.calls (rdOf (0:Nat) t318 x11_3) 1 false _ A63.out).mono ?_);rintro e w' ⟨rfl,⟨nd,rfl⟩⟩;(try first | exact ⟨rfl,_,World.drewN_drewN _ _ _⟩ | exact ⟨rfl,_,Eq.trans (World.drewN_drewN _ _ _) (congrArg (World.drewN _) (Nat.add_assoc _ _ _))⟩);have p333:0 ≤ (x11_3:Int):=of_decide_eq_true (by first | (with_reducible assumption) | assumption);have q333:x11_3 < (t318.length:Int):=of_decide_eq_true (by first | (with_reducible assumption) | assumption);obtain ⟨ad333,e333,hx333_0⟩:=Kd.at_float (Kd.R_reads' HO_9.out).2.2 x11_3 p333 q333;obtain rfl:ad331 = ad333:=(by injection e333);replace p333:=eq_true p333;replace q333:=eq_true q333;have hnb67:=NB313_312.out;have hnc67:=NB312_313.out;have hcz68_0:wc.cell? ⟨gb313,0,none⟩ = some (.float .f64 a1_0):=(blk_cell BK313.out 0).trans rfl;have hcz68_1:wc.cell? ⟨gb313,1,none⟩ = some (.float .f64 a1_1):=(blk_cell BK313.out 1).trans rfl;have hfz68_0:=blk_frozen BK313.out 0;have hfz68_1:=blk_frozen BK313.out 1));try go_wp2_with (first | (go_at_call 20;(with_reducible refine (math_IsInf.calls (rdOf (0:Nat) t314 x11_3) 1 true _ A60.out).mono ?_);rintro e w' ⟨rfl,⟨nd,rfl⟩⟩;(try first | exact ⟨rfl,_,World.drewN_drewN _ _ _⟩ | exact ⟨rfl,_,Eq.trans (World.drewN_drewN _ _ _) (congrArg (World.drewN _) (Nat.add_assoc _ _ _))⟩);obtain ⟨Ao66,co66,eo66⟩:=Kd.R_slice HO_9.out;subst eo66;have p331:0 ≤ (x11_3:Int):=of_decide_eq_true (by first | (with_reducible assumption) | assumption);have q331:x11_3 < (t318.length:Int):=of_decide_eq_true (by first | (with_reducible assumption) | assumption);obtain ⟨ad331,e331,hx331_0⟩:=Kd.at_float (Kd.R_reads' HO_9.out).2.2 x11_3 p331 q331;cases e331;replace p331:=eq_true p331;replace q331:=eq_true q331) | (go_at_call 20;(with_reducible refine (math_IsInf.calls (rdOf (0:Nat) t318 x11_3) 1 false _ A63.out).mono ?_);rintro e w' ⟨rfl,⟨nd,rfl⟩⟩;(try first | exact ⟨rfl,_,World.drewN_drewN _ _ _⟩ | exact ⟨rfl,_,Eq.trans (World.drewN_drewN _ _ _) (congrArg (World.drewN _) (Nat.add_assoc _ _ _))⟩);have p333:0 ≤ (x11_3:Int):=of_decide_eq_true (by first | (with_reducible assumption) | assumption);have q333:x11_3 < (t318.length:Int):=of_decide_eq_true (by first | (with_reducible assumption) | assumption);obtain ⟨ad333,e333,hx333_0⟩:=Kd.at_float (Kd.R_reads' HO_9.out).2.2 x11_3 p333 q333;obtain rfl:ad331 = ad333:=(by injection e333);replace p333:=eq_true p333;replace q333:=eq_true q333;have hnb67:=NB313_312.out;have hnc67:=NB312_313.out;have hcz68_0:wc.cell? ⟨gb313,0,none⟩ = some (.float .f64 a1_0):=(blk_cell BK313.out 0).trans rfl;have hcz68_1:wc.cell? ⟨gb313,1,none⟩ = some (.float .f64 a1_1):=(blk_cell BK313.out 1).trans rfl;have hfz68_0:=blk_frozen BK313.out 0;have hfz68_1:=blk_frozen BK313.out 1)))
                   go_meet
                   case rel => exact ⟨_,((FloatKind.f64.format.order (rdOf (0:Nat) t318 x11_3) a1_0 == some .lt)),(by first | rfl | (simp;done) | (simp [*];done)),H',⟨by have:=HJ5.out;have:=HJ36.out;have:=HK3.out;have:=HJ48.out;first | omega | exact Nat.le_refl _⟩,⟨by (with_reducible repeat (first | apply Kd.R_alloc | apply Kd.R_drewN | apply Kd.R_drew));exact HO_7.out⟩,⟨by (with_reducible repeat (first | apply Kd.R_alloc | apply Kd.R_drewN | apply Kd.R_drew));exact HO_9.out⟩,⟨by (with_reducible repeat (first | refine blk_drewN ?_ _ | refine blk_drew ?_ | refine blk_alloc ?_ _));exact BK312.out⟩,⟨by (with_reducible repeat (first | refine blk_drewN ?_ _ | refine blk_drew ?_ | refine blk_alloc ?_ _));exact BK313.out⟩,⟨by repeat (first | (with_reducible first | exact HB.out | apply below_alloc | apply pw_below_drewN | apply below_drew1 | refine below_set ?_ GE312.out | refine below_set ?_ GE313.out) | exact HB.out)⟩⟩
                 ·rw [if_neg c62] at H
                  exact absurd H (by simp)
                ·replace c61:=Bool.eq_false_iff.mpr c61
                 subst c61
                 have H1:(beaconlaw08_PathsLimits.j4 kj48 t314 t318 x11_3 false a1_0 a1_1) = some r:=by rw [if_neg (show ¬ (false = true) by decide)] at H;exact H
                 clear H
                 have H:=H1
                 clear H1
                 have H':=Aside0.mk H
                 clear H
                 have p329:0 ≤ (x11_3:Int):=of_decide_eq_true (by first | (with_reducible assumption) | assumption)
                 have q329:x11_3 < (t314.length:Int):=of_decide_eq_true (by first | (with_reducible assumption) | assumption)
                 obtain ⟨ad329,e329,hx329_0⟩:=Kd.at_float (Kd.R_reads' HO_7.out).2.2 x11_3 p329 q329
                 cases e329
                 replace p329:=eq_true p329
                 replace q329:=eq_true q329
                 go_wp2_with (first | (go_at_call 20;(with_reducible refine (math_IsInf.calls (rdOf (0:Nat) t314 x11_3) 1 false _ A60.out).mono ?_);rintro e w' ⟨rfl,⟨nd,rfl⟩⟩;(try first | exact ⟨rfl,_,World.drewN_drewN _ _ _⟩ | exact ⟨rfl,_,Eq.trans (World.drewN_drewN _ _ _) (congrArg (World.drewN _) (Nat.add_assoc _ _ _))⟩)))
                 repeat (go_quiet (first | (go_at_call 20;(with_reducible refine (math_IsInf.calls (rdOf (0:Nat) t314 x11_3) 1 false _ A60.out).mono ?_);rintro e w' ⟨rfl,⟨nd,rfl⟩⟩;(try first | exact ⟨rfl,_,World.drewN_drewN _ _ _⟩ | exact ⟨rfl,_,Eq.trans (World.drewN_drewN _ _ _) (congrArg (World.drewN _) (Nat.add_assoc _ _ _))⟩)));try go_wp2_with (first | (go_at_call 20;(with_reducible refine (math_IsInf.calls (rdOf (0:Nat) t314 x11_3) 1 false _ A60.out).mono ?_);rintro e w' ⟨rfl,⟨nd,rfl⟩⟩;(try first | exact ⟨rfl,_,World.drewN_drewN _ _ _⟩ | exact ⟨rfl,_,Eq.trans (World.drewN_drewN _ _ _) (congrArg (World.drewN _) (Nat.add_assoc _ _ _))⟩))))
                 go_meet
                 case rel => exact ⟨_,(false),(by first | rfl | (simp;done) | (simp [*];done)),H',⟨by have:=HJ5.out;have:=HJ36.out;have:=HK3.out;have:=HJ48.out;first | omega | exact Nat.le_refl _⟩,⟨by (with_reducible repeat (first | apply Kd.R_alloc | apply Kd.R_drewN | apply Kd.R_drew));exact HO_7.out⟩,⟨by (with_reducible repeat (first | apply Kd.R_alloc | apply Kd.R_drewN | apply Kd.R_drew));exact HO_9.out⟩,⟨by (with_reducible repeat (first | refine blk_drewN ?_ _ | refine blk_drew ?_ | refine blk_alloc ?_ _));exact BK312.out⟩,⟨by (with_reducible repeat (first | refine blk_drewN ?_ _ | refine blk_drew ?_ | refine blk_alloc ?_ _));exact BK313.out⟩,⟨by repeat (first | (with_reducible first | exact HB.out | apply below_alloc | apply pw_below_drewN | apply below_drew1 | refine below_set ?_ GE312.out | refine below_set ?_ GE313.out) | exact HB.out)⟩⟩
               ·rw [if_neg c59] at H
                exact absurd H (by simp)
              ·rw [if_neg c58] at H
               exact absurd H (by simp)
             case rest =>
              clear HC57
              try clear c1
              try clear c2
              try clear p2
              try clear c3
              try clear p3
              try clear q3
              try clear hx3
              try clear c4
              try clear c5
              try clear c6
              try clear c9
              try clear c16
              try clear c16b0
              try clear c16b1
              try clear c17
              try clear c17b0
              try clear c17b1
              try clear c18
              try clear c20
              try clear c21
              try clear c21b0
              try clear c21b1
              try clear c21b2
              try clear c23
              try clear c23b0
              try clear c23b1
              try clear c23b2
              try clear c26
              try clear c26b0
              try clear c26b1
              try clear c26b2
              try clear c30
              try clear p32
              try clear q32
              try clear hx32
              try clear p33
              try clear q33
              try clear hx33
              try clear c35
              try clear c38
              try clear c38b0
              try clear c38b1
              try clear c38b2
              try clear c42
              try clear c47
              try clear c48
              try clear c48b0
              try clear c51
              try clear c51b0
              try clear c53
              try clear c54
              try clear c54b0
              try clear c56
              try clear c58
              try clear c58b0
              try clear c59
              try clear c59b0
              try clear c61
              try clear c62
              try clear c62b0
              try clear c64
              try clear c67
              try clear hcz10_0
              try clear hcz10_1
              try clear hcz11_0
              try clear hcz11_1
              try clear hcz13_0
              try clear hcz13_1
              try clear hcz14_0
              try clear hcz14_1
              try clear hcz19_0
              try clear hcz19_1
              try clear hcz31_0
              try clear hcz31_1
              try clear hcz36_0
              try clear hcz36_1
              try clear hcz43_0
              try clear hcz43_1
              try clear hcz68_0
              try clear hcz68_1
              try clear hfz10_0
              try clear hfz10_1
              try clear hfz11_0
              try clear hfz11_1
              try clear hfz13_0
              try clear hfz13_1
              try clear hfz14_0
              try clear hfz14_1
              try clear hfz19_0
              try clear hfz19_1
              try clear hfz31_0
              try clear hfz31_1
              try clear hfz36_0
              try clear hfz36_1
              try clear hfz43_0
              try clear hfz43_1
              try clear hfz68_0
              try clear hfz68_1
              try clear hx325_0
              try clear hx327_0
              try clear hx328_0
              try clear hx329_0
              try clear hx331_0
              try clear hx333_0
              try clear p2
              try clear p3
              try clear p32
              try clear p325
              try clear p327
              try clear p328
              try clear p329
              try clear p331
              try clear p333
              try clear q3
              try clear q32
              try clear q325
              try clear q327
              try clear q328
              try clear q329
              try clear q331
              try clear q333
              obtain ⟨kq,x113_56,rfl,HA,HJ56,HO_7,HO_9,BK312,BK313,HB⟩:=hcut
              cases kq with
              | zero => exact absurd HA.out (by simp [beaconlaw08_PathsLimits.j4])
              | succ kj56 =>
               have H:=HA.out
               clear HA
               simp only [beaconlaw08_PathsLimits.j4] at H
               by_cases c69:x113_56 = true
               ·subst c69
                have H1:(some false) = some r:=by rw [if_pos rfl] at H;exact H
                clear H
                have H:=H1
                clear H1
                obtain rfl:=Option.some.inj H
                go_wp2
                repeat (go_quiet (fail);try go_wp2)
                go_ret
                exact ⟨by first | rfl | (simp [errW_none,errW_some] <;> rfl) | (simp [*,errW_none,errW_some] <;> rfl),by repeat (first | (with_reducible first | exact HB.out | apply below_alloc | apply pw_below_drewN | apply below_drew1 | refine below_set ?_ GE312.out | refine below_set ?_ GE313.out) | exact HB.out)⟩
               ·replace c69:=Bool.eq_false_iff.mpr c69
                subst c69
                have H1:(beaconlaw08_PathsLimits.l0 kj56 t314 t318 (wrap64 (x11_3 + 1)) a1_0 a1_1) = some r:=by rw [if_neg (show ¬ (false = true) by decide)] at H;exact H
                clear H
                have H:=H1
                clear H1
                have H':=Aside0.mk H
                clear H
                go_wp2
                repeat (go_quiet (fail);try go_wp2)
                go_roundg kj56
                case measure => have:=HJ5.out;have:=HJ36.out;have:=HK3.out;have:=HJ48.out;have:=HJ56.out;omega
                case rel => exact ⟨(wrap64 (x11_3 + 1)),(by first | rfl | (simp;done) | (simp [*];done)),H',⟨by have:=HJ5.out;have:=HJ36.out;have:=HK3.out;have:=HJ48.out;have:=HJ56.out;omega⟩,⟨by (with_reducible repeat (first | apply Kd.R_alloc | apply Kd.R_drewN | apply Kd.R_drew));exact HO_7.out⟩,⟨by (with_reducible repeat (first | apply Kd.R_alloc | apply Kd.R_drewN | apply Kd.R_drew));exact HO_9.out⟩,⟨by (with_reducible repeat (first | refine blk_drewN ?_ _ | refine blk_drew ?_ | refine blk_alloc ?_ _));exact BK312.out⟩,⟨by (with_reducible repeat (first | refine blk_drewN ?_ _ | refine blk_drew ?_ | refine blk_alloc ?_ _));exact BK313.out⟩,⟨by repeat (first | (with_reducible first | exact HB.out | apply below_alloc | apply pw_below_drewN | apply below_drew1 | refine below_set ?_ GE312.out | refine below_set ?_ GE313.out) | exact HB.out)⟩⟩
         ·rw [if_neg c48] at H
          have c48b0:decide (x11_3 < (t314.length:Int)) = false:=decide_eq_false c48
          clear c48
          replace H:=Option.bind_eq_some_iff.mp H
          obtain ⟨t324,A700,H⟩:=H
          replace H:(some t324) = some r:=H
          have A70:=Aside0.mk A700
          clear A700
          obtain rfl:=Option.some.inj H
          obtain ⟨Ao71,co71,eo71⟩:=Kd.R_slice HO_7.out
          subst eo71
          go_wp2_with (first | (go_at_call 14;(with_reducible refine (beaconlaw08_awake.calls  t324 _ A70.out).mono ?_);rintro e w72 ⟨rfl,hb⟩;have n0_:=Aside0.mk (Kd.R_below (by (with_reducible repeat (first | apply Kd.R_alloc | apply Kd.R_drewN | apply Kd.R_drew));exact HO_7.out) hb);have n1_:=Aside0.mk (Kd.R_below (by (with_reducible repeat (first | apply Kd.R_alloc | apply Kd.R_drewN | apply Kd.R_drew));exact HO_9.out) hb);have n2_:=Aside0.mk (blk_below (g:=gb312) (o:=.cells #[.slice A0_0 l0_0.length c0_0,.slice A0_1 l0_1.length c0_1] 25 (0,0)) (by (with_reducible repeat (first | refine blk_drewN ?_ _ | refine blk_drew ?_ | refine blk_alloc ?_ _));exact BK312.out) hb);have n3_:=Aside0.mk (blk_below (g:=gb313) (o:=.cells #[.float .f64 a1_0,.float .f64 a1_1] 41 (0,0)) (by (with_reducible repeat (first | refine blk_drewN ?_ _ | refine blk_drew ?_ | refine blk_alloc ?_ _));exact BK313.out) hb);have n4_:=Aside0.mk (below_step (by repeat (first | (with_reducible first | exact HB.out | apply below_alloc | apply pw_below_drewN | apply below_drew1 | refine below_set ?_ GE312.out | refine below_set ?_ GE313.out) | exact HB.out)) hb);clear HO_7;clear HO_9;clear BK312;clear BK313;clear HB;have HO_7:=n0_;have HO_9:=n1_;have BK312:=n2_;have BK313:=n3_;have HB:=n4_;clear n0_ n1_ n2_ n3_ n4_;(try clear hb);(try clear hb2);(try clear hk);(try clear hi)))
          repeat (go_quiet (first | (go_at_call 14;(with_reducible refine (beaconlaw08_awake.calls  t324 _ A70.out).mono ?_);rintro e w72 ⟨rfl,hb⟩;have n0_:=Aside0.mk (Kd.R_below (by (with_reducible repeat (first | apply Kd.R_alloc | apply Kd.R_drewN | apply Kd.R_drew));exact HO_7.out) hb);have n1_:=Aside0.mk (Kd.R_below (by (with_reducible repeat (first | apply Kd.R_alloc | apply Kd.R_drewN | apply Kd.R_drew));exact HO_9.out) hb);have n2_:=Aside0.mk (blk_below (g:=gb312) (o:=.cells #[.slice A0_0 l0_0.length c0_0,.slice A0_1 l0_1.length c0_1] 25 (0,0)) (by (with_reducible repeat (first | refine blk_drewN ?_ _ | refine blk_drew ?_ | refine blk_alloc ?_ _));exact BK312.out) hb);have n3_:=Aside0.mk (blk_below (g:=gb313) (o:=.cells #[.float .f64 a1_0,.float .f64 a1_1] 41 (0,0)) (by (with_reducible repeat (first | refine blk_drewN ?_ _ | refine blk_drew ?_ | refine blk_alloc ?_ _));exact BK313.out) hb);have n4_:=Aside0.mk (below_step (by repeat (first | (with_reducible first | exact HB.out | apply below_alloc | apply pw_below_drewN | apply below_drew1 | refine below_set ?_ GE312.out | refine below_set ?_ GE313.out) | exact HB.out)) hb);clear HO_7;clear HO_9;clear BK312;clear BK313;clear HB;have HO_7:=n0_;have HO_9:=n1_;have BK312:=n2_;have BK313:=n3_;have HB:=n4_;clear n0_ n1_ n2_ n3_ n4_;(try clear hb);(try clear hb2);(try clear hk);(try clear hi)));try go_wp2_with (first | (go_at_call 14;(with_reducible refine (beaconlaw08_awake.calls  t324 _ A70.out).mono ?_);rintro e w72 ⟨rfl,hb⟩;have n0_:=Aside0.mk (Kd.R_below (by (with_reducible repeat (first | apply Kd.R_alloc | apply Kd.R_drewN | apply Kd.R_drew));exact HO_7.out) hb);have n1_:=Aside0.mk (Kd.R_below (by (with_reducible repeat (first | apply Kd.R_alloc | apply Kd.R_drewN | apply Kd.R_drew));exact HO_9.out) hb);have n2_:=Aside0.mk (blk_below (g:=gb312) (o:=.cells #[.slice A0_0 l0_0.length c0_0,.slice A0_1 l0_1.length c0_1] 25 (0,0)) (by (with_reducible repeat (first | refine blk_drewN ?_ _ | refine blk_drew ?_ | refine blk_alloc ?_ _));exact BK312.out) hb);have n3_:=Aside0.mk (blk_below (g:=gb313) (o:=.cells #[.float .f64 a1_0,.float .f64 a1_1] 41 (0,0)) (by (with_reducible repeat (first | refine blk_drewN ?_ _ | refine blk_drew ?_ | refine blk_alloc ?_ _));exact BK313.out) hb);have n4_:=Aside0.mk (below_step (by repeat (first | (with_reducible first | exact HB.out | apply below_alloc | apply pw_below_drewN | apply below_drew1 | refine below_set ?_ GE312.out | refine below_set ?_ GE313.out) | exact HB.out)) hb);clear HO_7;clear HO_9;clear BK312;clear BK313;clear HB;have HO_7:=n0_;have HO_9:=n1_;have BK312:=n2_;have BK313:=n3_;have HB:=n4_;clear n0_ n1_ n2_ n3_ n4_;(try clear hb);(try clear hb2);(try clear hk);(try clear hi))))
          go_ret
          exact ⟨by first | rfl | (simp [errW_none,errW_some] <;> rfl) | (simp [*,errW_none,errW_some] <;> rfl),by repeat (first | (with_reducible first | exact HB.out | apply below_alloc | apply pw_below_drewN | apply below_drew1 | refine below_set ?_ GE312.out | refine below_set ?_ GE313.out) | exact HB.out)⟩
end Go.Proofs.Ytmdkcecbklgihaa.PA
