/- Printed by a program of this session (wip/tools/patch_print.py and pr.py, over the kit's print): each Go function as a plain Lean function, and that the Go code comes to just its answers. Conditions: those that each theorem names. -/
import Derived.Test.YtmdkcecbklgihaaCcPAx0
import Derived.Test.YtmdkcecbklgihaaCoPAx9
import Derived.Test.YtmdkcecbklgihaaCoPAx22
import Derived.Test.YtmdkcecbklgihaaCoPAx23
import Derived.Test.YtmdkcecbklgihaaCoHm
import Derived.Test.YtmdkcecbklgihaaCoHo
namespace Go.Proofs.Ytmdkcecbklgihaa.PA
open Go.RowKit Go.Proofs.YtmdkcecbklgihaaW.PrintWords Go.Proofs.YtmdkcecbklgihaaW.PrintLast Go.Proofs.YtmdkcecbklgihaaW.PrintMore
attribute [local go_sem] max2_int min2_int max_two min_two max_three min_three max_four min_four
set_option linter.unusedVariables false
set_option linter.unusedSimpArgs false
mutual
noncomputable def beaconlaw08_PathsComponents.j0:Nat → List (List Int) → List (List Int) → Bool → Option (Bool)
 | 0,_,_,_ => none
 | k + 1,x5,x7,x57 => if x57 = true then (some false) else (beaconlaw08_PathsComponents.l0 k x5 x7 0)
noncomputable def beaconlaw08_PathsComponents.l0:Nat → List (List Int) → List (List Int) → Int → Option (Bool)
 | 0,_,_,_ => none
 | k + 1,x5,x7,x13 => if x13 < (x5.length:Int) then (if 0 ≤ x13 then (if x13 < (x7.length:Int) then ((beaconlaw08_ints.f k (rd_L8 x5 x13) (rd_L8 x7 x13)).bind fun t581 => (if t581 = true then (beaconlaw08_PathsComponents.l0 k x5 x7 (wrap64 (x13 + 1))) else (some false))) else (none)) else (none)) else ((beaconlaw08_awake.f).bind fun t578 => (some t578))
end
noncomputable def beaconlaw08_PathsComponents.f (k:Nat) (l0_0:List (S40)) (l0_1:List (S74)) (a1:Nat):Option (Bool):=(paths_Components.f l0_0 l0_1).bind fun bt566 => ((beaconref08_Components.f k l0_0 l0_1).bind fun bt570 => ((paths_Wide.f l0_0 l0_1 a1).bind fun bt574 => ((beaconref08_Wide.f k l0_0 l0_1 a1).bind fun bt576 => (if bt566.2 = bt570.2 then (if bt574.2 = bt576.2 then (if (bt574.1:Int) = (bt576.1:Int) then (beaconlaw08_PathsComponents.j0 k bt566.1 bt570.1 ((bt566.1.length:Int) != (bt570.1.length:Int))) else (beaconlaw08_PathsComponents.j0 k bt566.1 bt570.1 true)) else (beaconlaw08_PathsComponents.j0 k bt566.1 bt570.1 true)) else (beaconlaw08_PathsComponents.j0 k bt566.1 bt570.1 true)))))
set_option maxHeartbeats 8000000 in
set_option maxRecDepth 100000 in
theorem beaconlaw08_PathsComponents.calls (k:Nat) (A0_0:Option Addr) (c0_0:Nat) (l0_0:List (S40)) (A0_1:Option Addr) (c0_1:Nat) (l0_1:List (S74)) (a1:Nat) (r:Bool) (w:World) (hr0_0:Kd.C k40 w A0_0 l0_0.length l0_0) (hc0_0:l0_0.length ≤ c0_0) (hr0_1:Kd.C k74 w A0_1 l0_1.length l0_1) (hc0_1:l0_1.length ≤ c0_1) (h:beaconlaw08_PathsComponents.f k l0_0 l0_1 a1 = some r) :
  Calls Try.prog 10 #[.agg #[.slice A0_0 l0_0.length c0_0,.slice A0_1 l0_1.length c0_1],.float .f64 a1] w fun e w' => e = .returned (.bool r) ∧ Below w.heap.size w w':=by
 have hX23:=run_Float64bits Try.func23 (by kernel_rfl) (by kernel_rfl) (by kernel_rfl) (by kernel_rfl)
 have hu25:=Try.underlying25
 have HR0_0:=Aside0.mk hr0_0
 have HC0_0:=Aside0.mk hc0_0
 clear hr0_0 hc0_0
 have HR0_1:=Aside0.mk hr0_1
 have HC0_1:=Aside0.mk hc0_1
 clear hr0_1 hc0_1
 have HB:=Aside0.mk (Below.refl w.heap.size w)
 have H:((paths_Components.f l0_0 l0_1).bind fun bt566 => ((beaconref08_Components.f k l0_0 l0_1).bind fun bt570 => ((paths_Wide.f l0_0 l0_1 a1).bind fun bt574 => ((beaconref08_Wide.f k l0_0 l0_1 a1).bind fun bt576 => (if bt566.2 = bt570.2 then (if bt574.2 = bt576.2 then (if (bt574.1:Int) = (bt576.1:Int) then (beaconlaw08_PathsComponents.j0 k bt566.1 bt570.1 ((bt566.1.length:Int) != (bt570.1.length:Int))) else (beaconlaw08_PathsComponents.j0 k bt566.1 bt570.1 true)) else (beaconlaw08_PathsComponents.j0 k bt566.1 bt570.1 true)) else (beaconlaw08_PathsComponents.j0 k bt566.1 bt570.1 true)))))) = some r:=h
 clear h
 replace H:=Option.bind_eq_some_iff.mp H
 obtain ⟨⟨t566,t569⟩,A30,H⟩:=H
 replace H:((beaconref08_Components.f k l0_0 l0_1).bind fun bt570 => ((paths_Wide.f l0_0 l0_1 a1).bind fun bt574 => ((beaconref08_Wide.f k l0_0 l0_1 a1).bind fun bt576 => (if t569 = bt570.2 then (if bt574.2 = bt576.2 then (if (bt574.1:Int) = (bt576.1:Int) then (beaconlaw08_PathsComponents.j0 k t566 bt570.1 ((t566.length:Int) != (bt570.1.length:Int))) else (beaconlaw08_PathsComponents.j0 k t566 bt570.1 true)) else (beaconlaw08_PathsComponents.j0 k t566 bt570.1 true)) else (beaconlaw08_PathsComponents.j0 k t566 bt570.1 true))))) = some r:=H
 have A3:=Aside0.mk A30
 clear A30
 replace H:=Option.bind_eq_some_iff.mp H
 obtain ⟨⟨t570,t573⟩,A40,H⟩:=H
 replace H:((paths_Wide.f l0_0 l0_1 a1).bind fun bt574 => ((beaconref08_Wide.f k l0_0 l0_1 a1).bind fun bt576 => (if t569 = t573 then (if bt574.2 = bt576.2 then (if (bt574.1:Int) = (bt576.1:Int) then (beaconlaw08_PathsComponents.j0 k t566 t570 ((t566.length:Int) != (t570.length:Int))) else (beaconlaw08_PathsComponents.j0 k t566 t570 true)) else (beaconlaw08_PathsComponents.j0 k t566 t570 true)) else (beaconlaw08_PathsComponents.j0 k t566 t570 true)))) = some r:=H
 have A4:=Aside0.mk A40
 clear A40
 replace H:=Option.bind_eq_some_iff.mp H
 obtain ⟨⟨t574,t575⟩,A50,H⟩:=H
 replace H:((beaconref08_Wide.f k l0_0 l0_1 a1).bind fun bt576 => (if t569 = t573 then (if t575 = bt576.2 then (if (t574:Int) = (bt576.1:Int) then (beaconlaw08_PathsComponents.j0 k t566 t570 ((t566.length:Int) != (t570.length:Int))) else (beaconlaw08_PathsComponents.j0 k t566 t570 true)) else (beaconlaw08_PathsComponents.j0 k t566 t570 true)) else (beaconlaw08_PathsComponents.j0 k t566 t570 true))) = some r:=H
 have A5:=Aside0.mk A50
 clear A50
 replace H:=Option.bind_eq_some_iff.mp H
 obtain ⟨⟨t576,t577⟩,A60,H⟩:=H
 replace H:(if t569 = t573 then (if t575 = t577 then (if (t574:Int) = (t576:Int) then (beaconlaw08_PathsComponents.j0 k t566 t570 ((t566.length:Int) != (t570.length:Int))) else (beaconlaw08_PathsComponents.j0 k t566 t570 true)) else (beaconlaw08_PathsComponents.j0 k t566 t570 true)) else (beaconlaw08_PathsComponents.j0 k t566 t570 true)) = some r:=H
 have A6:=Aside0.mk A60
 clear A60
 have HC7:=Aside0.mk H
 clear H
 go_enter Try.func10,Try.ntmps10
 go_upto_region 5 with (first | ((with_reducible refine gate_dst (N:=2) rfl ?_);(try (refine gate_guard (by rfl) ?_;dsimp only));refine box_event ?hg (N:=2) ?hd (cs:=#[.slice A0_0 l0_0.length c0_0,.slice A0_1 l0_1.length c0_1]) (t:=25) ?hr ?_;(case hd => rfl);(case hg => rfl);(case hr => first | (go_simp;done) | (go_simp;rfl));intro gb565 hg w8 hbox hb;have n0_:=Aside0.mk (below_step (by repeat (first | (with_reducible first | exact HB.out | apply below_alloc | apply pw_below_drewN | apply below_drew1) | exact HB.out)) hb);have n1_:=Aside0.mk (hbox);have n2_:=Aside0.mk ((by rw [hg];exact (below_size (by repeat (first | (with_reducible first | exact HB.out | apply below_alloc | apply pw_below_drewN | apply below_drew1) | exact HB.out))):w.heap.size ≤ gb565));have n3_:=Aside0.mk ((by rw [hg];exact (below_size (by repeat (first | (with_reducible first | exact HB.out | apply below_alloc | apply pw_below_drewN | apply below_drew1) | exact HB.out))):w.heap.size ≤ gb565));clear HB;have HB:=n0_;have BK565:=n1_;have GW565:=n2_;have GE565:=n3_;clear n0_ n1_ n2_ n3_;clear hb hbox hg;have hcz9_0:w8.cell? ⟨gb565,0,none⟩ = some (.slice A0_0 l0_0.length c0_0):=(blk_cell BK565.out 0).trans rfl;have hcz9_1:w8.cell? ⟨gb565,1,none⟩ = some (.slice A0_1 l0_1.length c0_1):=(blk_cell BK565.out 1).trans rfl;have hfz9_0:=blk_frozen BK565.out 0;have hfz9_1:=blk_frozen BK565.out 1) | (go_at_call 27;(with_reducible refine (paths_Components.calls _ _ l0_0 _ _ l0_1 t566 t569 _ ?side1 ?side2 ?side3 ?side4 A3.out).mono ?_);(case side1 => repeat (first | exact (Kd.C_below HR0_0.out HB.out) | (with_reducible refine Kd.C_alloc ?_ _) | (with_reducible refine Kd.C_drewN ?_ _) | (with_reducible refine Kd.C_drew ?_)));(case side2 => exact HC0_0.out);(case side3 => repeat (first | exact (Kd.C_below HR0_1.out HB.out) | (with_reducible refine Kd.C_alloc ?_ _) | (with_reducible refine Kd.C_drewN ?_ _) | (with_reducible refine Kd.C_drew ?_)));(case side4 => exact HC0_1.out);rintro e w10 ⟨v567,rfl,ho0,hb⟩;have n0_:=Aside0.mk (Kd.S_lower ho0 (below_size (by repeat (first | (with_reducible first | exact HB.out | apply below_alloc | apply pw_below_drewN | apply below_drew1 | refine below_set ?_ GE565.out) | exact HB.out))));have n1_:=Aside0.mk (blk_below (g:=gb565) (o:=.cells #[.slice A0_0 l0_0.length c0_0,.slice A0_1 l0_1.length c0_1] 25 (0,0)) (by (with_reducible repeat (first | refine blk_drewN ?_ _ | refine blk_drew ?_ | refine blk_alloc ?_ _));exact BK565.out) hb);have n2_:=Aside0.mk (below_step (by repeat (first | (with_reducible first | exact HB.out | apply below_alloc | apply pw_below_drewN | apply below_drew1 | refine below_set ?_ GE565.out) | exact HB.out)) hb);clear BK565;clear HB;have HO568:=n0_;have BK565:=n1_;have HB:=n2_;clear n0_ n1_ n2_;(try clear hb);(try clear hb2);(try clear hk);(try clear hi);(try clear ho0);have hcz11_0:w10.cell? ⟨gb565,0,none⟩ = some (.slice A0_0 l0_0.length c0_0):=(blk_cell BK565.out 0).trans rfl;have hcz11_1:w10.cell? ⟨gb565,1,none⟩ = some (.slice A0_1 l0_1.length c0_1):=(blk_cell BK565.out 1).trans rfl;have hfz11_0:=blk_frozen BK565.out 0;have hfz11_1:=blk_frozen BK565.out 1) | (go_at_call 28;(with_reducible refine (beaconref08_Components.calls k _ _ l0_0 _ _ l0_1 t570 t573 _ ?side1 ?side2 ?side3 ?side4 A4.out).mono ?_);(case side1 => repeat (first | exact (Kd.C_below HR0_0.out HB.out) | (with_reducible refine Kd.C_alloc ?_ _) | (with_reducible refine Kd.C_drewN ?_ _) | (with_reducible refine Kd.C_drew ?_)));(case side2 => exact HC0_0.out);(case side3 => repeat (first | exact (Kd.C_below HR0_1.out HB.out) | (with_reducible refine Kd.C_alloc ?_ _) | (with_reducible refine Kd.C_drewN ?_ _) | (with_reducible refine Kd.C_drew ?_)));(case side4 => exact HC0_1.out);rintro e w12 ⟨v571,rfl,ho0,hb⟩;have n0_:=Aside0.mk (Kd.S_elder' (by (with_reducible repeat (first | apply Kd.S_alloc | apply Kd.S_drewN | apply Kd.S_drew));exact HO568.out) (Kd.S_base ho0) hb);have n1_:=Aside0.mk (Kd.S_lower (Kd.S_new' ho0 (Kd.S_lt (by (with_reducible repeat (first | apply Kd.S_alloc | apply Kd.S_drewN | apply Kd.S_drew));exact HO568.out))) (below_size (by repeat (first | (with_reducible first | exact HB.out | apply below_alloc | apply pw_below_drewN | apply below_drew1 | refine below_set ?_ GE565.out) | exact HB.out))));have n2_:=Aside0.mk (blk_below (g:=gb565) (o:=.cells #[.slice A0_0 l0_0.length c0_0,.slice A0_1 l0_1.length c0_1] 25 (0,0)) (by (with_reducible repeat (first | refine blk_drewN ?_ _ | refine blk_drew ?_ | refine blk_alloc ?_ _));exact BK565.out) hb);have n3_:=Aside0.mk (below_step (by repeat (first | (with_reducible first | exact HB.out | apply below_alloc | apply pw_below_drewN | apply below_drew1 | refine below_set ?_ GE565.out) | exact HB.out)) hb);clear HO568;clear BK565;clear HB;have HO568:=n0_;have HO572:=n1_;have BK565:=n2_;have HB:=n3_;clear n0_ n1_ n2_ n3_;(try clear hb);(try clear hb2);(try clear hk);(try clear hi);(try clear ho0);have hcz13_0:w12.cell? ⟨gb565,0,none⟩ = some (.slice A0_0 l0_0.length c0_0):=(blk_cell BK565.out 0).trans rfl;have hcz13_1:w12.cell? ⟨gb565,1,none⟩ = some (.slice A0_1 l0_1.length c0_1):=(blk_cell BK565.out 1).trans rfl;have hfz13_0:=blk_frozen BK565.out 0;have hfz13_1:=blk_frozen BK565.out 1) | (go_at_call 29;(with_reducible refine (paths_Wide.calls _ _ l0_0 _ _ l0_1 a1 t574 t575 _ ?side1 ?side2 ?side3 ?side4 A5.out).mono ?_);(case side1 => repeat (first | exact (Kd.C_below HR0_0.out HB.out) | (with_reducible refine Kd.C_alloc ?_ _) | (with_reducible refine Kd.C_drewN ?_ _) | (with_reducible refine Kd.C_drew ?_)));(case side2 => exact HC0_0.out);(case side3 => repeat (first | exact (Kd.C_below HR0_1.out HB.out) | (with_reducible refine Kd.C_alloc ?_ _) | (with_reducible refine Kd.C_drewN ?_ _) | (with_reducible refine Kd.C_drew ?_)));(case side4 => exact HC0_1.out);rintro e w14 ⟨rfl,hb⟩;have n0_:=Aside0.mk (Kd.S_below (by (with_reducible repeat (first | apply Kd.S_alloc | apply Kd.S_drewN | apply Kd.S_drew));exact HO568.out) hb);have n1_:=Aside0.mk (Kd.S_below (by (with_reducible repeat (first | apply Kd.S_alloc | apply Kd.S_drewN | apply Kd.S_drew));exact HO572.out) hb);have n2_:=Aside0.mk (blk_below (g:=gb565) (o:=.cells #[.slice A0_0 l0_0.length c0_0,.slice A0_1 l0_1.length c0_1] 25 (0,0)) (by (with_reducible repeat (first | refine blk_drewN ?_ _ | refine blk_drew ?_ | refine blk_alloc ?_ _));exact BK565.out) hb);have n3_:=Aside0.mk (below_step (by repeat (first | (with_reducible first | exact HB.out | apply below_alloc | apply pw_below_drewN | apply below_drew1 | refine below_set ?_ GE565.out) | exact HB.out)) hb);clear HO568;clear HO572;clear BK565;clear HB;have HO568:=n0_;have HO572:=n1_;have BK565:=n2_;have HB:=n3_;clear n0_ n1_ n2_ n3_;(try clear hb);(try clear hb2);(try clear hk);(try clear hi);have hcz15_0:w14.cell? ⟨gb565,0,none⟩ = some (.slice A0_0 l0_0.length c0_0):=(blk_cell BK565.out 0).trans rfl;have hcz15_1:w14.cell? ⟨gb565,1,none⟩ = some (.slice A0_1 l0_1.length c0_1):=(blk_cell BK565.out 1).trans rfl;have hfz15_0:=blk_frozen BK565.out 0;have hfz15_1:=blk_frozen BK565.out 1) | (go_at_call 30;(with_reducible refine (beaconref08_Wide.calls k _ _ l0_0 _ _ l0_1 a1 t576 t577 _ ?side1 ?side2 ?side3 ?side4 A6.out).mono ?_);(case side1 => repeat (first | exact (Kd.C_below HR0_0.out HB.out) | (with_reducible refine Kd.C_alloc ?_ _) | (with_reducible refine Kd.C_drewN ?_ _) | (with_reducible refine Kd.C_drew ?_)));(case side2 => exact HC0_0.out);(case side3 => repeat (first | exact (Kd.C_below HR0_1.out HB.out) | (with_reducible refine Kd.C_alloc ?_ _) | (with_reducible refine Kd.C_drewN ?_ _) | (with_reducible refine Kd.C_drew ?_)));(case side4 => exact HC0_1.out);rintro e w16 ⟨rfl,hb⟩;have n0_:=Aside0.mk (Kd.S_below (by (with_reducible repeat (first | apply Kd.S_alloc | apply Kd.S_drewN | apply Kd.S_drew));exact HO568.out) hb);have n1_:=Aside0.mk (Kd.S_below (by (with_reducible repeat (first | apply Kd.S_alloc | apply Kd.S_drewN | apply Kd.S_drew));exact HO572.out) hb);have n2_:=Aside0.mk (blk_below (g:=gb565) (o:=.cells #[.slice A0_0 l0_0.length c0_0,.slice A0_1 l0_1.length c0_1] 25 (0,0)) (by (with_reducible repeat (first | refine blk_drewN ?_ _ | refine blk_drew ?_ | refine blk_alloc ?_ _));exact BK565.out) hb);have n3_:=Aside0.mk (below_step (by repeat (first | (with_reducible first | exact HB.out | apply below_alloc | apply pw_below_drewN | apply below_drew1 | refine below_set ?_ GE565.out) | exact HB.out)) hb);clear HO568;clear HO572;clear BK565;clear HB;have HO568:=n0_;have HO572:=n1_;have BK565:=n2_;have HB:=n3_;clear n0_ n1_ n2_ n3_;(try clear hb);(try clear hb2);(try clear hk);(try clear hi)))
 repeat (go_quiet (first | ((with_reducible refine gate_dst (N:=2) rfl ?_);(try (refine gate_guard (by rfl) ?_;dsimp only));refine box_event ?hg (N:=2) ?hd (cs:=#[.slice A0_0 l0_0.length c0_0,.slice A0_1 l0_1.length c0_1]) (t:=25) ?hr ?_;(case hd => rfl);(case hg => rfl);(case hr => first | (go_simp;done) | (go_simp;rfl));intro gb565 hg w8 hbox hb;have n0_:=Aside0.mk (below_step (by repeat (first | (with_reducible first | exact HB.out | apply below_alloc | apply pw_below_drewN | apply below_drew1) | exact HB.out)) hb);have n1_:=Aside0.mk (hbox);have n2_:=Aside0.mk ((by rw [hg];exact (below_size (by repeat (first | (with_reducible first | exact HB.out | apply below_alloc | apply pw_below_drewN | apply below_drew1) | exact HB.out))):w.heap.size ≤ gb565));have n3_:=Aside0.mk ((by rw [hg];exact (below_size (by repeat (first | (with_reducible first | exact HB.out | apply below_alloc | apply pw_below_drewN | apply below_drew1) | exact HB.out))):w.heap.size ≤ gb565));clear HB;have HB:=n0_;have BK565:=n1_;have GW565:=n2_;have GE565:=n3_;clear n0_ n1_ n2_ n3_;clear hb hbox hg;have hcz9_0:w8.cell? ⟨gb565,0,none⟩ = some (.slice A0_0 l0_0.length c0_0):=(blk_cell BK565.out 0).trans rfl;have hcz9_1:w8.cell? ⟨gb565,1,none⟩ = some (.slice A0_1 l0_1.length c0_1):=(blk_cell BK565.out 1).trans rfl;have hfz9_0:=blk_frozen BK565.out 0;have hfz9_1:=blk_frozen BK565.out 1) | (go_at_call 27;(with_reducible refine (paths_Components.calls _ _ l0_0 _ _ l0_1 t566 t569 _ ?side1 ?side2 ?side3 ?side4 A3.out).mono ?_);(case side1 => repeat (first | exact (Kd.C_below HR0_0.out HB.out) | (with_reducible refine Kd.C_alloc ?_ _) | (with_reducible refine Kd.C_drewN ?_ _) | (with_reducible refine Kd.C_drew ?_)));(case side2 => exact HC0_0.out);(case side3 => repeat (first | exact (Kd.C_below HR0_1.out HB.out) | (with_reducible refine Kd.C_alloc ?_ _) | (with_reducible refine Kd.C_drewN ?_ _) | (with_reducible refine Kd.C_drew ?_)));(case side4 => exact HC0_1.out);rintro e w10 ⟨v567,rfl,ho0,hb⟩;have n0_:=Aside0.mk (Kd.S_lower ho0 (below_size (by repeat (first | (with_reducible first | exact HB.out | apply below_alloc | apply pw_below_drewN | apply below_drew1 | refine below_set ?_ GE565.out) | exact HB.out))));have n1_:=Aside0.mk (blk_below (g:=gb565) (o:=.cells #[.slice A0_0 l0_0.length c0_0,.slice A0_1 l0_1.length c0_1] 25 (0,0)) (by (with_reducible repeat (first | refine blk_drewN ?_ _ | refine blk_drew ?_ | refine blk_alloc ?_ _));exact BK565.out) hb);have n2_:=Aside0.mk (below_step (by repeat (first | (with_reducible first | exact HB.out | apply below_alloc | apply pw_below_drewN | apply below_drew1 | refine below_set ?_ GE565.out) | exact HB.out)) hb);clear BK565;clear HB;have HO568:=n0_;have BK565:=n1_;have HB:=n2_;clear n0_ n1_ n2_;(try clear hb);(try clear hb2);(try clear hk);(try clear hi);(try clear ho0);have hcz11_0:w10.cell? ⟨gb565,0,none⟩ = some (.slice A0_0 l0_0.length c0_0):=(blk_cell BK565.out 0).trans rfl;have hcz11_1:w10.cell? ⟨gb565,1,none⟩ = some (.slice A0_1 l0_1.length c0_1):=(blk_cell BK565.out 1).trans rfl;have hfz11_0:=blk_frozen BK565.out 0;have hfz11_1:=blk_frozen BK565.out 1) | (go_at_call 28;(with_reducible refine (beaconref08_Components.calls k _ _ l0_0 _ _ l0_1 t570 t573 _ ?side1 ?side2 ?side3 ?side4 A4.out).mono ?_);(case side1 => repeat (first | exact (Kd.C_below HR0_0.out HB.out) | (with_reducible refine Kd.C_alloc ?_ _) | (with_reducible refine Kd.C_drewN ?_ _) | (with_reducible refine Kd.C_drew ?_)));(case side2 => exact HC0_0.out);(case side3 => repeat (first | exact (Kd.C_below HR0_1.out HB.out) | (with_reducible refine Kd.C_alloc ?_ _) | (with_reducible refine Kd.C_drewN ?_ _) | (with_reducible refine Kd.C_drew ?_)));(case side4 => exact HC0_1.out);rintro e w12 ⟨v571,rfl,ho0,hb⟩;have n0_:=Aside0.mk (Kd.S_elder' (by (with_reducible repeat (first | apply Kd.S_alloc | apply Kd.S_drewN | apply Kd.S_drew));exact HO568.out) (Kd.S_base ho0) hb);have n1_:=Aside0.mk (Kd.S_lower (Kd.S_new' ho0 (Kd.S_lt (by (with_reducible repeat (first | apply Kd.S_alloc | apply Kd.S_drewN | apply Kd.S_drew));exact HO568.out))) (below_size (by repeat (first | (with_reducible first | exact HB.out | apply below_alloc | apply pw_below_drewN | apply below_drew1 | refine below_set ?_ GE565.out) | exact HB.out))));have n2_:=Aside0.mk (blk_below (g:=gb565) (o:=.cells #[.slice A0_0 l0_0.length c0_0,.slice A0_1 l0_1.length c0_1] 25 (0,0)) (by (with_reducible repeat (first | refine blk_drewN ?_ _ | refine blk_drew ?_ | refine blk_alloc ?_ _));exact BK565.out) hb);have n3_:=Aside0.mk (below_step (by repeat (first | (with_reducible first | exact HB.out | apply below_alloc | apply pw_below_drewN | apply below_drew1 | refine below_set ?_ GE565.out) | exact HB.out)) hb);clear HO568;clear BK565;clear HB;have HO568:=n0_;have HO572:=n1_;have BK565:=n2_;have HB:=n3_;clear n0_ n1_ n2_ n3_;(try clear hb);(try clear hb2);(try clear hk);(try clear hi);(try clear ho0);have hcz13_0:w12.cell? ⟨gb565,0,none⟩ = some (.slice A0_0 l0_0.length c0_0):=(blk_cell BK565.out 0).trans rfl;have hcz13_1:w12.cell? ⟨gb565,1,none⟩ = some (.slice A0_1 l0_1.length c0_1):=(blk_cell BK565.out 1).trans rfl;have hfz13_0:=blk_frozen BK565.out 0;have hfz13_1:=blk_frozen BK565.out 1) | (go_at_call 29;(with_reducible refine (paths_Wide.calls _ _ l0_0 _ _ l0_1 a1 t574 t575 _ ?side1 ?side2 ?side3 ?side4 A5.out).mono ?_);(case side1 => repeat (first | exact (Kd.C_below HR0_0.out HB.out) | (with_reducible refine Kd.C_alloc ?_ _) | (with_reducible refine Kd.C_drewN ?_ _) | (with_reducible refine Kd.C_drew ?_)));(case side2 => exact HC0_0.out);(case side3 => repeat (first | exact (Kd.C_below HR0_1.out HB.out) | (with_reducible refine Kd.C_alloc ?_ _) | (with_reducible refine Kd.C_drewN ?_ _) | (with_reducible refine Kd.C_drew ?_)));(case side4 => exact HC0_1.out);rintro e w14 ⟨rfl,hb⟩;have n0_:=Aside0.mk (Kd.S_below (by (with_reducible repeat (first | apply Kd.S_alloc | apply Kd.S_drewN | apply Kd.S_drew));exact HO568.out) hb);have n1_:=Aside0.mk (Kd.S_below (by (with_reducible repeat (first | apply Kd.S_alloc | apply Kd.S_drewN | apply Kd.S_drew));exact HO572.out) hb);have n2_:=Aside0.mk (blk_below (g:=gb565) (o:=.cells #[.slice A0_0 l0_0.length c0_0,.slice A0_1 l0_1.length c0_1] 25 (0,0)) (by (with_reducible repeat (first | refine blk_drewN ?_ _ | refine blk_drew ?_ | refine blk_alloc ?_ _));exact BK565.out) hb);have n3_:=Aside0.mk (below_step (by repeat (first | (with_reducible first | exact HB.out | apply below_alloc | apply pw_below_drewN | apply below_drew1 | refine below_set ?_ GE565.out) | exact HB.out)) hb);clear HO568;clear HO572;clear BK565;clear HB;have HO568:=n0_;have HO572:=n1_;have BK565:=n2_;have HB:=n3_;clear n0_ n1_ n2_ n3_;(try clear hb);(try clear hb2);(try clear hk);(try clear hi);have hcz15_0:w14.cell? ⟨gb565,0,none⟩ = some (.slice A0_0 l0_0.length c0_0):=(blk_cell BK565.out 0).trans rfl;have hcz15_1:w14.cell? ⟨gb565,1,none⟩ = some (.slice A0_1 l0_1.length c0_1):=(blk_cell BK565.out 1).trans rfl;have hfz15_0:=blk_frozen BK565.out 0;have hfz15_1:=blk_frozen BK565.out 1) | (go_at_call 30;(with_reducible refine (beaconref08_Wide.calls k _ _ l0_0 _ _ l0_1 a1 t576 t577 _ ?side1 ?side2 ?side3 ?side4 A6.out).mono ?_);(case side1 => repeat (first | exact (Kd.C_below HR0_0.out HB.out) | (with_reducible refine Kd.C_alloc ?_ _) | (with_reducible refine Kd.C_drewN ?_ _) | (with_reducible refine Kd.C_drew ?_)));(case side2 => exact HC0_0.out);(case side3 => repeat (first | exact (Kd.C_below HR0_1.out HB.out) | (with_reducible refine Kd.C_alloc ?_ _) | (with_reducible refine Kd.C_drewN ?_ _) | (with_reducible refine Kd.C_drew ?_)));(case side4 => exact HC0_1.out);rintro e w16 ⟨rfl,hb⟩;have n0_:=Aside0.mk (Kd.S_below (by (with_reducible repeat (first | apply Kd.S_alloc | apply Kd.S_drewN | apply Kd.S_drew));exact HO568.out) hb);have n1_:=Aside0.mk (Kd.S_below (by (with_reducible repeat (first | apply Kd.S_alloc | apply Kd.S_drewN | apply Kd.S_drew));exact HO572.out) hb);have n2_:=Aside0.mk (blk_below (g:=gb565) (o:=.cells #[.slice A0_0 l0_0.length c0_0,.slice A0_1 l0_1.length c0_1] 25 (0,0)) (by (with_reducible repeat (first | refine blk_drewN ?_ _ | refine blk_drew ?_ | refine blk_alloc ?_ _));exact BK565.out) hb);have n3_:=Aside0.mk (below_step (by repeat (first | (with_reducible first | exact HB.out | apply below_alloc | apply pw_below_drewN | apply below_drew1 | refine below_set ?_ GE565.out) | exact HB.out)) hb);clear HO568;clear HO572;clear BK565;clear HB;have HO568:=n0_;have HO572:=n1_;have BK565:=n2_;have HB:=n3_;clear n0_ n1_ n2_ n3_;(try clear hb);(try clear hb2);(try clear hk);(try clear hi)));go_upto_region 5 with (first | ((with_reducible refine gate_dst (N:=2) rfl ?_);(try (refine gate_guard (by rfl) ?_;dsimp only));refine box_event ?hg (N:=2) ?hd (cs:=#[.slice A0_0 l0_0.length c0_0,.slice A0_1 l0_1.length c0_1]) (t:=25) ?hr ?_;(case hd => rfl);(case hg => rfl);(case hr => first | (go_simp;done) | (go_simp;rfl));intro gb565 hg w8 hbox hb;have n0_:=Aside0.mk (below_step (by repeat (first | (with_reducible first | exact HB.out | apply below_alloc | apply pw_below_drewN | apply below_drew1) | exact HB.out)) hb);have n1_:=Aside0.mk (hbox);have n2_:=Aside0.mk ((by rw [hg];exact (below_size (by repeat (first | (with_reducible first | exact HB.out | apply below_alloc | apply pw_below_drewN | apply below_drew1) | exact HB.out))):w.heap.size ≤ gb565));have n3_:=Aside0.mk ((by rw [hg];exact (below_size (by repeat (first | (with_reducible first | exact HB.out | apply below_alloc | apply pw_below_drewN | apply below_drew1) | exact HB.out))):w.heap.size ≤ gb565));clear HB;have HB:=n0_;have BK565:=n1_;have GW565:=n2_;have GE565:=n3_;clear n0_ n1_ n2_ n3_;clear hb hbox hg;have hcz9_0:w8.cell? ⟨gb565,0,none⟩ = some (.slice A0_0 l0_0.length c0_0):=(blk_cell BK565.out 0).trans rfl;have hcz9_1:w8.cell? ⟨gb565,1,none⟩ = some (.slice A0_1 l0_1.length c0_1):=(blk_cell BK565.out 1).trans rfl;have hfz9_0:=blk_frozen BK565.out 0;have hfz9_1:=blk_frozen BK565.out 1) | (go_at_call 27;(with_reducible refine (paths_Components.calls _ _ l0_0 _ _ l0_1 t566 t569 _ ?side1 ?side2 ?side3 ?side4 A3.out).mono ?_);(case side1 => repeat (first | exact (Kd.C_below HR0_0.out HB.out) | (with_reducible refine Kd.C_alloc ?_ _) | (with_reducible refine Kd.C_drewN ?_ _) | (with_reducible refine Kd.C_drew ?_)));(case side2 => exact HC0_0.out);(case side3 => repeat (first | exact (Kd.C_below HR0_1.out HB.out) | (with_reducible refine Kd.C_alloc ?_ _) | (with_reducible refine Kd.C_drewN ?_ _) | (with_reducible refine Kd.C_drew ?_)));(case side4 => exact HC0_1.out);rintro e w10 ⟨v567,rfl,ho0,hb⟩;have n0_:=Aside0.mk (Kd.S_lower ho0 (below_size (by repeat (first | (with_reducible first | exact HB.out | apply below_alloc | apply pw_below_drewN | apply below_drew1 | refine below_set ?_ GE565.out) | exact HB.out))));have n1_:=Aside0.mk (blk_below (g:=gb565) (o:=.cells #[.slice A0_0 l0_0.length c0_0,.slice A0_1 l0_1.length c0_1] 25 (0,0)) (by (with_reducible repeat (first | refine blk_drewN ?_ _ | refine blk_drew ?_ | refine blk_alloc ?_ _));exact BK565.out) hb);have n2_:=Aside0.mk (below_step (by repeat (first | (with_reducible first | exact HB.out | apply below_alloc | apply pw_below_drewN | apply below_drew1 | refine below_set ?_ GE565.out) | exact HB.out)) hb);clear BK565;clear HB;have HO568:=n0_;have BK565:=n1_;have HB:=n2_;clear n0_ n1_ n2_;(try clear hb);(try clear hb2);(try clear hk);(try clear hi);(try clear ho0);have hcz11_0:w10.cell? ⟨gb565,0,none⟩ = some (.slice A0_0 l0_0.length c0_0):=(blk_cell BK565.out 0).trans rfl;have hcz11_1:w10.cell? ⟨gb565,1,none⟩ = some (.slice A0_1 l0_1.length c0_1):=(blk_cell BK565.out 1).trans rfl;have hfz11_0:=blk_frozen BK565.out 0;have hfz11_1:=blk_frozen BK565.out 1) | (go_at_call 28;(with_reducible refine (beaconref08_Components.calls k _ _ l0_0 _ _ l0_1 t570 t573 _ ?side1 ?side2 ?side3 ?side4 A4.out).mono ?_);(case side1 => repeat (first | exact (Kd.C_below HR0_0.out HB.out) | (with_reducible refine Kd.C_alloc ?_ _) | (with_reducible refine Kd.C_drewN ?_ _) | (with_reducible refine Kd.C_drew ?_)));(case side2 => exact HC0_0.out);(case side3 => repeat (first | exact (Kd.C_below HR0_1.out HB.out) | (with_reducible refine Kd.C_alloc ?_ _) | (with_reducible refine Kd.C_drewN ?_ _) | (with_reducible refine Kd.C_drew ?_)));(case side4 => exact HC0_1.out);rintro e w12 ⟨v571,rfl,ho0,hb⟩;have n0_:=Aside0.mk (Kd.S_elder' (by (with_reducible repeat (first | apply Kd.S_alloc | apply Kd.S_drewN | apply Kd.S_drew));exact HO568.out) (Kd.S_base ho0) hb);have n1_:=Aside0.mk (Kd.S_lower (Kd.S_new' ho0 (Kd.S_lt (by (with_reducible repeat (first | apply Kd.S_alloc | apply Kd.S_drewN | apply Kd.S_drew));exact HO568.out))) (below_size (by repeat (first | (with_reducible first | exact HB.out | apply below_alloc | apply pw_below_drewN | apply below_drew1 | refine below_set ?_ GE565.out) | exact HB.out))));have n2_:=Aside0.mk (blk_below (g:=gb565) (o:=.cells #[.slice A0_0 l0_0.length c0_0,.slice A0_1 l0_1.length c0_1] 25 (0,0)) (by (with_reducible repeat (first | refine blk_drewN ?_ _ | refine blk_drew ?_ | refine blk_alloc ?_ _));exact BK565.out) hb);have n3_:=Aside0.mk (below_step (by repeat (first | (with_reducible first | exact HB.out | apply below_alloc | apply pw_below_drewN | apply below_drew1 | refine below_set ?_ GE565.out) | exact HB.out)) hb);clear HO568;clear BK565;clear HB;have HO568:=n0_;have HO572:=n1_;have BK565:=n2_;have HB:=n3_;clear n0_ n1_ n2_ n3_;(try clear hb);(try clear hb2);(try clear hk);(try clear hi);(try clear ho0);have hcz13_0:w12.cell? ⟨gb565,0,none⟩ = some (.slice A0_0 l0_0.length c0_0):=(blk_cell BK565.out 0).trans rfl;have hcz13_1:w12.cell? ⟨gb565,1,none⟩ = some (.slice A0_1 l0_1.length c0_1):=(blk_cell BK565.out 1).trans rfl;have hfz13_0:=blk_frozen BK565.out 0;have hfz13_1:=blk_frozen BK565.out 1) | (go_at_call 29;(with_reducible refine (paths_Wide.calls _ _ l0_0 _ _ l0_1 a1 t574 t575 _ ?side1 ?side2 ?side3 ?side4 A5.out).mono ?_);(case side1 => repeat (first | exact (Kd.C_below HR0_0.out HB.out) | (with_reducible refine Kd.C_alloc ?_ _) | (with_reducible refine Kd.C_drewN ?_ _) | (with_reducible refine Kd.C_drew ?_)));(case side2 => exact HC0_0.out);(case side3 => repeat (first | exact (Kd.C_below HR0_1.out HB.out) | (with_reducible refine Kd.C_alloc ?_ _) | (with_reducible refine Kd.C_drewN ?_ _) | (with_reducible refine Kd.C_drew ?_)));(case side4 => exact HC0_1.out);rintro e w14 ⟨rfl,hb⟩;have n0_:=Aside0.mk (Kd.S_below (by (with_reducible repeat (first | apply Kd.S_alloc | apply Kd.S_drewN | apply Kd.S_drew));exact HO568.out) hb);have n1_:=Aside0.mk (Kd.S_below (by (with_reducible repeat (first | apply Kd.S_alloc | apply Kd.S_drewN | apply Kd.S_drew));exact HO572.out) hb);have n2_:=Aside0.mk (blk_below (g:=gb565) (o:=.cells #[.slice A0_0 l0_0.length c0_0,.slice A0_1 l0_1.length c0_1] 25 (0,0)) (by (with_reducible repeat (first | refine blk_drewN ?_ _ | refine blk_drew ?_ | refine blk_alloc ?_ _));exact BK565.out) hb);have n3_:=Aside0.mk (below_step (by repeat (first | (with_reducible first | exact HB.out | apply below_alloc | apply pw_below_drewN | apply below_drew1 | refine below_set ?_ GE565.out) | exact HB.out)) hb);clear HO568;clear HO572;clear BK565;clear HB;have HO568:=n0_;have HO572:=n1_;have BK565:=n2_;have HB:=n3_;clear n0_ n1_ n2_ n3_;(try clear hb);(try clear hb2);(try clear hk);(try clear hi);have hcz15_0:w14.cell? ⟨gb565,0,none⟩ = some (.slice A0_0 l0_0.length c0_0):=(blk_cell BK565.out 0).trans rfl;have hcz15_1:w14.cell? ⟨gb565,1,none⟩ = some (.slice A0_1 l0_1.length c0_1):=(blk_cell BK565.out 1).trans rfl;have hfz15_0:=blk_frozen BK565.out 0;have hfz15_1:=blk_frozen BK565.out 1) | (go_at_call 30;(with_reducible refine (beaconref08_Wide.calls k _ _ l0_0 _ _ l0_1 a1 t576 t577 _ ?side1 ?side2 ?side3 ?side4 A6.out).mono ?_);(case side1 => repeat (first | exact (Kd.C_below HR0_0.out HB.out) | (with_reducible refine Kd.C_alloc ?_ _) | (with_reducible refine Kd.C_drewN ?_ _) | (with_reducible refine Kd.C_drew ?_)));(case side2 => exact HC0_0.out);(case side3 => repeat (first | exact (Kd.C_below HR0_1.out HB.out) | (with_reducible refine Kd.C_alloc ?_ _) | (with_reducible refine Kd.C_drewN ?_ _) | (with_reducible refine Kd.C_drew ?_)));(case side4 => exact HC0_1.out);rintro e w16 ⟨rfl,hb⟩;have n0_:=Aside0.mk (Kd.S_below (by (with_reducible repeat (first | apply Kd.S_alloc | apply Kd.S_drewN | apply Kd.S_drew));exact HO568.out) hb);have n1_:=Aside0.mk (Kd.S_below (by (with_reducible repeat (first | apply Kd.S_alloc | apply Kd.S_drewN | apply Kd.S_drew));exact HO572.out) hb);have n2_:=Aside0.mk (blk_below (g:=gb565) (o:=.cells #[.slice A0_0 l0_0.length c0_0,.slice A0_1 l0_1.length c0_1] 25 (0,0)) (by (with_reducible repeat (first | refine blk_drewN ?_ _ | refine blk_drew ?_ | refine blk_alloc ?_ _));exact BK565.out) hb);have n3_:=Aside0.mk (below_step (by repeat (first | (with_reducible first | exact HB.out | apply below_alloc | apply pw_below_drewN | apply below_drew1 | refine below_set ?_ GE565.out) | exact HB.out)) hb);clear HO568;clear HO572;clear BK565;clear HB;have HO568:=n0_;have HO572:=n1_;have BK565:=n2_;have HB:=n3_;clear n0_ n1_ n2_ n3_;(try clear hb);(try clear hb2);(try clear hk);(try clear hi))))
 (try simp only [Act.put,List.setIfInBounds_toArray,List.set_cons_zero,List.set_cons_succ])
 go_cut [57] (fun v57 wc => ∃ (kq:Nat) (x57_6:Bool),v57 = .bool x57_6 ∧ Aside0 (beaconlaw08_PathsComponents.j0 kq t566 t570 x57_6 = some r) ∧ Aside0 (kq ≤ k) ∧ Aside0 (Kd.S (Kd.slice 3 (Kd.int .i64)) 27 wc w.heap.size (fun k_ => some k_ ≠ (v571:Value).ownBlock) v567 t566) ∧ Aside0 (Kd.S (Kd.slice 3 (Kd.int .i64)) 27 wc w.heap.size (fun k_ => some k_ ≠ (v567:Value).ownBlock) v571 t570) ∧ Aside0 (wc.heap[gb565]? = some (.cells #[(.slice A0_0 l0_0.length c0_0),(.slice A0_1 l0_1.length c0_1)] 25 (0,0))) ∧ Aside0 (Below w.heap.size w wc))
 case first =>
  have H:=HC7.out
  clear HC7
  by_cases c17:t569 = t573
  rotate_left
  ·rw [if_neg c17] at H
   have c17b0:(t569 == t573) = false:=beq_eq_false_iff_ne.mpr c17
   have c17b1:(t569 != t573) = true:=bne_iff_ne.mpr c17
   (first | rw [c17b0] | (simp only [i64_w,i32_w];rw [c17b0]) | skip)
   have H':=Aside0.mk H
   clear H
   go_wp2
   repeat (go_quiet (fail);try go_wp2)
   go_meet
   case rel => exact ⟨_,(true),(by first | rfl | (simp;done) | (simp [*];done)),H',⟨by first | omega | exact Nat.le_refl _⟩,⟨by (with_reducible repeat (first | apply Kd.S_alloc | apply Kd.S_drewN | apply Kd.S_drew));exact Kd.S_mono HO568.out (fun _ hk => hk.2)⟩,⟨by (with_reducible repeat (first | apply Kd.S_alloc | apply Kd.S_drewN | apply Kd.S_drew));exact Kd.S_mono HO572.out (fun _ hk => hk.2)⟩,⟨by (with_reducible repeat (first | refine blk_drewN ?_ _ | refine blk_drew ?_ | refine blk_alloc ?_ _));exact BK565.out⟩,⟨by repeat (first | (with_reducible first | exact HB.out | apply below_alloc | apply pw_below_drewN | apply below_drew1 | refine below_set ?_ GE565.out) | exact HB.out)⟩⟩
  rw [if_pos c17] at H
  have c17b0:(t569 == t573) = true:=beq_iff_eq.mpr c17
  have c17b1:(t569 != t573) = false:=bne_eq_false_iff_eq.mpr c17
  clear c17
  (first | rw [c17b0] | (simp only [i64_w,i32_w];rw [c17b0]) | skip)
  by_cases c18:t575 = t577
  ·rw [if_pos c18] at H
   have c18b0:(t575 == t577) = true:=beq_iff_eq.mpr c18
   have c18b1:(t575 != t577) = false:=bne_eq_false_iff_eq.mpr c18
   clear c18
   by_cases c19:(t574:Int) = (t576:Int)
   ·rw [if_pos c19] at H
    have c19b0:((t574:Int) == (t576:Int)) = true:=beq_iff_eq.mpr c19
    have c19b1:((t574:Int) != (t576:Int)) = false:=bne_eq_false_iff_eq.mpr c19
    clear c19
    have H':=Aside0.mk H
    clear H
    obtain ⟨Ao20,co20,eo20⟩:=Kd.S_slice HO568.out
    subst eo20
    obtain ⟨Ao21,co21,eo21⟩:=Kd.S_slice HO572.out
    subst eo21
    go_wp2
    repeat (go_quiet (fail);try go_wp2)
    go_meet
    case rel => exact ⟨_,(((t566.length:Int) != (t570.length:Int))),(by first | rfl | (simp;done) | (simp [*];done)),H',⟨by first | omega | exact Nat.le_refl _⟩,⟨by (with_reducible repeat (first | apply Kd.S_alloc | apply Kd.S_drewN | apply Kd.S_drew));exact Kd.S_mono HO568.out (fun _ hk => hk.2)⟩,⟨by (with_reducible repeat (first | apply Kd.S_alloc | apply Kd.S_drewN | apply Kd.S_drew));exact Kd.S_mono HO572.out (fun _ hk => hk.2)⟩,⟨by (with_reducible repeat (first | refine blk_drewN ?_ _ | refine blk_drew ?_ | refine blk_alloc ?_ _));exact BK565.out⟩,⟨by repeat (first | (with_reducible first | exact HB.out | apply below_alloc | apply pw_below_drewN | apply below_drew1 | refine below_set ?_ GE565.out) | exact HB.out)⟩⟩
   rw [if_neg c19] at H
   have c19b0:((t574:Int) == (t576:Int)) = false:=beq_eq_false_iff_ne.mpr c19
   have c19b1:((t574:Int) != (t576:Int)) = true:=bne_iff_ne.mpr c19
   have H':=Aside0.mk H
   clear H
   go_wp2
   repeat (go_quiet (fail);try go_wp2)
   go_meet
   case rel => exact ⟨_,(true),(by first | rfl | (simp;done) | (simp [*];done)),H',⟨by first | omega | exact Nat.le_refl _⟩,⟨by (with_reducible repeat (first | apply Kd.S_alloc | apply Kd.S_drewN | apply Kd.S_drew));exact Kd.S_mono HO568.out (fun _ hk => hk.2)⟩,⟨by (with_reducible repeat (first | apply Kd.S_alloc | apply Kd.S_drewN | apply Kd.S_drew));exact Kd.S_mono HO572.out (fun _ hk => hk.2)⟩,⟨by (with_reducible repeat (first | refine blk_drewN ?_ _ | refine blk_drew ?_ | refine blk_alloc ?_ _));exact BK565.out⟩,⟨by repeat (first | (with_reducible first | exact HB.out | apply below_alloc | apply pw_below_drewN | apply below_drew1 | refine below_set ?_ GE565.out) | exact HB.out)⟩⟩
  rw [if_neg c18] at H
  have c18b0:(t575 == t577) = false:=beq_eq_false_iff_ne.mpr c18
  have c18b1:(t575 != t577) = true:=bne_iff_ne.mpr c18
  have H':=Aside0.mk H
  clear H
  go_wp2
  repeat (go_quiet (fail);try go_wp2)
  go_meet
  case rel => exact ⟨_,(true),(by first | rfl | (simp;done) | (simp [*];done)),H',⟨by first | omega | exact Nat.le_refl _⟩,⟨by (with_reducible repeat (first | apply Kd.S_alloc | apply Kd.S_drewN | apply Kd.S_drew));exact Kd.S_mono HO568.out (fun _ hk => hk.2)⟩,⟨by (with_reducible repeat (first | apply Kd.S_alloc | apply Kd.S_drewN | apply Kd.S_drew));exact Kd.S_mono HO572.out (fun _ hk => hk.2)⟩,⟨by (with_reducible repeat (first | refine blk_drewN ?_ _ | refine blk_drew ?_ | refine blk_alloc ?_ _));exact BK565.out⟩,⟨by repeat (first | (with_reducible first | exact HB.out | apply below_alloc | apply pw_below_drewN | apply below_drew1 | refine below_set ?_ GE565.out) | exact HB.out)⟩⟩
 case rest =>
  clear HC7
  obtain ⟨kq,x57_6,rfl,HA,HJ6,HO_5,HO_7,BK565,HB⟩:=hcut
  cases kq with
  | zero => exact absurd HA.out (by simp [beaconlaw08_PathsComponents.j0])
  | succ kj6 =>
   have H:=HA.out
   clear HA
   simp only [beaconlaw08_PathsComponents.j0] at H
   by_cases c22:x57_6 = true
   ·subst c22
    have H1:(some false) = some r:=by rw [if_pos rfl] at H;exact H
    clear H
    have H:=H1
    clear H1
    obtain rfl:=Option.some.inj H
    go_wp2
    repeat (go_quiet (fail);try go_wp2)
    go_ret
    exact ⟨by first | rfl | (simp [errW_none,errW_some] <;> rfl) | (simp [*,errW_none,errW_some] <;> rfl),by repeat (first | (with_reducible first | exact HB.out | apply below_alloc | apply pw_below_drewN | apply below_drew1 | refine below_set ?_ GE565.out) | exact HB.out)⟩
   replace c22:=Bool.eq_false_iff.mpr c22
   subst c22
   have H1:(beaconlaw08_PathsComponents.l0 kj6 t566 t570 0) = some r:=by rw [if_neg (show ¬ (false = true) by decide)] at H;exact H
   clear H
   have H:=H1
   clear H1
   have H':=Aside0.mk H
   clear H
   go_wp2
   repeat (go_quiet (fail);try go_wp2)
   go_loopg [13] kj6 (fun kq v13 w' => ∃ (x13_2:Int),v13 = .int .i64 x13_2 ∧ Aside0 (beaconlaw08_PathsComponents.l0 kq t566 t570 x13_2 = some r) ∧ Aside0 (kq ≤ kj6) ∧ Aside0 (Kd.S (Kd.slice 3 (Kd.int .i64)) 27 w' w.heap.size (fun k_ => some k_ ≠ (v571:Value).ownBlock) v567 t566) ∧ Aside0 (Kd.S (Kd.slice 3 (Kd.int .i64)) 27 w' w.heap.size (fun k_ => some k_ ≠ (v567:Value).ownBlock) v571 t570) ∧ Aside0 (w'.heap[gb565]? = some (.cells #[(.slice A0_0 l0_0.length c0_0),(.slice A0_1 l0_1.length c0_1)] 25 (0,0))) ∧ Aside0 (Below w.heap.size w w'))
   case atStart => exact ⟨(0),(by first | rfl | (simp;done) | (simp [*];done)),H',⟨Nat.le_refl _⟩,⟨by (with_reducible repeat (first | apply Kd.S_alloc | apply Kd.S_drewN | apply Kd.S_drew));exact HO_5.out⟩,⟨by (with_reducible repeat (first | apply Kd.S_alloc | apply Kd.S_drewN | apply Kd.S_drew));exact HO_7.out⟩,⟨by (with_reducible repeat (first | refine blk_drewN ?_ _ | refine blk_drew ?_ | refine blk_alloc ?_ _));exact BK565.out⟩,⟨by repeat (first | (with_reducible first | exact HB.out | apply below_alloc | apply pw_below_drewN | apply below_drew1 | refine below_set ?_ GE565.out) | exact HB.out)⟩⟩
   case round =>
    clear H'
    obtain ⟨x13_2,rfl,HA,HK2,HO_5,HO_7,BK565,HB⟩:=hrel
    cases gk with
    | zero => exact absurd HA.out (by simp [beaconlaw08_PathsComponents.l0])
    | succ k2 =>
     have H:=HA.out
     clear HA
     simp only [beaconlaw08_PathsComponents.l0] at H
     by_cases c23:x13_2 < (t566.length:Int)
     rotate_left
     ·rw [if_neg c23] at H
      have c23b0:decide (x13_2 < (t566.length:Int)) = false:=decide_eq_false c23
      clear c23
      replace H:=Option.bind_eq_some_iff.mp H
      obtain ⟨t578,A320,H⟩:=H
      replace H:(some t578) = some r:=H
      have A32:=Aside0.mk A320
      clear A320
      obtain rfl:=Option.some.inj H
      obtain ⟨Ao33,co33,eo33⟩:=Kd.S_slice HO_5.out
      subst eo33
      go_wp2_with (first | (go_at_call 14;(with_reducible refine (beaconlaw08_awake.calls  t578 _ A32.out).mono ?_);rintro e w34 ⟨rfl,hb⟩;have n0_:=Aside0.mk (Kd.S_below (by (with_reducible repeat (first | apply Kd.S_alloc | apply Kd.S_drewN | apply Kd.S_drew));exact HO_5.out) hb);have n1_:=Aside0.mk (Kd.S_below (by (with_reducible repeat (first | apply Kd.S_alloc | apply Kd.S_drewN | apply Kd.S_drew));exact HO_7.out) hb);have n2_:=Aside0.mk (blk_below (g:=gb565) (o:=.cells #[.slice A0_0 l0_0.length c0_0,.slice A0_1 l0_1.length c0_1] 25 (0,0)) (by (with_reducible repeat (first | refine blk_drewN ?_ _ | refine blk_drew ?_ | refine blk_alloc ?_ _));exact BK565.out) hb);have n3_:=Aside0.mk (below_step (by repeat (first | (with_reducible first | exact HB.out | apply below_alloc | apply pw_below_drewN | apply below_drew1 | refine below_set ?_ GE565.out) | exact HB.out)) hb);clear HO_5;clear HO_7;clear BK565;clear HB;have HO_5:=n0_;have HO_7:=n1_;have BK565:=n2_;have HB:=n3_;clear n0_ n1_ n2_ n3_;(try clear hb);(try clear hb2);(try clear hk);(try clear hi)))
      go_ret
      exact ⟨by first | rfl | (simp [errW_none,errW_some] <;> rfl) | (simp [*,errW_none,errW_some] <;> rfl),by repeat (first | (with_reducible first | exact HB.out | apply below_alloc | apply pw_below_drewN | apply below_drew1 | refine below_set ?_ GE565.out) | exact HB.out)⟩
     rw [if_pos c23] at H
     have c23b0:decide (x13_2 < (t566.length:Int)) = true:=decide_eq_true c23
     clear c23
     by_cases c24:0 ≤ x13_2
     rotate_left
     ·rw [if_neg c24] at H
      exact absurd H (by simp)
     rw [if_pos c24] at H
     have c24b0:decide (0 ≤ x13_2) = true:=decide_eq_true c24
     clear c24
     by_cases c25:x13_2 < (t570.length:Int)
     rotate_left
     ·rw [if_neg c25] at H
      exact absurd H (by simp)
     rw [if_pos c25] at H
     have c25b0:decide (x13_2 < (t570.length:Int)) = true:=decide_eq_true c25
     clear c25
     replace H:=Option.bind_eq_some_iff.mp H
     obtain ⟨t581,A260,H⟩:=H
     replace H:(if t581 = true then (beaconlaw08_PathsComponents.l0 k2 t566 t570 (wrap64 (x13_2 + 1))) else (some false)) = some r:=H
     have A26:=Aside0.mk A260
     clear A260
     by_cases c27:t581 = true
     ·subst c27
      have H1:(beaconlaw08_PathsComponents.l0 k2 t566 t570 (wrap64 (x13_2 + 1))) = some r:=by rw [if_pos rfl] at H;exact H
      clear H
      have H:=H1
      clear H1
      have H':=Aside0.mk H
      clear H
      obtain ⟨Ao28,co28,eo28⟩:=Kd.S_slice HO_5.out
      subst eo28
      have p579:0 ≤ (x13_2:Int):=of_decide_eq_true (by first | (with_reducible assumption) | assumption)
      have q579:x13_2 < (t566.length:Int):=of_decide_eq_true (by first | (with_reducible assumption) | assumption)
      obtain ⟨ad579,A579_0,c579_0,e579,hx579_0,hl579_0,hi579_0⟩:=at_L8 (Kd.S_reads' HO_5.out).2.2 x13_2 p579 q579
      cases e579
      obtain ⟨ce579,hce579,hMe579,hcc579⟩:=Kd.S_get HO_5.out [] x13_2 p579 (by first | exact q579 | exact of_decide_eq_true (by first | (with_reducible assumption) | assumption) | (have e_:=(Kd.S_reads' HO_5.out).1;omega))
      obtain ⟨ve579_0,rfl,ge579_0⟩:=hMe579
      have hv579_0:=hcc579 0 _ rfl
      rw [Nat.add_zero,show ((Kd.slice 3 (Kd.int .i64))).sz = 1 from rfl,Nat.mul_one] at hv579_0
      replace hv579_0:=Option.some.inj (hv579_0.symm.trans hx579_0)
      rw [hv579_0] at ge579_0
      have HL579_0:=Aside0.mk (show Kd.R (Kd.int .i64) 3 _ _ _ _ (rd_L8 t566 x13_2) from ge579_0)
      clear hv579_0 ge579_0
      clear hcc579 hce579
      have HR579_0:=Aside0.mk hi579_0
      have HC579_0:=Aside0.mk hl579_0
      clear hi579_0 hl579_0
      replace p579:=eq_true p579
      replace q579:=eq_true q579
      obtain ⟨Ao29,co29,eo29⟩:=Kd.S_slice HO_7.out
      subst eo29
      have p580:0 ≤ (x13_2:Int):=of_decide_eq_true (by first | (with_reducible assumption) | assumption)
      have q580:x13_2 < (t570.length:Int):=of_decide_eq_true (by first | (with_reducible assumption) | assumption)
      obtain ⟨ad580,A580_0,c580_0,e580,hx580_0,hl580_0,hi580_0⟩:=at_L8 (Kd.S_reads' HO_7.out).2.2 x13_2 p580 q580
      cases e580
      obtain ⟨ce580,hce580,hMe580,hcc580⟩:=Kd.S_get HO_7.out [] x13_2 p580 (by first | exact q580 | exact of_decide_eq_true (by first | (with_reducible assumption) | assumption) | (have e_:=(Kd.S_reads' HO_7.out).1;omega))
      obtain ⟨ve580_0,rfl,ge580_0⟩:=hMe580
      have hv580_0:=hcc580 0 _ rfl
      rw [Nat.add_zero,show ((Kd.slice 3 (Kd.int .i64))).sz = 1 from rfl,Nat.mul_one] at hv580_0
      replace hv580_0:=Option.some.inj (hv580_0.symm.trans hx580_0)
      rw [hv580_0] at ge580_0
      have HL580_0:=Aside0.mk (show Kd.R (Kd.int .i64) 3 _ _ _ _ (rd_L8 t570 x13_2) from ge580_0)
      clear hv580_0 ge580_0
      clear hcc580 hce580
      have HR580_0:=Aside0.mk hi580_0
      have HC580_0:=Aside0.mk hl580_0
      clear hi580_0 hl580_0
      replace p580:=eq_true p580
      replace q580:=eq_true q580
      go_wp2_with (first | (go_at_call 13;(with_reducible refine (beaconlaw08_ints.calls k2 _ _ (rd_L8 t566 x13_2) _ _ (rd_L8 t570 x13_2) true _ ?side1 ?side2 ?side3 ?side4 A26.out).mono ?_);(case side1 => repeat (first | exact (by repeat (first | (with_reducible exact HR579_0.out) | (with_reducible refine Kd.C_alloc ?_ _) | (with_reducible refine Kd.C_drewN ?_ _) | (with_reducible refine Kd.C_drew ?_) | exact HR579_0.out)) | (with_reducible refine Kd.C_alloc ?_ _) | (with_reducible refine Kd.C_drewN ?_ _) | (with_reducible refine Kd.C_drew ?_)));(case side2 => exact HC579_0.out);(case side3 => repeat (first | exact (by repeat (first | (with_reducible exact HR580_0.out) | (with_reducible refine Kd.C_alloc ?_ _) | (with_reducible refine Kd.C_drewN ?_ _) | (with_reducible refine Kd.C_drew ?_) | exact HR580_0.out)) | (with_reducible refine Kd.C_alloc ?_ _) | (with_reducible refine Kd.C_drewN ?_ _) | (with_reducible refine Kd.C_drew ?_)));(case side4 => exact HC580_0.out);rintro e w' ⟨rfl,⟨nd,rfl⟩⟩;(try first | exact ⟨rfl,_,World.drewN_drewN _ _ _⟩ | exact ⟨rfl,_,Eq.trans (World.drewN_drewN _ _ _) (congrArg (World.drewN _) (Nat.add_assoc _ _ _))⟩)))
      repeat (go_quiet (first | (go_at_call 13;(with_reducible refine (beaconlaw08_ints.calls k2 _ _ (rd_L8 t566 x13_2) _ _ (rd_L8 t570 x13_2) true _ ?side1 ?side2 ?side3 ?side4 A26.out).mono ?_);(case side1 => repeat (first | exact (by repeat (first | (with_reducible exact HR579_0.out) | (with_reducible refine Kd.C_alloc ?_ _) | (with_reducible refine Kd.C_drewN ?_ _) | (with_reducible refine Kd.C_drew ?_) | exact HR579_0.out)) | (with_reducible refine Kd.C_alloc ?_ _) | (with_reducible refine Kd.C_drewN ?_ _) | (with_reducible refine Kd.C_drew ?_)));(case side2 => exact HC579_0.out);(case side3 => repeat (first | exact (by repeat (first | (with_reducible exact HR580_0.out) | (with_reducible refine Kd.C_alloc ?_ _) | (with_reducible refine Kd.C_drewN ?_ _) | (with_reducible refine Kd.C_drew ?_) | exact HR580_0.out)) | (with_reducible refine Kd.C_alloc ?_ _) | (with_reducible refine Kd.C_drewN ?_ _) | (with_reducible refine Kd.C_drew ?_)));(case side4 => exact HC580_0.out);rintro e w' ⟨rfl,⟨nd,rfl⟩⟩;(try first | exact ⟨rfl,_,World.drewN_drewN _ _ _⟩ | exact ⟨rfl,_,Eq.trans (World.drewN_drewN _ _ _) (congrArg (World.drewN _) (Nat.add_assoc _ _ _))⟩)));try go_wp2_with (first | (go_at_call 13;(with_reducible refine (beaconlaw08_ints.calls k2 _ _ (rd_L8 t566 x13_2) _ _ (rd_L8 t570 x13_2) true _ ?side1 ?side2 ?side3 ?side4 A26.out).mono ?_);(case side1 => repeat (first | exact (by repeat (first | (with_reducible exact HR579_0.out) | (with_reducible refine Kd.C_alloc ?_ _) | (with_reducible refine Kd.C_drewN ?_ _) | (with_reducible refine Kd.C_drew ?_) | exact HR579_0.out)) | (with_reducible refine Kd.C_alloc ?_ _) | (with_reducible refine Kd.C_drewN ?_ _) | (with_reducible refine Kd.C_drew ?_)));(case side2 => exact HC579_0.out);(case side3 => repeat (first | exact (by repeat (first | (with_reducible exact HR580_0.out) | (with_reducible refine Kd.C_alloc ?_ _) | (with_reducible refine Kd.C_drewN ?_ _) | (with_reducible refine Kd.C_drew ?_) | exact HR580_0.out)) | (with_reducible refine Kd.C_alloc ?_ _) | (with_reducible refine Kd.C_drewN ?_ _) | (with_reducible refine Kd.C_drew ?_)));(case side4 => exact HC580_0.out);rintro e w' ⟨rfl,⟨nd,rfl⟩⟩;(try first | exact ⟨rfl,_,World.drewN_drewN _ _ _⟩ | exact ⟨rfl,_,Eq.trans (World.drewN_drewN _ _ _) (congrArg (World.drewN _) (Nat.add_assoc _ _ _))⟩))))
      go_roundg k2
      case measure => have:=HJ6.out;have:=HK2.out;omega
      case rel => exact ⟨(wrap64 (x13_2 + 1)),(by first | rfl | (simp;done) | (simp [*];done)),H',⟨by have:=HJ6.out;have:=HK2.out;omega⟩,⟨by (with_reducible repeat (first | apply Kd.S_alloc | apply Kd.S_drewN | apply Kd.S_drew));exact HO_5.out⟩,⟨by (with_reducible repeat (first | apply Kd.S_alloc | apply Kd.S_drewN | apply Kd.S_drew));exact HO_7.out⟩,⟨by (with_reducible repeat (first | refine blk_drewN ?_ _ | refine blk_drew ?_ | refine blk_alloc ?_ _));exact BK565.out⟩,⟨by repeat (first | (with_reducible first | exact HB.out | apply below_alloc | apply pw_below_drewN | apply below_drew1 | refine below_set ?_ GE565.out) | exact HB.out)⟩⟩
     replace c27:=Bool.eq_false_iff.mpr c27
     subst c27
     have H1:(some false) = some r:=by rw [if_neg (show ¬ (false = true) by decide)] at H;exact H
     clear H
     have H:=H1
     clear H1
     obtain rfl:=Option.some.inj H
     obtain ⟨Ao30,co30,eo30⟩:=Kd.S_slice HO_5.out
     subst eo30
     have p579:0 ≤ (x13_2:Int):=of_decide_eq_true (by first | (with_reducible assumption) | assumption)
     have q579:x13_2 < (t566.length:Int):=of_decide_eq_true (by first | (with_reducible assumption) | assumption)
     obtain ⟨ad579,A579_0,c579_0,e579,hx579_0,hl579_0,hi579_0⟩:=at_L8 (Kd.S_reads' HO_5.out).2.2 x13_2 p579 q579
     cases e579
     obtain ⟨ce579,hce579,hMe579,hcc579⟩:=Kd.S_get HO_5.out [] x13_2 p579 (by first | exact q579 | exact of_decide_eq_true (by first | (with_reducible assumption) | assumption) | (have e_:=(Kd.S_reads' HO_5.out).1;omega))
     obtain ⟨ve579_0,rfl,ge579_0⟩:=hMe579
     have hv579_0:=hcc579 0 _ rfl
     rw [Nat.add_zero,show ((Kd.slice 3 (Kd.int .i64))).sz = 1 from rfl,Nat.mul_one] at hv579_0
     replace hv579_0:=Option.some.inj (hv579_0.symm.trans hx579_0)
     rw [hv579_0] at ge579_0
     have HL579_0:=Aside0.mk (show Kd.R (Kd.int .i64) 3 _ _ _ _ (rd_L8 t566 x13_2) from ge579_0)
     clear hv579_0 ge579_0
     clear hcc579 hce579
     have HR579_0:=Aside0.mk hi579_0
     have HC579_0:=Aside0.mk hl579_0
     clear hi579_0 hl579_0
     replace p579:=eq_true p579
     replace q579:=eq_true q579
     obtain ⟨Ao31,co31,eo31⟩:=Kd.S_slice HO_7.out
     subst eo31
     have p580:0 ≤ (x13_2:Int):=of_decide_eq_true (by first | (with_reducible assumption) | assumption)
     have q580:x13_2 < (t570.length:Int):=of_decide_eq_true (by first | (with_reducible assumption) | assumption)
     obtain ⟨ad580,A580_0,c580_0,e580,hx580_0,hl580_0,hi580_0⟩:=at_L8 (Kd.S_reads' HO_7.out).2.2 x13_2 p580 q580
     cases e580
     obtain ⟨ce580,hce580,hMe580,hcc580⟩:=Kd.S_get HO_7.out [] x13_2 p580 (by first | exact q580 | exact of_decide_eq_true (by first | (with_reducible assumption) | assumption) | (have e_:=(Kd.S_reads' HO_7.out).1;omega))
     obtain ⟨ve580_0,rfl,ge580_0⟩:=hMe580
     have hv580_0:=hcc580 0 _ rfl
     rw [Nat.add_zero,show ((Kd.slice 3 (Kd.int .i64))).sz = 1 from rfl,Nat.mul_one] at hv580_0
     replace hv580_0:=Option.some.inj (hv580_0.symm.trans hx580_0)
     rw [hv580_0] at ge580_0
     have HL580_0:=Aside0.mk (show Kd.R (Kd.int .i64) 3 _ _ _ _ (rd_L8 t570 x13_2) from ge580_0)
     clear hv580_0 ge580_0
     clear hcc580 hce580
     have HR580_0:=Aside0.mk hi580_0
     have HC580_0:=Aside0.mk hl580_0
     clear hi580_0 hl580_0
     replace p580:=eq_true p580
     replace q580:=eq_true q580
     go_wp2_with (first | (go_at_call 13;(with_reducible refine (beaconlaw08_ints.calls k2 _ _ (rd_L8 t566 x13_2) _ _ (rd_L8 t570 x13_2) false _ ?side1 ?side2 ?side3 ?side4 A26.out).mono ?_);(case side1 => repeat (first | exact (by repeat (first | (with_reducible exact HR579_0.out) | (with_reducible refine Kd.C_alloc ?_ _) | (with_reducible refine Kd.C_drewN ?_ _) | (with_reducible refine Kd.C_drew ?_) | exact HR579_0.out)) | (with_reducible refine Kd.C_alloc ?_ _) | (with_reducible refine Kd.C_drewN ?_ _) | (with_reducible refine Kd.C_drew ?_)));(case side2 => exact HC579_0.out);(case side3 => repeat (first | exact (by repeat (first | (with_reducible exact HR580_0.out) | (with_reducible refine Kd.C_alloc ?_ _) | (with_reducible refine Kd.C_drewN ?_ _) | (with_reducible refine Kd.C_drew ?_) | exact HR580_0.out)) | (with_reducible refine Kd.C_alloc ?_ _) | (with_reducible refine Kd.C_drewN ?_ _) | (with_reducible refine Kd.C_drew ?_)));(case side4 => exact HC580_0.out);rintro e w' ⟨rfl,⟨nd,rfl⟩⟩;(try first | exact ⟨rfl,_,World.drewN_drewN _ _ _⟩ | exact ⟨rfl,_,Eq.trans (World.drewN_drewN _ _ _) (congrArg (World.drewN _) (Nat.add_assoc _ _ _))⟩)))
     repeat (go_quiet (first | (go_at_call 13;(with_reducible refine (beaconlaw08_ints.calls k2 _ _ (rd_L8 t566 x13_2) _ _ (rd_L8 t570 x13_2) false _ ?side1 ?side2 ?side3 ?side4 A26.out).mono ?_);(case side1 => repeat (first | exact (by repeat (first | (with_reducible exact HR579_0.out) | (with_reducible refine Kd.C_alloc ?_ _) | (with_reducible refine Kd.C_drewN ?_ _) | (with_reducible refine Kd.C_drew ?_) | exact HR579_0.out)) | (with_reducible refine Kd.C_alloc ?_ _) | (with_reducible refine Kd.C_drewN ?_ _) | (with_reducible refine Kd.C_drew ?_)));(case side2 => exact HC579_0.out);(case side3 => repeat (first | exact (by repeat (first | (with_reducible exact HR580_0.out) | (with_reducible refine Kd.C_alloc ?_ _) | (with_reducible refine Kd.C_drewN ?_ _) | (with_reducible refine Kd.C_drew ?_) | exact HR580_0.out)) | (with_reducible refine Kd.C_alloc ?_ _) | (with_reducible refine Kd.C_drewN ?_ _) | (with_reducible refine Kd.C_drew ?_)));(case side4 => exact HC580_0.out);rintro e w' ⟨rfl,⟨nd,rfl⟩⟩;(try first | exact ⟨rfl,_,World.drewN_drewN _ _ _⟩ | exact ⟨rfl,_,Eq.trans (World.drewN_drewN _ _ _) (congrArg (World.drewN _) (Nat.add_assoc _ _ _))⟩)));try go_wp2_with (first | (go_at_call 13;(with_reducible refine (beaconlaw08_ints.calls k2 _ _ (rd_L8 t566 x13_2) _ _ (rd_L8 t570 x13_2) false _ ?side1 ?side2 ?side3 ?side4 A26.out).mono ?_);(case side1 => repeat (first | exact (by repeat (first | (with_reducible exact HR579_0.out) | (with_reducible refine Kd.C_alloc ?_ _) | (with_reducible refine Kd.C_drewN ?_ _) | (with_reducible refine Kd.C_drew ?_) | exact HR579_0.out)) | (with_reducible refine Kd.C_alloc ?_ _) | (with_reducible refine Kd.C_drewN ?_ _) | (with_reducible refine Kd.C_drew ?_)));(case side2 => exact HC579_0.out);(case side3 => repeat (first | exact (by repeat (first | (with_reducible exact HR580_0.out) | (with_reducible refine Kd.C_alloc ?_ _) | (with_reducible refine Kd.C_drewN ?_ _) | (with_reducible refine Kd.C_drew ?_) | exact HR580_0.out)) | (with_reducible refine Kd.C_alloc ?_ _) | (with_reducible refine Kd.C_drewN ?_ _) | (with_reducible refine Kd.C_drew ?_)));(case side4 => exact HC580_0.out);rintro e w' ⟨rfl,⟨nd,rfl⟩⟩;(try first | exact ⟨rfl,_,World.drewN_drewN _ _ _⟩ | exact ⟨rfl,_,Eq.trans (World.drewN_drewN _ _ _) (congrArg (World.drewN _) (Nat.add_assoc _ _ _))⟩))))
     go_ret
     exact ⟨by first | rfl | (simp [errW_none,errW_some] <;> rfl) | (simp [*,errW_none,errW_some] <;> rfl),by repeat (first | (with_reducible first | exact HB.out | apply below_alloc | apply pw_below_drewN | apply below_drew1 | refine below_set ?_ GE565.out) | exact HB.out)⟩
end Go.Proofs.Ytmdkcecbklgihaa.PA
