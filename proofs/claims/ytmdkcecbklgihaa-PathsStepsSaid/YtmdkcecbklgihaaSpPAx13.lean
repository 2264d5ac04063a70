/- Printed by a program of this session (wip/tools/patch_print.py and pr.py, over the kit's print): each Go function as a plain Lean function, and that the Go code comes to just its answers. Conditions: those that each theorem names. -/
import Derived.Test.YtmdkcecbklgihaaSpX
import Derived.Test.YtmdkcecbklgihaaCPAx0
import Derived.Test.YtmdkcecbklgihaaCPAx1
import Derived.Test.YtmdkcecbklgihaaSpPAx5
import Derived.Test.YtmdkcecbklgihaaSpPAx6
import Derived.Test.YtmdkcecbklgihaaSpPAx8
import Derived.Test.YtmdkcecbklgihaaSpPAx9
import Derived.Test.YtmdkcecbklgihaaSpHp
namespace Go.Proofs.Ytmdkcecbklgihaa.PA
open Go.RowKit Go.Proofs.YtmdkcecbklgihaaW.PrintWords Go.Proofs.YtmdkcecbklgihaaW.PrintLast Go.Proofs.YtmdkcecbklgihaaW.PrintMore
attribute [local go_sem] max2_int min2_int max_two min_two max_three min_three max_four min_four
set_option linter.unusedVariables false
set_option linter.unusedSimpArgs false
mutual
noncomputable def beaconlaw08_weight.l0:Nat → Int → Int → Int → List (S40) → List (S74) → Option (Nat)
 | 0,_,_,_,_,_ => none
 | k + 1,x1,x2,x7,x365000,x365001 => if x7 < (x365001.length:Int) then (if 0 ≤ x7 then (if (rd_T74 x365001 x7).f3 = true then (if ((rd_T74 x365001 x7).f0) = x1 then (if ((rd_T74 x365001 x7).f1) = x2 then (beaconlaw08_weight.j1 k x1 x2 x7 true x365000 x365001 ((rd_T74 x365001 x7).f0) ((rd_T74 x365001 x7).f1) ((rd_T74 x365001 x7).f2) ((rd_T74 x365001 x7).f3)) else (if ((rd_T74 x365001 x7).f0) = x2 then (beaconlaw08_weight.j1 k x1 x2 x7 (((rd_T74 x365001 x7).f1) == x1) x365000 x365001 ((rd_T74 x365001 x7).f0) ((rd_T74 x365001 x7).f1) ((rd_T74 x365001 x7).f2) ((rd_T74 x365001 x7).f3)) else (beaconlaw08_weight.j1 k x1 x2 x7 false x365000 x365001 ((rd_T74 x365001 x7).f0) ((rd_T74 x365001 x7).f1) ((rd_T74 x365001 x7).f2) ((rd_T74 x365001 x7).f3)))) else (if ((rd_T74 x365001 x7).f0) = x2 then (beaconlaw08_weight.j1 k x1 x2 x7 (((rd_T74 x365001 x7).f1) == x1) x365000 x365001 ((rd_T74 x365001 x7).f0) ((rd_T74 x365001 x7).f1) ((rd_T74 x365001 x7).f2) ((rd_T74 x365001 x7).f3)) else (beaconlaw08_weight.j1 k x1 x2 x7 false x365000 x365001 ((rd_T74 x365001 x7).f0) ((rd_T74 x365001 x7).f1) ((rd_T74 x365001 x7).f2) ((rd_T74 x365001 x7).f3)))) else (beaconlaw08_weight.j1 k x1 x2 x7 false x365000 x365001 ((rd_T74 x365001 x7).f0) ((rd_T74 x365001 x7).f1) ((rd_T74 x365001 x7).f2) ((rd_T74 x365001 x7).f3))) else (none)) else (some 0)
noncomputable def beaconlaw08_weight.j1:Nat → Int → Int → Int → Bool → List (S40) → List (S74) → Int → Int → Nat → Bool → Option (Nat)
 | 0,_,_,_,_,_,_,_,_,_,_ => none
 | k + 1,x1,x2,x7,x46,x365000,x365001,x367000,x367001,x367002,x367003 => if x46 = true then (some x367002) else (beaconlaw08_weight.l0 k x1 x2 (wrap64 (x7 + 1)) x365000 x365001)
end
noncomputable def beaconlaw08_weight.f (k:Nat) (l0_0:List (S40)) (l0_1:List (S74)) (a1:Int) (a2:Int):Option (Nat):=beaconlaw08_weight.l0 k a1 a2 0 l0_0 l0_1
set_option maxHeartbeats 8000000 in
set_option maxRecDepth 100000 in
theorem beaconlaw08_weight.calls (k:Nat) (A0_0:Option Addr) (c0_0:Nat) (l0_0:List (S40)) (A0_1:Option Addr) (c0_1:Nat) (l0_1:List (S74)) (a1:Int) (a2:Int) (r:Nat) (w:World) (hr0_0:Kd.C k40 w A0_0 l0_0.length l0_0) (hc0_0:l0_0.length ≤ c0_0) (hr0_1:Kd.C k74 w A0_1 l0_1.length l0_1) (hc0_1:l0_1.length ≤ c0_1) (h:beaconlaw08_weight.f k l0_0 l0_1 a1 a2 = some r) :
  Calls Try.prog 24 #[.agg #[.slice A0_0 l0_0.length c0_0,.slice A0_1 l0_1.length c0_1],.int .i64 a1,.int .i64 a2] w fun e w' => e = .returned (.float .f64 r) ∧ Below w.heap.size w w':=by
 have hu25:=Try.underlying25
 have hu74:=Try.underlying74
 have HR0_0:=Aside0.mk hr0_0
 have HC0_0:=Aside0.mk hc0_0
 clear hr0_0 hc0_0
 have HR0_1:=Aside0.mk hr0_1
 have HC0_1:=Aside0.mk hc0_1
 clear hr0_1 hc0_1
 have HB:=Aside0.mk (Below.refl w.heap.size w)
 have H:(beaconlaw08_weight.l0 k a1 a2 0 l0_0 l0_1) = some r:=h
 clear h
 have H':=Aside0.mk H
 clear H
 go_enter Try.func24,Try.ntmps24
 go_wp2_with (first | ((with_reducible refine gate_dst (N:=3) rfl ?_);refine box_event ?hg (N:=3) ?hd (cs:=#[.slice A0_0 l0_0.length c0_0,.slice A0_1 l0_1.length c0_1]) (t:=25) ?hr ?_;(case hd => rfl);(case hg => rfl);(case hr => first | (go_simp;done) | (go_simp;rfl));intro gb364 hg w4 hbox hb;have n0_:=Aside0.mk (below_step (by repeat (first | (with_reducible first | exact HB.out | apply below_alloc | apply pw_below_drewN | apply below_drew1) | exact HB.out)) hb);have n1_:=Aside0.mk (hbox);have n2_:=Aside0.mk ((by rw [hg];exact (below_size (by repeat (first | (with_reducible first | exact HB.out | apply below_alloc | apply pw_below_drewN | apply below_drew1) | exact HB.out))):w.heap.size ≤ gb364));have n3_:=Aside0.mk ((by rw [hg];exact (below_size (by repeat (first | (with_reducible first | exact HB.out | apply below_alloc | apply pw_below_drewN | apply below_drew1) | exact HB.out))):w.heap.size ≤ gb364));clear HB;have HB:=n0_;have BK364:=n1_;have GW364:=n2_;have GE364:=n3_;clear n0_ n1_ n2_ n3_;clear hb hbox hg))
 go_loopg [7] k (fun kq v7 w' => ∃ (x7_1:Int),v7 = .int .i64 x7_1 ∧ Aside0 (beaconlaw08_weight.l0 kq a1 a2 x7_1 l0_0 l0_1 = some r) ∧ Aside0 (kq ≤ k) ∧ Aside0 (w'.heap[gb364]? = some (.cells #[(.slice A0_0 l0_0.length c0_0),(.slice A0_1 l0_1.length c0_1)] 25 (0,0))) ∧ Aside0 (Below w.heap.size w w'))
 case atStart => exact ⟨(0),(by first | rfl | (simp;done) | (simp [*];done)),H',⟨Nat.le_refl _⟩,⟨by (with_reducible repeat (first | refine blk_drewN ?_ _ | refine blk_drew ?_ | refine blk_alloc ?_ _));exact BK364.out⟩,⟨by repeat (first | (with_reducible first | exact HB.out | apply below_alloc | apply pw_below_drewN | apply below_drew1 | refine below_set ?_ GE364.out) | exact HB.out)⟩⟩
 case round =>
  clear H'
  try clear c2
  try clear p2
  obtain ⟨x7_1,rfl,HA,HK1,BK364,HB⟩:=hrel
  cases gk with
  | zero => exact absurd HA.out (by simp [beaconlaw08_weight.l0])
  | succ k1 =>
   have H:=HA.out
   clear HA
   simp only [beaconlaw08_weight.l0] at H
   by_cases c5:x7_1 < (l0_1.length:Int)
   ·rw [if_pos c5] at H
    have c5b0:decide (x7_1 < (l0_1.length:Int)) = true:=decide_eq_true c5
    clear c5
    by_cases c6:0 ≤ x7_1
    ·rw [if_pos c6] at H
     have c6b0:decide (0 ≤ x7_1) = true:=decide_eq_true c6
     clear c6
     have HC7:=Aside0.mk H
     clear H
     have hcz8_0:wr.cell? ⟨gb364,0,none⟩ = some (.slice A0_0 l0_0.length c0_0):=(blk_cell BK364.out 0).trans rfl
     have hcz8_1:wr.cell? ⟨gb364,1,none⟩ = some (.slice A0_1 l0_1.length c0_1):=(blk_cell BK364.out 1).trans rfl
     have hfz8_0:=blk_frozen BK364.out 0
     have hfz8_1:=blk_frozen BK364.out 1
     have p365:0 ≤ (x7_1:Int):=of_decide_eq_true (by first | (with_reducible assumption) | assumption)
     have q365:x7_1 < (l0_1.length:Int):=of_decide_eq_true (by first | (with_reducible assumption) | assumption)
     obtain ⟨ad365,e365,hx365_0,hx365_1,hx365_2,hx365_3⟩:=at_T74 HR0_1.out x7_1 p365 q365
     cases e365
     replace hx365_0:=(HB.out.cell (World.block_lt_of_cell? w _ hx365_0)).trans hx365_0
     replace hx365_1:=(HB.out.cell (World.block_lt_of_cell? w _ hx365_1)).trans hx365_1
     replace hx365_2:=(HB.out.cell (World.block_lt_of_cell? w _ hx365_2)).trans hx365_2
     replace hx365_3:=(HB.out.cell (World.block_lt_of_cell? w _ hx365_3)).trans hx365_3
     replace p365:=eq_true p365
     replace q365:=eq_true q365
     go_upto_region 5 with (first | ((with_reducible refine gate_dst (N:=8) rfl ?_);refine box_event ?hg (N:=8) ?hd (cs:=#[.int .i64 0,.int .i64 0,.float .f64 0,.bool false]) (t:=74) ?hr ?_;(case hd => rfl);(case hg => rfl);(case hr => first | (go_simp;done) | (go_simp;rfl));intro gb366 hg w9 hbox hb;have n0_:=Aside0.mk (blk_below (g:=gb364) (o:=.cells #[.slice A0_0 l0_0.length c0_0,.slice (some ad365) l0_1.length c0_1] 25 (0,0)) (by (with_reducible repeat (first | refine blk_drewN ?_ _ | refine blk_drew ?_ | refine blk_alloc ?_ _));exact BK364.out) hb);have n1_:=Aside0.mk (below_step (by repeat (first | (with_reducible first | exact HB.out | apply below_alloc | apply pw_below_drewN | apply below_drew1 | refine below_set ?_ GE364.out) | exact HB.out)) hb);have n2_:=Aside0.mk (hbox);have n3_:=Aside0.mk ((by rw [hg];exact (below_size (by repeat (first | (with_reducible first | exact HB.out | apply below_alloc | apply pw_below_drewN | apply below_drew1 | refine below_set ?_ GE364.out) | exact HB.out))):w.heap.size ≤ gb366));have n4_:=Aside0.mk ((by rw [hg];exact (below_size (by repeat (first | (with_reducible first | exact HB.out | apply below_alloc | apply pw_below_drewN | apply below_drew1 | refine below_set ?_ GE364.out) | exact HB.out))):w.heap.size ≤ gb366));have n5_:=Aside0.mk ((by rw [hg];exact Nat.ne_of_lt (blk_lt (g:=gb364) (o:=.cells #[.slice A0_0 l0_0.length c0_0,.slice (some ad365) l0_1.length c0_1] 25 (0,0)) (by (with_reducible repeat (first | refine blk_drewN ?_ _ | refine blk_drew ?_ | refine blk_alloc ?_ _));exact BK364.out)):gb364 ≠ gb366));have n6_:=Aside0.mk ((by rw [hg];exact Nat.ne_of_gt (blk_lt (g:=gb364) (o:=.cells #[.slice A0_0 l0_0.length c0_0,.slice (some ad365) l0_1.length c0_1] 25 (0,0)) (by (with_reducible repeat (first | refine blk_drewN ?_ _ | refine blk_drew ?_ | refine blk_alloc ?_ _));exact BK364.out)):gb366 ≠ gb364));clear BK364;clear HB;have BK364:=n0_;have HB:=n1_;have BK366:=n2_;have GW366:=n3_;have GE366:=n4_;have NB364_366:=n5_;have NB366_364:=n6_;clear n0_ n1_ n2_ n3_ n4_ n5_ n6_;clear hb hbox hg;have hnb10:=NB366_364.out;have hnc10:=NB364_366.out;have hcz11_0:w9.cell? ⟨gb366,0,none⟩ = some (.int .i64 0):=(blk_cell BK366.out 0).trans rfl;have hcz11_1:w9.cell? ⟨gb366,1,none⟩ = some (.int .i64 0):=(blk_cell BK366.out 1).trans rfl;have hcz11_2:w9.cell? ⟨gb366,2,none⟩ = some (.float .f64 0):=(blk_cell BK366.out 2).trans rfl;have hcz11_3:w9.cell? ⟨gb366,3,none⟩ = some (.bool false):=(blk_cell BK366.out 3).trans rfl;have hfz11_0:=blk_frozen BK366.out 0;have hfz11_1:=blk_frozen BK366.out 1;have hfz11_2:=blk_frozen BK366.out 2;have hfz11_3:=blk_frozen BK366.out 3))
     (try simp only [Act.put,List.setIfInBounds_toArray,List.set_cons_zero,List.set_cons_succ])
     go_cut [46] (fun v46 wc => ∃ (kq:Nat) (x46_6:Bool),v46 = .bool x46_6 ∧ Aside0 (beaconlaw08_weight.j1 kq a1 a2 x7_1 x46_6 l0_0 l0_1 ((rd_T74 l0_1 x7_1).f0) ((rd_T74 l0_1 x7_1).f1) ((rd_T74 l0_1 x7_1).f2) ((rd_T74 l0_1 x7_1).f3) = some r) ∧ Aside0 (kq ≤ k1) ∧ Aside0 (wc.heap[gb364]? = some (.cells #[(.slice A0_0 l0_0.length c0_0),(.slice (some ad365) l0_1.length c0_1)] 25 (0,0))) ∧ Aside0 (wc.heap[gb366]? = some (.cells #[.int .i64 ((rd_T74 l0_1 x7_1).f0),.int .i64 ((rd_T74 l0_1 x7_1).f1),.float .f64 ((rd_T74 l0_1 x7_1).f2),.bool ((rd_T74 l0_1 x7_1).f3)] 74 (0,0))) ∧ Aside0 (Below w.heap.size w wc))
     case first =>
      have H:=HC7.out
      clear HC7
      obtain ⟨bq12,hbq12⟩:∃ b_:Bool,b_ = ((rd_T74 l0_1 x7_1).f3):=⟨_,rfl⟩
      replace H:(if bq12 = true then (if ((rd_T74 l0_1 x7_1).f0) = a1 then (if ((rd_T74 l0_1 x7_1).f1) = a2 then (beaconlaw08_weight.j1 k1 a1 a2 x7_1 true l0_0 l0_1 ((rd_T74 l0_1 x7_1).f0) ((rd_T74 l0_1 x7_1).f1) ((rd_T74 l0_1 x7_1).f2) bq12) else (if ((rd_T74 l0_1 x7_1).f0) = a2 then (beaconlaw08_weight.j1 k1 a1 a2 x7_1 (((rd_T74 l0_1 x7_1).f1) == a1) l0_0 l0_1 ((rd_T74 l0_1 x7_1).f0) ((rd_T74 l0_1 x7_1).f1) ((rd_T74 l0_1 x7_1).f2) bq12) else (beaconlaw08_weight.j1 k1 a1 a2 x7_1 false l0_0 l0_1 ((rd_T74 l0_1 x7_1).f0) ((rd_T74 l0_1 x7_1).f1) ((rd_T74 l0_1 x7_1).f2) bq12))) else (if ((rd_T74 l0_1 x7_1).f0) = a2 then (beaconlaw08_weight.j1 k1 a1 a2 x7_1 (((rd_T74 l0_1 x7_1).f1) == a1) l0_0 l0_1 ((rd_T74 l0_1 x7_1).f0) ((rd_T74 l0_1 x7_1).f1) ((rd_T74 l0_1 x7_1).f2) bq12) else (beaconlaw08_weight.j1 k1 a1 a2 x7_1 false l0_0 l0_1 ((rd_T74 l0_1 x7_1).f0) ((rd_T74 l0_1 x7_1).f1) ((rd_T74 l0_1 x7_1).f2) bq12))) else (beaconlaw08_weight.j1 k1 a1 a2 x7_1 false l0_0 l0_1 ((rd_T74 l0_1 x7_1).f0) ((rd_T74 l0_1 x7_1).f1) ((rd_T74 l0_1 x7_1).f2) bq12)) = some r:=by rw [← hbq12] at H;exact H
      have Nbq12:=Aside0.mk hbq12
      clear hbq12
      (try rw [← Nbq12.out])
      by_cases c13:bq12 = true
      ·subst c13
       have H1:(if ((rd_T74 l0_1 x7_1).f0) = a1 then (if ((rd_T74 l0_1 x7_1).f1) = a2 then (beaconlaw08_weight.j1 k1 a1 a2 x7_1 true l0_0 l0_1 ((rd_T74 l0_1 x7_1).f0) ((rd_T74 l0_1 x7_1).f1) ((rd_T74 l0_1 x7_1).f2) true) else (if ((rd_T74 l0_1 x7_1).f0) = a2 then (beaconlaw08_weight.j1 k1 a1 a2 x7_1 (((rd_T74 l0_1 x7_1).f1) == a1) l0_0 l0_1 ((rd_T74 l0_1 x7_1).f0) ((rd_T74 l0_1 x7_1).f1) ((rd_T74 l0_1 x7_1).f2) true) else (beaconlaw08_weight.j1 k1 a1 a2 x7_1 false l0_0 l0_1 ((rd_T74 l0_1 x7_1).f0) ((rd_T74 l0_1 x7_1).f1) ((rd_T74 l0_1 x7_1).f2) true))) else (if ((rd_T74 l0_1 x7_1).f0) = a2 then (beaconlaw08_weight.j1 k1 a1 a2 x7_1 (((rd_T74 l0_1 x7_1).f1) == a1) l0_0 l0_1 ((rd_T74 l0_1 x7_1).f0) ((rd_T74 l0_1 x7_1).f1) ((rd_T74 l0_1 x7_1).f2) true) else (beaconlaw08_weight.j1 k1 a1 a2 x7_1 false l0_0 l0_1 ((rd_T74 l0_1 x7_1).f0) ((rd_T74 l0_1 x7_1).f1) ((rd_T74 l0_1 x7_1).f2) true))) = some r:=by rw [if_pos rfl] at H;exact H
       clear H
       have H:=H1
       clear H1
       by_cases c14:((rd_T74 l0_1 x7_1).f0) = a1
       ·rw [if_pos c14] at H
        have c14b0:(((rd_T74 l0_1 x7_1).f0) == a1) = true:=beq_iff_eq.mpr c14
        have c14b1:(((rd_T74 l0_1 x7_1).f0) != a1) = false:=bne_eq_false_iff_eq.mpr c14
        clear c14
        by_cases c15:((rd_T74 l0_1 x7_1).f1) = a2
        ·rw [if_pos c15] at H
         have c15b0:(((rd_T74 l0_1 x7_1).f1) == a2) = true:=beq_iff_eq.mpr c15
         have c15b1:(((rd_T74 l0_1 x7_1).f1) != a2) = false:=bne_eq_false_iff_eq.mpr c15
         clear c15
         have H':=Aside0.mk H
         clear H
         have hnb16:=NB366_364.out
         have hnc16:=NB364_366.out
         have hcz17_0:w9.cell? ⟨gb366,0,none⟩ = some (.int .i64 0):=(blk_cell BK366.out 0).trans (by first | rfl | ((try rw [← Nbq12.out]);rfl))
         have hcz17_1:w9.cell? ⟨gb366,1,none⟩ = some (.int .i64 0):=(blk_cell BK366.out 1).trans (by first | rfl | ((try rw [← Nbq12.out]);rfl))
         have hcz17_2:w9.cell? ⟨gb366,2,none⟩ = some (.float .f64 0):=(blk_cell BK366.out 2).trans (by first | rfl | ((try rw [← Nbq12.out]);rfl))
         have hcz17_3:w9.cell? ⟨gb366,3,none⟩ = some (.bool false):=(blk_cell BK366.out 3).trans (by first | rfl | ((try rw [← Nbq12.out]);rfl))
         have hfz17_0:=blk_frozen BK366.out 0
         have hfz17_1:=blk_frozen BK366.out 1
         have hfz17_2:=blk_frozen BK366.out 2
         have hfz17_3:=blk_frozen BK366.out 3
         go_wp2
         go_meet
         case rel => (try rw [← Nbq12.out]);exact ⟨_,(true),(by first | rfl | (simp;done) | (simp [*];done)),H',⟨by have:=HK1.out;first | omega | exact Nat.le_refl _⟩,⟨by (with_reducible repeat (first | refine blk_drewN ?_ _ | refine blk_drew ?_ | refine blk_alloc ?_ _));refine blk_far ?_ NB364_366.out _;(with_reducible repeat (first | refine blk_drewN ?_ _ | refine blk_drew ?_ | refine blk_alloc ?_ _));refine blk_far ?_ NB364_366.out _;(with_reducible repeat (first | refine blk_drewN ?_ _ | refine blk_drew ?_ | refine blk_alloc ?_ _));refine blk_far ?_ NB364_366.out _;(with_reducible repeat (first | refine blk_drewN ?_ _ | refine blk_drew ?_ | refine blk_alloc ?_ _));refine blk_far ?_ NB364_366.out _;(with_reducible repeat (first | refine blk_drewN ?_ _ | refine blk_drew ?_ | refine blk_alloc ?_ _));first | exact BK364.out | ((try rw [← Nbq12.out]);exact BK364.out) | (have hb_:=BK364.out;(try rw [← Nbq12.out] at hb_);exact hb_)⟩,⟨by (with_reducible repeat (first | refine blk_drewN ?_ _ | refine blk_drew ?_ | refine blk_alloc ?_ _));refine blk_put (cs:=#[.int .i64 ((rd_T74 l0_1 x7_1).f0),.int .i64 ((rd_T74 l0_1 x7_1).f1),.float .f64 ((rd_T74 l0_1 x7_1).f2),.bool false]) ?_ 3 _ rfl;(with_reducible repeat (first | refine blk_drewN ?_ _ | refine blk_drew ?_ | refine blk_alloc ?_ _));refine blk_put (cs:=#[.int .i64 ((rd_T74 l0_1 x7_1).f0),.int .i64 ((rd_T74 l0_1 x7_1).f1),.float .f64 0,.bool false]) ?_ 2 _ rfl;(with_reducible repeat (first | refine blk_drewN ?_ _ | refine blk_drew ?_ | refine blk_alloc ?_ _));refine blk_put (cs:=#[.int .i64 ((rd_T74 l0_1 x7_1).f0),.int .i64 0,.float .f64 0,.bool false]) ?_ 1 _ rfl;(with_reducible repeat (first | refine blk_drewN ?_ _ | refine blk_drew ?_ | refine blk_alloc ?_ _));refine blk_put (cs:=#[.int .i64 0,.int .i64 0,.float .f64 0,.bool false]) ?_ 0 _ rfl;(with_reducible repeat (first | refine blk_drewN ?_ _ | refine blk_drew ?_ | refine blk_alloc ?_ _));first | exact BK366.out | ((try rw [← Nbq12.out]);exact BK366.out) | (have hb_:=BK366.out;(try rw [← Nbq12.out] at hb_);exact hb_)⟩,⟨by repeat (first | (with_reducible first | exact HB.out | apply below_alloc | apply pw_below_drewN | apply below_drew1 | refine below_set ?_ GE364.out | refine below_set ?_ GE366.out) | exact HB.out)⟩⟩
        ·rw [if_neg c15] at H
         have c15b0:(((rd_T74 l0_1 x7_1).f1) == a2) = false:=beq_eq_false_iff_ne.mpr c15
         have c15b1:(((rd_T74 l0_1 x7_1).f1) != a2) = true:=bne_iff_ne.mpr c15
         by_cases c18:((rd_T74 l0_1 x7_1).f0) = a2
         ·rw [if_pos c18] at H
          have c18b0:(((rd_T74 l0_1 x7_1).f0) == a2) = true:=beq_iff_eq.mpr c18
          have c18b1:(((rd_T74 l0_1 x7_1).f0) != a2) = false:=bne_eq_false_iff_eq.mpr c18
          clear c18
          have H':=Aside0.mk H
          clear H
          have hnb19:=NB366_364.out
          have hnc19:=NB364_366.out
          have hcz20_0:w9.cell? ⟨gb366,0,none⟩ = some (.int .i64 0):=(blk_cell BK366.out 0).trans (by first | rfl | ((try rw [← Nbq12.out]);rfl))
          have hcz20_1:w9.cell? ⟨gb366,1,none⟩ = some (.int .i64 0):=(blk_cell BK366.out 1).trans (by first | rfl | ((try rw [← Nbq12.out]);rfl))
          have hcz20_2:w9.cell? ⟨gb366,2,none⟩ = some (.float .f64 0):=(blk_cell BK366.out 2).trans (by first | rfl | ((try rw [← Nbq12.out]);rfl))
          have hcz20_3:w9.cell? ⟨gb366,3,none⟩ = some (.bool false):=(blk_cell BK366.out 3).trans (by first | rfl | ((try rw [← Nbq12.out]);rfl))
          have hfz20_0:=blk_frozen BK366.out 0
          have hfz20_1:=blk_frozen BK366.out 1
          have hfz20_2:=blk_frozen BK366.out 2
          have hfz20_3:=blk_frozen BK366.out 3
          go_wp2
          go_meet
          case rel => (try rw [← Nbq12.out]);exact ⟨_,((((rd_T74 l0_1 x7_1).f1) == a1)),(by first | rfl | (simp;done) | (simp [*];done)),H',⟨by have:=HK1.out;first | omega | exact Nat.le_refl _⟩,⟨by (with_reducible repeat (first | refine blk_drewN ?_ _ | refine blk_drew ?_ | refine blk_alloc ?_ _));refine blk_far ?_ NB364_366.out _;(with_reducible repeat (first | refine blk_drewN ?_ _ | refine blk_drew ?_ | refine blk_alloc ?_ _));refine blk_far ?_ NB364_366.out _;(with_reducible repeat (first | refine blk_drewN ?_ _ | refine blk_drew ?_ | refine blk_alloc ?_ _));refine blk_far ?_ NB364_366.out _;(with_reducible repeat (first | refine blk_drewN ?_ _ | refine blk_drew ?_ | refine blk_alloc ?_ _));refine blk_far ?_ NB364_366.out _;(with_reducible repeat (first | refine blk_drewN ?_ _ | refine blk_drew ?_ | refine blk_alloc ?_ _));first | exact BK364.out | ((try rw [← Nbq12.out]);exact BK364.out) | (have hb_:=BK364.out;(try rw [← Nbq12.out] at hb_);exact hb_)⟩,⟨by (with_reducible repeat (first | refine blk_drewN ?_ _ | refine blk_drew ?_ | refine blk_alloc ?_ _));refine blk_put (cs:=#[.int .i64 ((rd_T74 l0_1 x7_1).f0),.int .i64 ((rd_T74 l0_1 x7_1).f1),.float .f64 ((rd_T74 l0_1 x7_1).f2),.bool false]) ?_ 3 _ rfl;(with_reducible repeat (first | refine blk_drewN ?_ _ | refine blk_drew ?_ | refine blk_alloc ?_ _));refine blk_put (cs:=#[.int .i64 ((rd_T74 l0_1 x7_1).f0),.int .i64 ((rd_T74 l0_1 x7_1).f1),.float .f64 0,.bool false]) ?_ 2 _ rfl;(with_reducible repeat (first | refine blk_drewN ?_ _ | refine blk_drew ?_ | refine blk_alloc ?_ _));refine blk_put (cs:=#[.int .i64 ((rd_T74 l0_1 x7_1).f0),.int .i64 0,.float .f64 0,.bool false]) ?_ 1 _ rfl;(with_reducible repeat (first | refine blk_drewN ?_ _ | refine blk_drew ?_ | refine blk_alloc ?_ _));refine blk_put (cs:=#[.int .i64 0,.int .i64 0,.float .f64 0,.bool false]) ?_ 0 _ rfl;(with_reducible repeat (first | refine blk_drewN ?_ _ | refine blk_drew ?_ | refine blk_alloc ?_ _));first | exact BK366.out | ((try rw [← Nbq12.out]);exact BK366.out) | (have hb_:=BK366.out;(try rw [← Nbq12.out] at hb_);exact hb_)⟩,⟨by repeat (first | (with_reducible first | exact HB.out | apply below_alloc | apply pw_below_drewN | apply below_drew1 | refine below_set ?_ GE364.out | refine below_set ?_ GE366.out) | exact HB.out)⟩⟩
         ·rw [if_neg c18] at H
          have c18b0:(((rd_T74 l0_1 x7_1).f0) == a2) = false:=beq_eq_false_iff_ne.mpr c18
          have c18b1:(((rd_T74 l0_1 x7_1).f0) != a2) = true:=bne_iff_ne.mpr c18
          have H':=Aside0.mk H
          clear H
          have hnb21:=NB366_364.out
          have hnc21:=NB364_366.out
          have hcz22_0:w9.cell? ⟨gb366,0,none⟩ = some (.int .i64 0):=(blk_cell BK366.out 0).trans (by first | rfl | ((try rw [← Nbq12.out]);rfl))
          have hcz22_1:w9.cell? ⟨gb366,1,none⟩ = some (.int .i64 0):=(blk_cell BK366.out 1).trans (by first | rfl | ((try rw [← Nbq12.out]);rfl))
          have hcz22_2:w9.cell? ⟨gb366,2,none⟩ = some (.float .f64 0):=(blk_cell BK366.out 2).trans (by first | rfl | ((try rw [← Nbq12.out]);rfl))
          have hcz22_3:w9.cell? ⟨gb366,3,none⟩ = some (.bool false):=(blk_cell BK366.out 3).trans (by first | rfl | ((try rw [← Nbq12.out]);rfl))
          have hfz22_0:=blk_frozen BK366.out 0
          have hfz22_1:=blk_frozen BK366.out 1
          have hfz22_2:=blk_frozen BK366.out 2
          have hfz22_3:=blk_frozen BK366.out 3
          go_wp2
          go_meet
          case rel => (try rw [← Nbq12.out]);exact ⟨_,(false),(by first | rfl | (simp;done) | (simp [*];done)),H',⟨by have:=HK1.out;first | omega | exact Nat.le_refl _⟩,⟨by (with_reducible repeat (first | refine blk_drewN ?_ _ | refine blk_drew ?_ | refine blk_alloc ?_ _));refine blk_far ?_ NB364_366.out _;(with_reducible repeat (first | refine blk_drewN ?_ _ | refine blk_drew ?_ | refine blk_alloc ?_ _));refine blk_far ?_ NB364_366.out _;(with_reducible repeat (first | refine blk_drewN ?_ _ | refine blk_drew ?_ | refine blk_alloc ?_ _));refine blk_far ?_ NB364_366.out _;(with_reducible repeat (first | refine blk_drewN ?_ _ | refine blk_drew ?_ | refine blk_alloc ?_ _));refine blk_far ?_ NB364_366.out _;(with_reducible repeat (first | refine blk_drewN ?_ _ | refine blk_drew ?_ | refine blk_alloc ?_ _));first | exact BK364.out | ((try rw [← Nbq12.out]);exact BK364.out) | (have hb_:=BK364.out;(try rw [← Nbq12.out] at hb_);exact hb_)⟩,⟨by (with_reducible repeat (first | refine blk_drewN ?_ _ | refine blk_drew ?_ | refine blk_alloc ?_ _));refine blk_put (cs:=#[.int .i64 ((rd_T74 l0_1 x7_1).f0),.int .i64 ((rd_T74 l0_1 x7_1).f1),.float .f64 ((rd_T74 l0_1 x7_1).f2),.bool false]) ?_ 3 _ rfl;(with_reducible repeat (first | refine blk_drewN ?_ _ | refine blk_drew ?_ | refine blk_alloc ?_ _));refine blk_put (cs:=#[.int .i64 ((rd_T74 l0_1 x7_1).f0),.int .i64 ((rd_T74 l0_1 x7_1).f1),.float .f64 0,.bool false]) ?_ 2 _ rfl;(with_reducible repeat (first | refine blk_drewN ?_ _ | refine blk_drew ?_ | refine blk_alloc ?_ _));refine blk_put (cs:=#[.int .i64 ((rd_T74 l0_1 x7_1).f0),.int .i64 0,.float .f64 0,.bool false]) ?_ 1 _ rfl;(with_reducible repeat (first | refine blk_drewN ?_ _ | refine blk_drew ?_ | refine blk_alloc ?_ _));refine blk_put (cs:=#[.int .i64 0,.int .i64 0,.float .f64 0,.bool false]) ?_ 0 _ rfl;(with_reducible repeat (first | refine blk_drewN ?_ _ | refine blk_drew ?_ | refine blk_alloc ?_ _));first | exact BK366.out | ((try rw [← Nbq12.out]);exact BK366.out) | (have hb_:=BK366.out;(try rw [← Nbq12.out] at hb_);exact hb_)⟩,⟨by repeat (first | (with_reducible first | exact HB.out | apply below_alloc | apply pw_below_drewN | apply below_drew1 | refine below_set ?_ GE364.out | refine below_set ?_ GE366.out) | exact HB.out)⟩⟩
       ·rw [if_neg c14] at H
        have c14b0:(((rd_T74 l0_1 x7_1).f0) == a1) = false:=beq_eq_false_iff_ne.mpr c14
        have c14b1:(((rd_T74 l0_1 x7_1).f0) != a1) = true:=bne_iff_ne.mpr c14
        by_cases c23:((rd_T74 l0_1 x7_1).f0) = a2
        ·rw [if_pos c23] at H
         have c23b0:(((rd_T74 l0_1 x7_1).f0) == a2) = true:=beq_iff_eq.mpr c23
         have c23b1:(((rd_T74 l0_1 x7_1).f0) != a2) = false:=bne_eq_false_iff_eq.mpr c23
         clear c23
         have H':=Aside0.mk H
         clear H
         have hnb24:=NB366_364.out
         have hnc24:=NB364_366.out
         have hcz25_0:w9.cell? ⟨gb366,0,none⟩ = some (.int .i64 0):=(blk_cell BK366.out 0).trans (by first | rfl | ((try rw [← Nbq12.out]);rfl))
         have hcz25_1:w9.cell? ⟨gb366,1,none⟩ = some (.int .i64 0):=(blk_cell BK366.out 1).trans (by first | rfl | ((try rw [← Nbq12.out]);rfl))
         have hcz25_2:w9.cell? ⟨gb366,2,none⟩ = some (.float .f64 0):=(blk_cell BK366.out 2).trans (by first | rfl | ((try rw [← Nbq12.out]);rfl))
         have hcz25_3:w9.cell? ⟨gb366,3,none⟩ = some (.bool false):=(blk_cell BK366.out 3).trans (by first | rfl | ((try rw [← Nbq12.out]);rfl))
         have hfz25_0:=blk_frozen BK366.out 0
         have hfz25_1:=blk_frozen BK366.out 1
         have hfz25_2:=blk_frozen BK366.out 2
         have hfz25_3:=blk_frozen BK366.out 3
         go_wp2
         go_meet
         case rel => (try rw [← Nbq12.out]);exact ⟨_,((((rd_T74 l0_1 x7_1).f1) == a1)),(by first | rfl | (simp;done) | (simp [*];done)),H',⟨by have:=HK1.out;first | omega | exact Nat.le_refl _⟩,⟨by (with_reducible repeat (first | refine blk_drewN ?_ _ | refine blk_drew ?_ | refine blk_alloc ?_ _));refine blk_far ?_ NB364_366.out _;(with_reducible repeat (first | refine blk_drewN ?_ _ | refine blk_drew ?_ | refine blk_alloc ?_ _));refine blk_far ?_ NB364_366.out _;(with_reducible repeat (first | refine blk_drewN ?_ _ | refine blk_drew ?_ | refine blk_alloc ?_ _));refine blk_far ?_ NB364_366.out _;(with_reducible repeat (first | refine blk_drewN ?_ _ | refine blk_drew ?_ | refine blk_alloc ?_ _));refine blk_far ?_ NB364_366.out _;(with_reducible repeat (first | refine blk_drewN ?_ _ | refine blk_drew ?_ | refine blk_alloc ?_ _));first | exact BK364.out | ((try rw [← Nbq12.out]);exact BK364.out) | (have hb_:=BK364.out;(try rw [← Nbq12.out] at hb_);exact hb_)⟩,⟨by (with_reducible repeat (first | refine blk_drewN ?_ _ | refine blk_drew ?_ | refine blk_alloc ?_ _));refine blk_put (cs:=#[.int .i64 ((rd_T74 l0_1 x7_1).f0),.int .i64 ((rd_T74 l0_1 x7_1).f1),.float .f64 ((rd_T74 l0_1 x7_1).f2),.bool false]) ?_ 3 _ rfl;(with_reducible repeat (first | refine blk_drewN ?_ _ | refine blk_drew ?_ | refine blk_alloc ?_ _));refine blk_put (cs:=#[.int .i64 ((rd_T74 l0_1 x7_1).f0),.int .i64 ((rd_T74 l0_1 x7_1).f1),.float .f64 0,.bool false]) ?_ 2 _ rfl;(with_reducible repeat (first | refine blk_drewN ?_ _ | refine blk_drew ?_ | refine blk_alloc ?_ _));refine blk_put (cs:=#[.int .i64 ((rd_T74 l0_1 x7_1).f0),.int .i64 0,.float .f64 0,.bool false]) ?_ 1 _ rfl;(with_reducible repeat (first | refine blk_drewN ?_ _ | refine blk_drew ?_ | refine blk_alloc ?_ _));refine blk_put (cs:=#[.int .i64 0,.int .i64 0,.float .f64 0,.bool false]) ?_ 0 _ rfl;(with_reducible repeat (first | refine blk_drewN ?_ _ | refine blk_drew ?_ | refine blk_alloc ?_ _));first | exact BK366.out | ((try rw [← Nbq12.out]);exact BK366.out) | (have hb_:=BK366.out;(try rw [← Nbq12.out] at hb_);exact hb_)⟩,⟨by repeat (first | (with_reducible first | exact HB.out | apply below_alloc | apply pw_below_drewN | apply below_drew1 | refine below_set ?_ GE364.out | refine below_set ?_ GE366.out) | exact HB.out)⟩⟩
        ·rw [if_neg c23] at H
         have c23b0:(((rd_T74 l0_1 x7_1).f0) == a2) = false:=beq_eq_false_iff_ne.mpr c23
         have c23b1:(((rd_T74 l0_1 x7_1).f0) != a2) = true:=bne_iff_ne.mpr c23
         have H':=Aside0.mk H
         clear H
         have hnb26:=NB366_364.out
         have hnc26:=NB364_366.out
         have hcz27_0:w9.cell? ⟨gb366,0,none⟩ = some (.int .i64 0):=(blk_cell BK366.out 0).trans (by first | rfl | ((try rw [← Nbq12.out]);rfl))
         have hcz27_1:w9.cell? ⟨gb366,1,none⟩ = some (.int .i64 0):=(blk_cell BK366.out 1).trans (by first | rfl | ((try rw [← Nbq12.out]);rfl))
         have hcz27_2:w9.cell? ⟨gb366,2,none⟩ = some (.float .f64 0):=(blk_cell BK366.out 2).trans (by first | rfl | ((try rw [← Nbq12.out]);rfl))
         have hcz27_3:w9.cell? ⟨gb366,3,none⟩ = some (.bool false):=(blk_cell BK366.out 3).trans (by first | rfl | ((try rw [← Nbq12.out]);rfl))
         have hfz27_0:=blk_frozen BK366.out 0
         have hfz27_1:=blk_frozen BK366.out 1
         have hfz27_2:=blk_frozen BK366.out 2
         have hfz27_3:=blk_frozen BK366.out 3
         go_wp2
         go_meet
         case rel => (try rw [← Nbq12.out]);exact ⟨_,(false),(by first | rfl | (simp;done) | (simp [*];done)),H',⟨by have:=HK1.out;first | omega | exact Nat.le_refl _⟩,⟨by (with_reducible repeat (first | refine blk_drewN ?_ _ | refine blk_drew ?_ | refine blk_alloc ?_ _));refine blk_far ?_ NB364_366.out _;(with_reducible repeat (first | refine blk_drewN ?_ _ | refine blk_drew ?_ | refine blk_alloc ?_ _));refine blk_far ?_ NB364_366.out _;(with_reducible repeat (first | refine blk_drewN ?_ _ | refine blk_drew ?_ | refine blk_alloc ?_ _));refine blk_far ?_ NB364_366.out _;(with_reducible repeat (first | refine blk_drewN ?_ _ | refine blk_drew ?_ | refine blk_alloc ?_ _));refine blk_far ?_ NB364_366.out _;(with_reducible repeat (first | refine blk_drewN ?_ _ | refine blk_drew ?_ | refine blk_alloc ?_ _));first | exact BK364.out | ((try rw [← Nbq12.out]);exact BK364.out) | (have hb_:=BK364.out;(try rw [← Nbq12.out] at hb_);exact hb_)⟩,⟨by (with_reducible repeat (first | refine blk_drewN ?_ _ | refine blk_drew ?_ | refine blk_alloc ?_ _));refine blk_put (cs:=#[.int .i64 ((rd_T74 l0_1 x7_1).f0),.int .i64 ((rd_T74 l0_1 x7_1).f1),.float .f64 ((rd_T74 l0_1 x7_1).f2),.bool false]) ?_ 3 _ rfl;(with_reducible repeat (first | refine blk_drewN ?_ _ | refine blk_drew ?_ | refine blk_alloc ?_ _));refine blk_put (cs:=#[.int .i64 ((rd_T74 l0_1 x7_1).f0),.int .i64 ((rd_T74 l0_1 x7_1).f1),.float .f64 0,.bool false]) ?_ 2 _ rfl;(with_reducible repeat (first | refine blk_drewN ?_ _ | refine blk_drew ?_ | refine blk_alloc ?_ _));refine blk_put (cs:=#[.int .i64 ((rd_T74 l0_1 x7_1).f0),.int .i64 0,.float .f64 0,.bool false]) ?_ 1 _ rfl;(with_reducible repeat (first | refine blk_drewN ?_ _ | refine blk_drew ?_ | refine blk_alloc ?_ _));refine blk_put (cs:=#[.int .i64 0,.int .i64 0,.float .f64 0,.bool false]) ?_ 0 _ rfl;(with_reducible repeat (first | refine blk_drewN ?_ _ | refine blk_drew ?_ | refine blk_alloc ?_ _));first | exact BK366.out | ((try rw [← Nbq12.out]);exact BK366.out) | (have hb_:=BK366.out;(try rw [← Nbq12.out] at hb_);exact hb_)⟩,⟨by repeat (first | (with_reducible first | exact HB.out | apply below_alloc | apply pw_below_drewN | apply below_drew1 | refine below_set ?_ GE364.out | refine below_set ?_ GE366.out) | exact HB.out)⟩⟩
      ·replace c13:=Bool.eq_false_iff.mpr c13
       subst c13
       have H1:(beaconlaw08_weight.j1 k1 a1 a2 x7_1 false l0_0 l0_1 ((rd_T74 l0_1 x7_1).f0) ((rd_T74 l0_1 x7_1).f1) ((rd_T74 l0_1 x7_1).f2) false) = some r:=by rw [if_neg (show ¬ (false = true) by decide)] at H;exact H
       clear H
       have H:=H1
       clear H1
       have H':=Aside0.mk H
       clear H
       have hnb28:=NB366_364.out
       have hnc28:=NB364_366.out
       have hcz29_0:w9.cell? ⟨gb366,0,none⟩ = some (.int .i64 0):=(blk_cell BK366.out 0).trans (by first | rfl | ((try rw [← Nbq12.out]);rfl))
       have hcz29_1:w9.cell? ⟨gb366,1,none⟩ = some (.int .i64 0):=(blk_cell BK366.out 1).trans (by first | rfl | ((try rw [← Nbq12.out]);rfl))
       have hcz29_2:w9.cell? ⟨gb366,2,none⟩ = some (.float .f64 0):=(blk_cell BK366.out 2).trans (by first | rfl | ((try rw [← Nbq12.out]);rfl))
       have hcz29_3:w9.cell? ⟨gb366,3,none⟩ = some (.bool false):=(blk_cell BK366.out 3).trans (by first | rfl | ((try rw [← Nbq12.out]);rfl))
       have hfz29_0:=blk_frozen BK366.out 0
       have hfz29_1:=blk_frozen BK366.out 1
       have hfz29_2:=blk_frozen BK366.out 2
       have hfz29_3:=blk_frozen BK366.out 3
       go_wp2
       go_meet
       case rel => (try rw [← Nbq12.out]);exact ⟨_,(false),(by first | rfl | (simp;done) | (simp [*];done)),H',⟨by have:=HK1.out;first | omega | exact Nat.le_refl _⟩,⟨by (with_reducible repeat (first | refine blk_drewN ?_ _ | refine blk_drew ?_ | refine blk_alloc ?_ _));refine blk_far ?_ NB364_366.out _;(with_reducible repeat (first | refine blk_drewN ?_ _ | refine blk_drew ?_ | refine blk_alloc ?_ _));refine blk_far ?_ NB364_366.out _;(with_reducible repeat (first | refine blk_drewN ?_ _ | refine blk_drew ?_ | refine blk_alloc ?_ _));refine blk_far ?_ NB364_366.out _;(with_reducible repeat (first | refine blk_drewN ?_ _ | refine blk_drew ?_ | refine blk_alloc ?_ _));refine blk_far ?_ NB364_366.out _;(with_reducible repeat (first | refine blk_drewN ?_ _ | refine blk_drew ?_ | refine blk_alloc ?_ _));first | exact BK364.out | ((try rw [← Nbq12.out]);exact BK364.out) | (have hb_:=BK364.out;(try rw [← Nbq12.out] at hb_);exact hb_)⟩,⟨by (with_reducible repeat (first | refine blk_drewN ?_ _ | refine blk_drew ?_ | refine blk_alloc ?_ _));refine blk_put (cs:=#[.int .i64 ((rd_T74 l0_1 x7_1).f0),.int .i64 ((rd_T74 l0_1 x7_1).f1),.float .f64 ((rd_T74 l0_1 x7_1).f2),.bool false]) ?_ 3 _ rfl;(with_reducible repeat (first | refine blk_drewN ?_ _ | refine blk_drew ?_ | refine blk_alloc ?_ _));refine blk_put (cs:=#[.int .i64 ((rd_T74 l0_1 x7_1).f0),.int .i64 ((rd_T74 l0_1 x7_1).f1),.float .f64 0,.bool false]) ?_ 2 _ rfl;(with_reducible repeat (first | refine blk_drewN ?_ _ | refine blk_drew ?_ | refine blk_alloc ?_ _));refine blk_put (cs:=#[.int .i64 ((rd_T74 l0_1 x7_1).f0),.int .i64 0,.float .f64 0,.bool false]) ?_ 1 _ rfl;(with_reducible repeat (first | refine blk_drewN ?_ _ | refine blk_drew ?_ | refine blk_alloc ?_ _));refine blk_put (cs:=#[.int .i64 0,.int .i64 0,.float .f64 0,.bool false]) ?_ 0 _ rfl;(with_reducible repeat (first | refine blk_drewN ?_ _ | refine blk_drew ?_ | refine blk_alloc ?_ _));first | exact BK366.out | ((try rw [← Nbq12.out]);exact BK366.out) | (have hb_:=BK366.out;(try rw [← Nbq12.out] at hb_);exact hb_)⟩,⟨by repeat (first | (with_reducible first | exact HB.out | apply below_alloc | apply pw_below_drewN | apply below_drew1 | refine below_set ?_ GE364.out | refine below_set ?_ GE366.out) | exact HB.out)⟩⟩
     case rest =>
      clear HC7
      try clear c1
      try clear q1
      try clear c2
      try clear p2
      try clear p3
      try clear q3
      try clear hx3
      try clear c5
      try clear c5b0
      try clear c6
      try clear c6b0
      try clear c10
      try clear q12
      try clear c13
      try clear c14
      try clear c14b0
      try clear c14b1
      try clear c15
      try clear c15b0
      try clear c15b1
      try clear c16
      try clear c18
      try clear c18b0
      try clear c18b1
      try clear c19
      try clear c21
      try clear c23
      try clear c23b0
      try clear c23b1
      try clear c24
      try clear c26
      try clear c28
      try clear hcz11_0
      try clear hcz11_1
      try clear hcz11_2
      try clear hcz11_3
      try clear hcz17_0
      try clear hcz17_1
      try clear hcz17_2
      try clear hcz17_3
      try clear hcz20_0
      try clear hcz20_1
      try clear hcz20_2
      try clear hcz20_3
      try clear hcz22_0
      try clear hcz22_1
      try clear hcz22_2
      try clear hcz22_3
      try clear hcz25_0
      try clear hcz25_1
      try clear hcz25_2
      try clear hcz25_3
      try clear hcz27_0
      try clear hcz27_1
      try clear hcz27_2
      try clear hcz27_3
      try clear hcz29_0
      try clear hcz29_1
      try clear hcz29_2
      try clear hcz29_3
      try clear hcz8_0
      try clear hcz8_1
      try clear hfz11_0
      try clear hfz11_1
      try clear hfz11_2
      try clear hfz11_3
      try clear hfz17_0
      try clear hfz17_1
      try clear hfz17_2
      try clear hfz17_3
      try clear hfz20_0
      try clear hfz20_1
      try clear hfz20_2
      try clear hfz20_3
      try clear hfz22_0
      try clear hfz22_1
      try clear hfz22_2
      try clear hfz22_3
      try clear hfz25_0
      try clear hfz25_1
      try clear hfz25_2
      try clear hfz25_3
      try clear hfz27_0
      try clear hfz27_1
      try clear hfz27_2
      try clear hfz27_3
      try clear hfz29_0
      try clear hfz29_1
      try clear hfz29_2
      try clear hfz29_3
      try clear hfz8_0
      try clear hfz8_1
      try clear hx365_0
      try clear hx365_1
      try clear hx365_2
      try clear hx365_3
      try clear p2
      try clear p365
      try clear q365
      obtain ⟨kq,x46_6,rfl,HA,HJ6,BK364,BK366,HB⟩:=hcut
      cases kq with
      | zero => exact absurd HA.out (by simp [beaconlaw08_weight.j1])
      | succ kj6 =>
       have H:=HA.out
       clear HA
       simp only [beaconlaw08_weight.j1] at H
       by_cases c30:x46_6 = true
       ·subst c30
        have H1:(some ((rd_T74 l0_1 x7_1).f2)) = some r:=by rw [if_pos rfl] at H;exact H
        clear H
        have H:=H1
        clear H1
        obtain rfl:=Option.some.inj H
        have hnb31:=NB366_364.out
        have hnc31:=NB364_366.out
        have hcz32_0:wc.cell? ⟨gb366,0,none⟩ = some (.int .i64 ((rd_T74 l0_1 x7_1).f0)):=(blk_cell BK366.out 0).trans rfl
        have hcz32_1:wc.cell? ⟨gb366,1,none⟩ = some (.int .i64 ((rd_T74 l0_1 x7_1).f1)):=(blk_cell BK366.out 1).trans rfl
        have hcz32_2:wc.cell? ⟨gb366,2,none⟩ = some (.float .f64 ((rd_T74 l0_1 x7_1).f2)):=(blk_cell BK366.out 2).trans rfl
        have hcz32_3:wc.cell? ⟨gb366,3,none⟩ = some (.bool ((rd_T74 l0_1 x7_1).f3)):=(blk_cell BK366.out 3).trans rfl
        have hfz32_0:=blk_frozen BK366.out 0
        have hfz32_1:=blk_frozen BK366.out 1
        have hfz32_2:=blk_frozen BK366.out 2
        have hfz32_3:=blk_frozen BK366.out 3
        go_wp2
        go_ret
        exact ⟨by first | rfl | (simp [errW_none,errW_some] <;> rfl) | (simp [*,errW_none,errW_some] <;> rfl),by repeat (first | (with_reducible first | exact HB.out | apply below_alloc | apply pw_below_drewN | apply below_drew1 | refine below_set ?_ GE364.out | refine below_set ?_ GE366.out) | exact HB.out)⟩
       ·replace c30:=Bool.eq_false_iff.mpr c30
        subst c30
        have H1:(beaconlaw08_weight.l0 kj6 a1 a2 (wrap64 (x7_1 + 1)) l0_0 l0_1) = some r:=by rw [if_neg (show ¬ (false = true) by decide)] at H;exact H
        clear H
        have H:=H1
        clear H1
        have H':=Aside0.mk H
        clear H
        go_wp2
        go_roundg kj6
        case measure => have:=HK1.out;have:=HJ6.out;omega
        case rel => exact ⟨(wrap64 (x7_1 + 1)),(by first | rfl | (simp;done) | (simp [*];done)),H',⟨by have:=HK1.out;have:=HJ6.out;omega⟩,⟨by (with_reducible repeat (first | refine blk_drewN ?_ _ | refine blk_drew ?_ | refine blk_alloc ?_ _));exact BK364.out⟩,⟨by repeat (first | (with_reducible first | exact HB.out | apply below_alloc | apply pw_below_drewN | apply below_drew1 | refine below_set ?_ GE364.out | refine below_set ?_ GE366.out) | exact HB.out)⟩⟩
    ·rw [if_neg c6] at H
     exact absurd H (by simp)
   ·rw [if_neg c5] at H
    have c5b0:decide (x7_1 < (l0_1.length:Int)) = false:=decide_eq_false c5
    clear c5
    obtain rfl:=Option.some.inj H
    have hcz33_0:wr.cell? ⟨gb364,0,none⟩ = some (.slice A0_0 l0_0.length c0_0):=(blk_cell BK364.out 0).trans rfl
    have hcz33_1:wr.cell? ⟨gb364,1,none⟩ = some (.slice A0_1 l0_1.length c0_1):=(blk_cell BK364.out 1).trans rfl
    have hfz33_0:=blk_frozen BK364.out 0
    have hfz33_1:=blk_frozen BK364.out 1
    go_wp2
    go_ret
    exact ⟨by first | rfl | (simp [errW_none,errW_some] <;> rfl) | (simp [*,errW_none,errW_some] <;> rfl),by repeat (first | (with_reducible first | exact HB.out | apply below_alloc | apply pw_below_drewN | apply below_drew1 | refine below_set ?_ GE364.out) | exact HB.out)⟩
end Go.Proofs.Ytmdkcecbklgihaa.PA
