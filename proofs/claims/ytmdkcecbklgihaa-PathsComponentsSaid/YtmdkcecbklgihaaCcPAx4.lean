/- Printed by a program of this session (wip/tools/patch_print.py and pr.py, over the kit's print): each Go function as a plain Lean function, and that the Go code comes to just its answers. Conditions: those that each theorem names. -/
import Derived.Test.YtmdkcecbklgihaaCcPAx0
import Derived.Test.YtmdkcecbklgihaaCcPAx3
namespace Go.Proofs.Ytmdkcecbklgihaa.PA
open Go.RowKit Go.Proofs.YtmdkcecbklgihaaW.PrintWords Go.Proofs.YtmdkcecbklgihaaW.PrintLast Go.Proofs.YtmdkcecbklgihaaW.PrintMore
attribute [local go_sem] max2_int min2_int max_two min_two max_three min_three max_four min_four
set_option linter.unusedVariables false
set_option linter.unusedSimpArgs false
mutual
def beaconref07_Check.j0:Nat → Bool → List (S40) → List (S74) → Option (Int)
 | 0,_,_,_ => none
 | k + 1,x16,x157000,x157001 => if x16 = true then (some 2) else (beaconref07_Check.l0 k 0 x157000 x157001)
def beaconref07_Check.l0:Nat → Int → List (S40) → List (S74) → Option (Int)
 | 0,_,_,_ => none
 | k + 1,x3,x157000,x157001 => if x3 < (x157000.length:Int) then (if 0 ≤ x3 then ((beaconref02_CheckId.f ((rd_T40 x157000 x3).f0)).bind fun t158 => (if t158 = 0 then (if x3 > 0 then (if 0 ≤ (wrap64 (x3 - 1)) then (if (wrap64 (x3 - 1)) < (x157000.length:Int) then (beaconref07_Check.j2 k x3 (decide (((rd_T40 x157000 (wrap64 (x3 - 1))).f0) ≥ ((rd_T40 x157000 x3).f0))) x157000 x157001) else (none)) else (none)) else (beaconref07_Check.j2 k x3 false x157000 x157001)) else (beaconref07_Check.j2 k x3 true x157000 x157001))) else (none)) else (beaconref07_Check.l1 k 0 x157000 x157001)
def beaconref07_Check.j2:Nat → Int → Bool → List (S40) → List (S74) → Option (Int)
 | 0,_,_,_,_ => none
 | k + 1,x3,x51,x157000,x157001 => if x51 = true then (some 70) else (beaconref07_Check.l0 k (wrap64 (x3 + 1)) x157000 x157001)
def beaconref07_Check.l1:Nat → Int → List (S40) → List (S74) → Option (Int)
 | 0,_,_,_ => none
 | k + 1,x4,x157000,x157001 => if x4 < (x157001.length:Int) then (if 0 ≤ x4 then (if ((rd_T74 x157001 x4).f0) ≥ ((rd_T74 x157001 x4).f1) then (beaconref07_Check.j4 k x4 true x157000 x157001 ((rd_T74 x157001 x4).f0) ((rd_T74 x157001 x4).f1) ((rd_T74 x157001 x4).f2) ((rd_T74 x157001 x4).f3)) else ((beaconref07_Place.f k x157000 x157001 ((rd_T74 x157001 x4).f0)).bind fun t163 => (if t163 < 0 then (beaconref07_Check.j4 k x4 true x157000 x157001 ((rd_T74 x157001 x4).f0) ((rd_T74 x157001 x4).f1) ((rd_T74 x157001 x4).f2) ((rd_T74 x157001 x4).f3)) else ((beaconref07_Place.f k x157000 x157001 ((rd_T74 x157001 x4).f1)).bind fun t164 => (beaconref07_Check.j4 k x4 (decide (t164 < 0)) x157000 x157001 ((rd_T74 x157001 x4).f0) ((rd_T74 x157001 x4).f1) ((rd_T74 x157001 x4).f2) ((rd_T74 x157001 x4).f3)))))) else (none)) else (some 0)
def beaconref07_Check.j4:Nat → Int → Bool → List (S40) → List (S74) → Int → Int → Nat → Bool → Option (Int)
 | 0,_,_,_,_,_,_,_,_ => none
 | k + 1,x4,x82,x157000,x157001,x163000,x163001,x163002,x163003 => if x82 = true then (some 71) else (if x4 > 0 then (if 0 ≤ (wrap64 (x4 - 1)) then (if (wrap64 (x4 - 1)) < (x157001.length:Int) then (if ((rd_T74 x157001 (wrap64 (x4 - 1))).f0) > x163000 then (beaconref07_Check.j5 k x4 true x157000 x157001 x163000 x163001 x163002 x163003) else (if ((rd_T74 x157001 (wrap64 (x4 - 1))).f0) = x163000 then (beaconref07_Check.j5 k x4 (decide (((rd_T74 x157001 (wrap64 (x4 - 1))).f1) ≥ x163001)) x157000 x157001 x163000 x163001 x163002 x163003) else (beaconref07_Check.j5 k x4 false x157000 x157001 x163000 x163001 x163002 x163003))) else (none)) else (none)) else (beaconref07_Check.j5 k x4 false x157000 x157001 x163000 x163001 x163002 x163003))
def beaconref07_Check.j5:Nat → Int → Bool → List (S40) → List (S74) → Int → Int → Nat → Bool → Option (Int)
 | 0,_,_,_,_,_,_,_,_ => none
 | k + 1,x4,x120,x157000,x157001,x163000,x163001,x163002,x163003 => if x120 = true then (some 71) else ((beaconref01_Weight.f x163002).bind fun t168 => (if t168 = 0 then (beaconref07_Check.l1 k (wrap64 (x4 + 1)) x157000 x157001) else (some t168)))
end
def beaconref07_Check.f (k:Nat) (l0_0:List (S40)) (l0_1:List (S74)):Option (Int):=if (l0_0.length:Int) > 256 then (beaconref07_Check.j0 k true l0_0 l0_1) else (beaconref07_Check.j0 k (decide ((l0_1.length:Int) > 4096)) l0_0 l0_1)
theorem beaconref07_Check.mono_l:∀ k,(∀ y0 y1 y2,LeO (beaconref07_Check.j0 k y0 y1 y2) (beaconref07_Check.j0 (k + 1) y0 y1 y2)) ∧ (∀ y0 y1 y2,LeO (beaconref07_Check.l0 k y0 y1 y2) (beaconref07_Check.l0 (k + 1) y0 y1 y2)) ∧ (∀ y0 y1 y2 y3,LeO (beaconref07_Check.j2 k y0 y1 y2 y3) (beaconref07_Check.j2 (k + 1) y0 y1 y2 y3)) ∧ (∀ y0 y1 y2,LeO (beaconref07_Check.l1 k y0 y1 y2) (beaconref07_Check.l1 (k + 1) y0 y1 y2)) ∧ (∀ y0 y1 y2 y3 y4 y5 y6 y7,LeO (beaconref07_Check.j4 k y0 y1 y2 y3 y4 y5 y6 y7) (beaconref07_Check.j4 (k + 1) y0 y1 y2 y3 y4 y5 y6 y7)) ∧ (∀ y0 y1 y2 y3 y4 y5 y6 y7,LeO (beaconref07_Check.j5 k y0 y1 y2 y3 y4 y5 y6 y7) (beaconref07_Check.j5 (k + 1) y0 y1 y2 y3 y4 y5 y6 y7))
 | 0 => ⟨fun _ _ _ r h => by simp [beaconref07_Check.j0] at h,fun _ _ _ r h => by simp [beaconref07_Check.l0] at h,fun _ _ _ _ r h => by simp [beaconref07_Check.j2] at h,fun _ _ _ r h => by simp [beaconref07_Check.l1] at h,fun _ _ _ _ _ _ _ _ r h => by simp [beaconref07_Check.j4] at h,fun _ _ _ _ _ _ _ _ r h => by simp [beaconref07_Check.j5] at h⟩
 | k + 1 => by
  obtain ⟨ih0,ih1,ih2,ih3,ih4,ih5⟩:=beaconref07_Check.mono_l k
  refine ⟨?_,?_,?_,?_,?_,?_⟩
  ·intro y0 y1 y2
   unfold beaconref07_Check.j0
   repeat' first
   | (with_reducible exact ih0 _ _ _)
   | (with_reducible exact ih1 _ _ _)
   | (with_reducible exact ih2 _ _ _ _)
   | (with_reducible exact ih3 _ _ _)
   | (with_reducible exact ih4 _ _ _ _ _ _ _ _)
   | (with_reducible exact ih5 _ _ _ _ _ _ _ _)
   | (with_reducible exact beaconref07_Place.mono _ _ _ _)
   | (with_reducible exact LeO.refl _)
   | (with_reducible exact LeO.none _)
   | (with_reducible refine LeO.ite ?_ ?_)
   | (with_reducible refine LeO.bind ?_ (fun _ => ?_))
   | exact ih0 _ _ _
   | exact ih1 _ _ _
   | exact ih2 _ _ _ _
   | exact ih3 _ _ _
   | exact ih4 _ _ _ _ _ _ _ _
   | exact ih5 _ _ _ _ _ _ _ _
   | exact beaconref07_Place.mono _ _ _ _
   | exact LeO.none _
   | refine LeO.ite ?_ ?_
   | refine LeO.bind ?_ (fun _ => ?_)
  ·intro y0 y1 y2
   unfold beaconref07_Check.l0
   repeat' first
   | (with_reducible exact ih0 _ _ _)
   | (with_reducible exact ih1 _ _ _)
   | (with_reducible exact ih2 _ _ _ _)
   | (with_reducible exact ih3 _ _ _)
   | (with_reducible exact ih4 _ _ _ _ _ _ _ _)
   | (with_reducible exact ih5 _ _ _ _ _ _ _ _)
   | (with_reducible exact beaconref07_Place.mono _ _ _ _)
   | (with_reducible exact LeO.refl _)
   | (with_reducible exact LeO.none _)
   | (with_reducible refine LeO.ite ?_ ?_)
   | (with_reducible refine LeO.bind ?_ (fun _ => ?_))
   | exact ih0 _ _ _
   | exact ih1 _ _ _
   | exact ih2 _ _ _ _
   | exact ih3 _ _ _
   | exact ih4 _ _ _ _ _ _ _ _
   | exact ih5 _ _ _ _ _ _ _ _
   | exact beaconref07_Place.mono _ _ _ _
   | exact LeO.none _
   | refine LeO.ite ?_ ?_
   | refine LeO.bind ?_ (fun _ => ?_)
  ·intro y0 y1 y2 y3
   unfold beaconref07_Check.j2
   repeat' first
   | (with_reducible exact ih0 _ _ _)
   | (with_reducible exact ih1 _ _ _)
   | (with_reducible exact ih2 _ _ _ _)
   | (with_reducible exact ih3 _ _ _)
   | (with_reducible exact ih4 _ _ _ _ _ _ _ _)
   | (with_reducible exact ih5 _ _ _ _ _ _ _ _)
   | (with_reducible exact beaconref07_Place.mono _ _ _ _)
   | (with_reducible exact LeO.refl _)
   | (with_reducible exact LeO.none _)
   | (with_reducible refine LeO.ite ?_ ?_)
   | (with_reducible refine LeO.bind ?_ (fun _ => ?_))
   | exact ih0 _ _ _
   | exact ih1 _ _ _
   | exact ih2 _ _ _ _
   | exact ih3 _ _ _
   | exact ih4 _ _ _ _ _ _ _ _
   | exact ih5 _ _ _ _ _ _ _ _
   | exact beaconref07_Place.mono _ _ _ _
   | exact LeO.none _
   | refine LeO.ite ?_ ?_
   | refine LeO.bind ?_ (fun _ => ?_)
  ·intro y0 y1 y2
   unfold beaconref07_Check.l1
   repeat' first
   | (with_reducible exact ih0 _ _ _)
   | (with_reducible exact ih1 _ _ _)
   | (with_reducible exact ih2 _ _ _ _)
   | (with_reducible exact ih3 _ _ _)
   | (with_reducible exact ih4 _ _ _ _ _ _ _ _)
   | (with_reducible exact ih5 _ _ _ _ _ _ _ _)
   | (with_reducible exact beaconref07_Place.mono _ _ _ _)
   | (with_reducible exact LeO.refl _)
   | (with_reducible exact LeO.none _)
   | (with_reducible refine LeO.ite ?_ ?_)
   | (with_reducible refine LeO.bind ?_ (fun _ => ?_))
   | exact ih0 _ _ _
   | exact ih1 _ _ _
   | exact ih2 _ _ _ _
   | exact ih3 _ _ _
   | exact ih4 _ _ _ _ _ _ _ _
   | exact ih5 _ _ _ _ _ _ _ _
   | exact beaconref07_Place.mono _ _ _ _
   | exact LeO.none _
   | refine LeO.ite ?_ ?_
   | refine LeO.bind ?_ (fun _ => ?_)
  ·intro y0 y1 y2 y3 y4 y5 y6 y7
   unfold beaconref07_Check.j4
   repeat' first
   | (with_reducible exact ih0 _ _ _)
   | (with_reducible exact ih1 _ _ _)
   | (with_reducible exact ih2 _ _ _ _)
   | (with_reducible exact ih3 _ _ _)
   | (with_reducible exact ih4 _ _ _ _ _ _ _ _)
   | (with_reducible exact ih5 _ _ _ _ _ _ _ _)
   | (with_reducible exact beaconref07_Place.mono _ _ _ _)
   | (with_reducible exact LeO.refl _)
   | (with_reducible exact LeO.none _)
   | (with_reducible refine LeO.ite ?_ ?_)
   | (with_reducible refine LeO.bind ?_ (fun _ => ?_))
   | exact ih0 _ _ _
   | exact ih1 _ _ _
   | exact ih2 _ _ _ _
   | exact ih3 _ _ _
   | exact ih4 _ _ _ _ _ _ _ _
   | exact ih5 _ _ _ _ _ _ _ _
   | exact beaconref07_Place.mono _ _ _ _
   | exact LeO.none _
   | refine LeO.ite ?_ ?_
   | refine LeO.bind ?_ (fun _ => ?_)
  intro y0 y1 y2 y3 y4 y5 y6 y7
  unfold beaconref07_Check.j5
  repeat' first
  | (with_reducible exact ih0 _ _ _)
  | (with_reducible exact ih1 _ _ _)
  | (with_reducible exact ih2 _ _ _ _)
  | (with_reducible exact ih3 _ _ _)
  | (with_reducible exact ih4 _ _ _ _ _ _ _ _)
  | (with_reducible exact ih5 _ _ _ _ _ _ _ _)
  | (with_reducible exact beaconref07_Place.mono _ _ _ _)
  | (with_reducible exact LeO.refl _)
  | (with_reducible exact LeO.none _)
  | (with_reducible refine LeO.ite ?_ ?_)
  | (with_reducible refine LeO.bind ?_ (fun _ => ?_))
  | exact ih0 _ _ _
  | exact ih1 _ _ _
  | exact ih2 _ _ _ _
  | exact ih3 _ _ _
  | exact ih4 _ _ _ _ _ _ _ _
  | exact ih5 _ _ _ _ _ _ _ _
  | exact beaconref07_Place.mono _ _ _ _
  | exact LeO.none _
  | refine LeO.ite ?_ ?_
  | refine LeO.bind ?_ (fun _ => ?_)
theorem beaconref07_Check.mono:∀ a0 a1 k,LeO (beaconref07_Check.f k a0 a1) (beaconref07_Check.f (k + 1) a0 a1):=by
 intro a0 a1 k
 obtain ⟨ih0,ih1,ih2,ih3,ih4,ih5⟩:=beaconref07_Check.mono_l k
 unfold beaconref07_Check.f
 repeat' first
   | (with_reducible exact ih0 _ _ _)
   | (with_reducible exact ih1 _ _ _)
   | (with_reducible exact ih2 _ _ _ _)
   | (with_reducible exact ih3 _ _ _)
   | (with_reducible exact ih4 _ _ _ _ _ _ _ _)
   | (with_reducible exact ih5 _ _ _ _ _ _ _ _)
   | (with_reducible exact beaconref07_Place.mono _ _ _ _)
   | (with_reducible exact LeO.refl _)
   | (with_reducible exact LeO.none _)
   | (with_reducible refine LeO.ite ?_ ?_)
   | (with_reducible refine LeO.bind ?_ (fun _ => ?_))
   | exact ih0 _ _ _
   | exact ih1 _ _ _
   | exact ih2 _ _ _ _
   | exact ih3 _ _ _
   | exact ih4 _ _ _ _ _ _ _ _
   | exact ih5 _ _ _ _ _ _ _ _
   | exact beaconref07_Place.mono _ _ _ _
   | exact LeO.none _
   | refine LeO.ite ?_ ?_
   | refine LeO.bind ?_ (fun _ => ?_)
set_option maxHeartbeats 8000000 in
set_option maxRecDepth 100000 in
theorem beaconref07_Check.calls (k:Nat) (A0_0:Option Addr) (c0_0:Nat) (l0_0:List (S40)) (A0_1:Option Addr) (c0_1:Nat) (l0_1:List (S74)) (r:Int) (w:World) (hr0_0:Kd.C k40 w A0_0 l0_0.length l0_0) (hc0_0:l0_0.length ≤ c0_0) (hr0_1:Kd.C k74 w A0_1 l0_1.length l0_1) (hc0_1:l0_1.length ≤ c0_1) (h:beaconref07_Check.f k l0_0 l0_1 = some r) :
  Calls Try.prog 19 #[.agg #[.slice A0_0 l0_0.length c0_0,.slice A0_1 l0_1.length c0_1]] w fun e w' => e = .returned (.int .i64 r) ∧ Below w.heap.size w w':=by
 have hu25:=Try.underlying25
 have hu74:=Try.underlying74
 have HR0_0:=Aside0.mk hr0_0
 have HC0_0:=Aside0.mk hc0_0
 clear hr0_0 hc0_0
 have HR0_1:=Aside0.mk hr0_1
 have HC0_1:=Aside0.mk hc0_1
 clear hr0_1 hc0_1
 have HB:=Aside0.mk (Below.refl w.heap.size w)
 have H:(if (l0_0.length:Int) > 256 then (beaconref07_Check.j0 k true l0_0 l0_1) else (beaconref07_Check.j0 k (decide ((l0_1.length:Int) > 4096)) l0_0 l0_1)) = some r:=h
 clear h
 have HC2:=Aside0.mk H
 clear H
 go_enter Try.func19,Try.ntmps19
 go_upto_region 1 with (first | ((with_reducible refine gate_dst (N:=1) rfl ?_);(try (refine gate_guard (by rfl) ?_;dsimp only));refine box_event ?hg (N:=1) ?hd (cs:=#[.slice A0_0 l0_0.length c0_0,.slice A0_1 l0_1.length c0_1]) (t:=25) ?hr ?_;(case hd => rfl);(case hg => rfl);(case hr => first | (go_simp;done) | (go_simp;rfl));intro gb156 hg w3 hbox hb;have n0_:=Aside0.mk (below_step (by repeat (first | (with_reducible first | exact HB.out | apply below_alloc | apply pw_below_drewN | apply below_drew1) | exact HB.out)) hb);have n1_:=Aside0.mk (hbox);have n2_:=Aside0.mk ((by rw [hg];exact (below_size (by repeat (first | (with_reducible first | exact HB.out | apply below_alloc | apply pw_below_drewN | apply below_drew1) | exact HB.out))):w.heap.size ≤ gb156));have n3_:=Aside0.mk ((by rw [hg];exact (below_size (by repeat (first | (with_reducible first | exact HB.out | apply below_alloc | apply pw_below_drewN | apply below_drew1) | exact HB.out))):w.heap.size ≤ gb156));clear HB;have HB:=n0_;have BK156:=n1_;have GW156:=n2_;have GE156:=n3_;clear n0_ n1_ n2_ n3_;clear hb hbox hg))
 repeat (go_quiet (first | ((with_reducible refine gate_dst (N:=1) rfl ?_);(try (refine gate_guard (by rfl) ?_;dsimp only));refine box_event ?hg (N:=1) ?hd (cs:=#[.slice A0_0 l0_0.length c0_0,.slice A0_1 l0_1.length c0_1]) (t:=25) ?hr ?_;(case hd => rfl);(case hg => rfl);(case hr => first | (go_simp;done) | (go_simp;rfl));intro gb156 hg w3 hbox hb;have n0_:=Aside0.mk (below_step (by repeat (first | (with_reducible first | exact HB.out | apply below_alloc | apply pw_below_drewN | apply below_drew1) | exact HB.out)) hb);have n1_:=Aside0.mk (hbox);have n2_:=Aside0.mk ((by rw [hg];exact (below_size (by repeat (first | (with_reducible first | exact HB.out | apply below_alloc | apply pw_below_drewN | apply below_drew1) | exact HB.out))):w.heap.size ≤ gb156));have n3_:=Aside0.mk ((by rw [hg];exact (below_size (by repeat (first | (with_reducible first | exact HB.out | apply below_alloc | apply pw_below_drewN | apply below_drew1) | exact HB.out))):w.heap.size ≤ gb156));clear HB;have HB:=n0_;have BK156:=n1_;have GW156:=n2_;have GE156:=n3_;clear n0_ n1_ n2_ n3_;clear hb hbox hg));go_upto_region 1 with (first | ((with_reducible refine gate_dst (N:=1) rfl ?_);(try (refine gate_guard (by rfl) ?_;dsimp only));refine box_event ?hg (N:=1) ?hd (cs:=#[.slice A0_0 l0_0.length c0_0,.slice A0_1 l0_1.length c0_1]) (t:=25) ?hr ?_;(case hd => rfl);(case hg => rfl);(case hr => first | (go_simp;done) | (go_simp;rfl));intro gb156 hg w3 hbox hb;have n0_:=Aside0.mk (below_step (by repeat (first | (with_reducible first | exact HB.out | apply below_alloc | apply pw_below_drewN | apply below_drew1) | exact HB.out)) hb);have n1_:=Aside0.mk (hbox);have n2_:=Aside0.mk ((by rw [hg];exact (below_size (by repeat (first | (with_reducible first | exact HB.out | apply below_alloc | apply pw_below_drewN | apply below_drew1) | exact HB.out))):w.heap.size ≤ gb156));have n3_:=Aside0.mk ((by rw [hg];exact (below_size (by repeat (first | (with_reducible first | exact HB.out | apply below_alloc | apply pw_below_drewN | apply below_drew1) | exact HB.out))):w.heap.size ≤ gb156));clear HB;have HB:=n0_;have BK156:=n1_;have GW156:=n2_;have GE156:=n3_;clear n0_ n1_ n2_ n3_;clear hb hbox hg)))
 (try simp only [Act.put,List.setIfInBounds_toArray,List.set_cons_zero,List.set_cons_succ])
 go_cut [16] (fun v16 wc => ∃ (kq:Nat) (x16_1:Bool),v16 = .bool x16_1 ∧ Aside0 (beaconref07_Check.j0 kq x16_1 l0_0 l0_1 = some r) ∧ Aside0 (kq ≤ k) ∧ Aside0 (wc.heap[gb156]? = some (.cells #[(.slice A0_0 l0_0.length c0_0),(.slice A0_1 l0_1.length c0_1)] 25 (0,0))) ∧ Aside0 (Below w.heap.size w wc))
 case first =>
  have H:=HC2.out
  clear HC2
  by_cases c4:(l0_0.length:Int) > 256
  ·rw [if_pos c4] at H
   have c4b0:decide (256 < (l0_0.length:Int)) = true:=decide_eq_true c4
   have c4b1:decide (256 < l0_0.length) = true:=decide_eq_true (by omega)
   clear c4
   (first | rw [c4b0] | (simp only [i64_w,i32_w];rw [c4b0]) | skip)
   have H':=Aside0.mk H
   clear H
   have hcz5_0:w3.cell? ⟨gb156,0,none⟩ = some (.slice A0_0 l0_0.length c0_0):=(blk_cell BK156.out 0).trans rfl
   have hcz5_1:w3.cell? ⟨gb156,1,none⟩ = some (.slice A0_1 l0_1.length c0_1):=(blk_cell BK156.out 1).trans rfl
   have hfz5_0:=blk_frozen BK156.out 0
   have hfz5_1:=blk_frozen BK156.out 1
   go_wp2
   repeat (go_quiet (fail);try go_wp2)
   go_meet
   case rel => exact ⟨_,(true),(by first | rfl | (simp;done) | (simp [*];done)),H',⟨by first | omega | exact Nat.le_refl _⟩,⟨by (with_reducible repeat (first | refine blk_drewN ?_ _ | refine blk_drew ?_ | refine blk_alloc ?_ _));exact BK156.out⟩,⟨by repeat (first | (with_reducible first | exact HB.out | apply below_alloc | apply pw_below_drewN | apply below_drew1 | refine below_set ?_ GE156.out) | exact HB.out)⟩⟩
  rw [if_neg c4] at H
  have c4b0:decide (256 < (l0_0.length:Int)) = false:=decide_eq_false c4
  have c4b1:decide (256 < l0_0.length) = false:=decide_eq_false (by omega)
  clear c4
  (first | rw [c4b0] | (simp only [i64_w,i32_w];rw [c4b0]) | skip)
  have H':=Aside0.mk H
  clear H
  have hcz6_0:w3.cell? ⟨gb156,0,none⟩ = some (.slice A0_0 l0_0.length c0_0):=(blk_cell BK156.out 0).trans rfl
  have hcz6_1:w3.cell? ⟨gb156,1,none⟩ = some (.slice A0_1 l0_1.length c0_1):=(blk_cell BK156.out 1).trans rfl
  have hfz6_0:=blk_frozen BK156.out 0
  have hfz6_1:=blk_frozen BK156.out 1
  go_wp2
  repeat (go_quiet (fail);try go_wp2)
  go_meet
  case rel => exact ⟨_,(decide ((l0_1.length:Int) > 4096)),(by first | rfl | (simp;done) | (simp [*];done)),H',⟨by first | omega | exact Nat.le_refl _⟩,⟨by (with_reducible repeat (first | refine blk_drewN ?_ _ | refine blk_drew ?_ | refine blk_alloc ?_ _));exact BK156.out⟩,⟨by repeat (first | (with_reducible first | exact HB.out | apply below_alloc | apply pw_below_drewN | apply below_drew1 | refine below_set ?_ GE156.out) | exact HB.out)⟩⟩
 case rest =>
  clear HC2
  obtain ⟨kq,x16_1,rfl,HA,HJ1,BK156,HB⟩:=hcut
  cases kq with
  | zero => exact absurd HA.out (by simp [beaconref07_Check.j0])
  | succ kj1 =>
   have H:=HA.out
   clear HA
   simp only [beaconref07_Check.j0] at H
   by_cases c7:x16_1 = true
   ·subst c7
    have H1:(some 2) = some r:=by rw [if_pos rfl] at H;exact H
    clear H
    have H:=H1
    clear H1
    obtain rfl:=Option.some.inj H
    go_wp2
    repeat (go_quiet (fail);try go_wp2)
    go_ret
    exact ⟨by first | rfl | (simp [errW_none,errW_some] <;> rfl) | (simp [*,errW_none,errW_some] <;> rfl),by repeat (first | (with_reducible first | exact HB.out | apply below_alloc | apply pw_below_drewN | apply below_drew1 | refine below_set ?_ GE156.out) | exact HB.out)⟩
   replace c7:=Bool.eq_false_iff.mpr c7
   subst c7
   have H1:(beaconref07_Check.l0 kj1 0 l0_0 l0_1) = some r:=by rw [if_neg (show ¬ (false = true) by decide)] at H;exact H
   clear H
   have H:=H1
   clear H1
   have H':=Aside0.mk H
   clear H
   go_wp2
   repeat (go_quiet (fail);try go_wp2)
   go_loopg [3] kj1 (fun kq v3 w' => ∃ (x3_2:Int),v3 = .int .i64 x3_2 ∧ Aside0 (beaconref07_Check.l0 kq x3_2 l0_0 l0_1 = some r) ∧ Aside0 (kq ≤ kj1) ∧ Aside0 (w'.heap[gb156]? = some (.cells #[(.slice A0_0 l0_0.length c0_0),(.slice A0_1 l0_1.length c0_1)] 25 (0,0))) ∧ Aside0 (Below w.heap.size w w'))
   case atStart => exact ⟨(0),(by first | rfl | (simp;done) | (simp [*];done)),H',⟨Nat.le_refl _⟩,⟨by (with_reducible repeat (first | refine blk_drewN ?_ _ | refine blk_drew ?_ | refine blk_alloc ?_ _));exact BK156.out⟩,⟨by repeat (first | (with_reducible first | exact HB.out | apply below_alloc | apply pw_below_drewN | apply below_drew1 | refine below_set ?_ GE156.out) | exact HB.out)⟩⟩
   case round =>
    clear H'
    obtain ⟨x3_2,rfl,HA,HK2,BK156,HB⟩:=hrel
    cases gk with
    | zero => exact absurd HA.out (by simp [beaconref07_Check.l0])
    | succ k2 =>
     have H:=HA.out
     clear HA
     simp only [beaconref07_Check.l0] at H
     by_cases c8:x3_2 < (l0_0.length:Int)
     ·rw [if_pos c8] at H
      have c8b0:decide (x3_2 < (l0_0.length:Int)) = true:=decide_eq_true c8
      clear c8
      have HC9:=Aside0.mk H
      clear H
      have hcz10_0:wr.cell? ⟨gb156,0,none⟩ = some (.slice A0_0 l0_0.length c0_0):=(blk_cell BK156.out 0).trans rfl
      have hcz10_1:wr.cell? ⟨gb156,1,none⟩ = some (.slice A0_1 l0_1.length c0_1):=(blk_cell BK156.out 1).trans rfl
      have hfz10_0:=blk_frozen BK156.out 0
      have hfz10_1:=blk_frozen BK156.out 1
      go_upto_region 6 with (fail)
      repeat (go_quiet (fail);go_upto_region 6 with (fail))
      go_cut [51] (fun v51 wc => ∃ (kq:Nat) (x51_8:Bool),v51 = .bool x51_8 ∧ Aside0 (beaconref07_Check.j2 kq x3_2 x51_8 l0_0 l0_1 = some r) ∧ Aside0 (kq ≤ k2) ∧ Aside0 (wc.heap[gb156]? = some (.cells #[(.slice A0_0 l0_0.length c0_0),(.slice A0_1 l0_1.length c0_1)] 25 (0,0))) ∧ Aside0 (Below w.heap.size w wc))
      case first =>
       have H:=HC9.out
       clear HC9
       by_cases c11:0 ≤ x3_2
       rotate_left
       ·rw [if_neg c11] at H
        exact absurd H (by simp)
       rw [if_pos c11] at H
       have c11b0:decide (0 ≤ x3_2) = true:=decide_eq_true c11
       clear c11
       (first | rw [c11b0] | (simp only [i64_w,i32_w];rw [c11b0]) | skip)
       replace H:=Option.bind_eq_some_iff.mp H
       obtain ⟨t158,A120,H⟩:=H
       replace H:(if t158 = 0 then (if x3_2 > 0 then (if 0 ≤ (wrap64 (x3_2 - 1)) then (if (wrap64 (x3_2 - 1)) < (l0_0.length:Int) then (beaconref07_Check.j2 k2 x3_2 (decide (((rd_T40 l0_0 (wrap64 (x3_2 - 1))).f0) ≥ ((rd_T40 l0_0 x3_2).f0))) l0_0 l0_1) else (none)) else (none)) else (beaconref07_Check.j2 k2 x3_2 false l0_0 l0_1)) else (beaconref07_Check.j2 k2 x3_2 true l0_0 l0_1)) = some r:=H
       have A12:=Aside0.mk A120
       clear A120
       by_cases c13:t158 = 0
       rotate_left
       ·rw [if_neg c13] at H
        have c13b0:(t158 == 0) = false:=beq_eq_false_iff_ne.mpr c13
        have c13b1:(t158 != 0) = true:=bne_iff_ne.mpr c13
        have H':=Aside0.mk H
        clear H
        have hcz20_0:wr.cell? ⟨gb156,0,none⟩ = some (.slice A0_0 l0_0.length c0_0):=(blk_cell BK156.out 0).trans rfl
        have hcz20_1:wr.cell? ⟨gb156,1,none⟩ = some (.slice A0_1 l0_1.length c0_1):=(blk_cell BK156.out 1).trans rfl
        have hfz20_0:=blk_frozen BK156.out 0
        have hfz20_1:=blk_frozen BK156.out 1
        have p157:0 ≤ (x3_2:Int):=of_decide_eq_true (by first | (with_reducible assumption) | assumption)
        have q157:x3_2 < (l0_0.length:Int):=of_decide_eq_true (by first | (with_reducible assumption) | assumption)
        obtain ⟨ad157,e157,hx157_0,hx157_1,hx157_2⟩:=at_T40 HR0_0.out x3_2 p157 q157
        cases e157
        replace hx157_0:=(HB.out.cell (World.block_lt_of_cell? w _ hx157_0)).trans hx157_0
        replace hx157_1:=(HB.out.cell (World.block_lt_of_cell? w _ hx157_1)).trans hx157_1
        replace hx157_2:=(HB.out.cell (World.block_lt_of_cell? w _ hx157_2)).trans hx157_2
        replace p157:=eq_true p157
        replace q157:=eq_true q157
        go_wp2_with (first | (go_at_call 39;(with_reducible refine (beaconref02_CheckId.calls ((rd_T40 l0_0 x3_2).f0) t158 _ A12.out).mono ?_);rintro e w' ⟨rfl,⟨nd,rfl⟩⟩;(try first | exact ⟨rfl,_,World.drewN_drewN _ _ _⟩ | exact ⟨rfl,_,Eq.trans (World.drewN_drewN _ _ _) (congrArg (World.drewN _) (Nat.add_assoc _ _ _))⟩)))
        repeat (go_quiet (first | (go_at_call 39;(with_reducible refine (beaconref02_CheckId.calls ((rd_T40 l0_0 x3_2).f0) t158 _ A12.out).mono ?_);rintro e w' ⟨rfl,⟨nd,rfl⟩⟩;(try first | exact ⟨rfl,_,World.drewN_drewN _ _ _⟩ | exact ⟨rfl,_,Eq.trans (World.drewN_drewN _ _ _) (congrArg (World.drewN _) (Nat.add_assoc _ _ _))⟩)));try go_wp2_with (first | (go_at_call 39;(with_reducible refine (beaconref02_CheckId.calls ((rd_T40 l0_0 x3_2).f0) t158 _ A12.out).mono ?_);rintro e w' ⟨rfl,⟨nd,rfl⟩⟩;(try first | exact ⟨rfl,_,World.drewN_drewN _ _ _⟩ | exact ⟨rfl,_,Eq.trans (World.drewN_drewN _ _ _) (congrArg (World.drewN _) (Nat.add_assoc _ _ _))⟩))))
        go_meet
        case rel => exact ⟨_,(true),(by first | rfl | (simp;done) | (simp [*];done)),H',⟨by have:=HJ1.out;have:=HK2.out;first | omega | exact Nat.le_refl _⟩,⟨by (with_reducible repeat (first | refine blk_drewN ?_ _ | refine blk_drew ?_ | refine blk_alloc ?_ _));exact BK156.out⟩,⟨by repeat (first | (with_reducible first | exact HB.out | apply below_alloc | apply pw_below_drewN | apply below_drew1 | refine below_set ?_ GE156.out) | exact HB.out)⟩⟩
       rw [if_pos c13] at H
       have c13b0:(t158 == 0) = true:=beq_iff_eq.mpr c13
       have c13b1:(t158 != 0) = false:=bne_eq_false_iff_eq.mpr c13
       clear c13
       by_cases c14:x3_2 > 0
       ·rw [if_pos c14] at H
        have c14b0:decide (0 < x3_2) = true:=decide_eq_true c14
        clear c14
        obtain ⟨ji15,hji15⟩:∃ j_:Int,(wrap64 (x3_2 - 1)) = j_:=⟨_,rfl⟩
        replace H:(if 0 ≤ (ji15) then (if (ji15) < (l0_0.length:Int) then (beaconref07_Check.j2 k2 x3_2 (decide (((rd_T40 l0_0 (ji15)).f0) ≥ ((rd_T40 l0_0 x3_2).f0))) l0_0 l0_1) else (none)) else (none)) = some r:=by first | (rw [hji15] at H;exact H) | (simp only [hji15] at H ⊢;exact H)
        (try rw [hji15] at A12)
        have hji15w:(IntKind.i64.wrap (x3_2 - 1)) = ji15:=(i64_w _).trans hji15
        by_cases c16:0 ≤ (ji15)
        ·rw [if_pos c16] at H
         have c16b0:decide (0 ≤ (ji15)) = true:=decide_eq_true c16
         clear c16
         by_cases c17:(ji15) < (l0_0.length:Int)
         ·rw [if_pos c17] at H
          have c17b0:decide ((ji15) < (l0_0.length:Int)) = true:=decide_eq_true c17
          clear c17
          have H':=Aside0.mk H
          clear H
          have hcz18_0:wr.cell? ⟨gb156,0,none⟩ = some (.slice A0_0 l0_0.length c0_0):=(blk_cell BK156.out 0).trans rfl
          have hcz18_1:wr.cell? ⟨gb156,1,none⟩ = some (.slice A0_1 l0_1.length c0_1):=(blk_cell BK156.out 1).trans rfl
          have hfz18_0:=blk_frozen BK156.out 0
          have hfz18_1:=blk_frozen BK156.out 1
          have p157:0 ≤ (x3_2:Int):=of_decide_eq_true (by first | (with_reducible assumption) | assumption)
          have q157:x3_2 < (l0_0.length:Int):=of_decide_eq_true (by first | (with_reducible assumption) | assumption)
          obtain ⟨ad157,e157,hx157_0,hx157_1,hx157_2⟩:=at_T40 HR0_0.out x3_2 p157 q157
          cases e157
          replace hx157_0:=(HB.out.cell (World.block_lt_of_cell? w _ hx157_0)).trans hx157_0
          replace hx157_1:=(HB.out.cell (World.block_lt_of_cell? w _ hx157_1)).trans hx157_1
          replace hx157_2:=(HB.out.cell (World.block_lt_of_cell? w _ hx157_2)).trans hx157_2
          replace p157:=eq_true p157
          replace q157:=eq_true q157
          go_wp2_with (first | (go_at_call 39;(with_reducible refine (beaconref02_CheckId.calls ((rd_T40 l0_0 x3_2).f0) t158 _ A12.out).mono ?_);rintro e w' ⟨rfl,⟨nd,rfl⟩⟩;(try first | exact ⟨rfl,_,World.drewN_drewN _ _ _⟩ | exact ⟨rfl,_,Eq.trans (World.drewN_drewN _ _ _) (congrArg (World.drewN _) (Nat.add_assoc _ _ _))⟩);have p159:0 ≤ ((ji15):Int):=of_decide_eq_true (by first | (with_reducible assumption) | assumption);have q159:(ji15) < (l0_0.length:Int):=of_decide_eq_true (by first | (with_reducible assumption) | assumption);obtain ⟨ad159,e159,hx159_0,hx159_1,hx159_2⟩:=at_T40 HR0_0.out (ji15) p159 q159;obtain rfl:ad157 = ad159:=(by injection e159);replace hx159_0:=(HB.out.cell (World.block_lt_of_cell? w _ hx159_0)).trans hx159_0;replace hx159_1:=(HB.out.cell (World.block_lt_of_cell? w _ hx159_1)).trans hx159_1;replace hx159_2:=(HB.out.cell (World.block_lt_of_cell? w _ hx159_2)).trans hx159_2;replace p159:=eq_true p159;replace q159:=eq_true q159;have p160:0 ≤ (x3_2:Int):=of_decide_eq_true (by first | (with_reducible assumption) | assumption);have q160:x3_2 < (l0_0.length:Int):=of_decide_eq_true (by first | (with_reducible assumption) | assumption);obtain ⟨ad160,e160,hx160_0,hx160_1,hx160_2⟩:=at_T40 HR0_0.out x3_2 p160 q160;obtain rfl:ad157 = ad160:=(by injection e160);replace hx160_0:=(HB.out.cell (World.block_lt_of_cell? w _ hx160_0)).trans hx160_0;replace hx160_1:=(HB.out.cell (World.block_lt_of_cell? w _ hx160_1)).trans hx160_1;replace hx160_2:=(HB.out.cell (World.block_lt_of_cell? w _ hx160_2)).trans hx160_2;replace p160:=eq_true p160;replace q160:=eq_true q160))
          repeat (go_quiet (first | (go_at_call 39;(with_reducible refine (beaconref02_CheckId.calls ((rd_T40 l0_0 x3_2).f0) t158 _ A12.out).mono ?_);rintro e w' ⟨rfl,⟨nd,rfl⟩⟩;(try first | exact ⟨rfl,_,World.drewN_drewN _ _ _⟩ | exact ⟨rfl,_,Eq.trans (World.drewN_drewN _ _ _) (congrArg (World.drewN _) (Nat.add_assoc _ _ _))⟩);have p159:0 ≤ ((ji15):Int):=of_decide_eq_true (by first | (with_reducible assumption) | assumption);have q159:(ji15) < (l0_0.length:Int):=of_decide_eq_true (by first | (with_reducible assumption) | assumption);obtain ⟨ad159,e159,hx159_0,hx159_1,hx159_2⟩:=at_T40 HR0_0.out (ji15) p159 q159;obtain rfl:ad157 = ad159:=(by injection e159);replace hx159_0:=(HB.out.cell (World.block_lt_of_cell? w _ hx159_0)).trans hx159_0;replace hx159_1:=(HB.out.cell (World.block_lt_of_cell? w _ hx159_1)).trans hx159_1;replace hx159_2:=(HB.out.cell (World.block_lt_of_cell? w _ hx159_2)).trans hx159_2;replace p159:=eq_true p159;replace q159:=eq_true q159;have p160:0 ≤ (x3_2:Int):=of_decide_eq_true (by first | (with_reducible assumption) | assumption);have q160:x3_2 < (l0_0.length:Int):=of_decide_eq_true (by first | (with_reducible assumption) | assumption);obtain ⟨ad160,e160,hx160_0,hx160_1,hx160_2⟩:=at_T40 HR0_0.out x3_2 p160 q160;obtain rfl:ad157 = ad160:=(by injection e160);replace hx160_0:=(HB.out.cell (World.block_lt_of_cell? w _ hx160_0)).trans hx160_0;replace hx160_1:=(HB.out.cell (World.block_lt_of_cell? w _ hx160_1)).trans hx160_1;replace hx160_2:=(HB.out.cell (World.block_lt_of_cell? w _ hx160_2)).trans hx160_2;replace p160:=eq_true p160;replace q160:=eq_true q160));try go_wp2_with (first | (go_at_call 39;(with_reducible refine (beaconref02_CheckId.calls ((rd_T40 l0_0 x3_2).f0) t158 _ A12.out).mono ?_);rintro e w' ⟨rfl,⟨nd,rfl⟩⟩;(try first | exact ⟨rfl,_,World.drewN_drewN _ _ _⟩ | exact ⟨rfl,_,Eq.trans (World.drewN_drewN _ _ _) (congrArg (World.drewN _) (Nat.add_assoc _ _ _))⟩);have p159:0 ≤ ((ji15):Int):=of_decide_eq_true (by first | (with_reducible assumption) | assumption);have q159:(ji15) < (l0_0.length:Int):=of_decide_eq_true (by first | (with_reducible assumption) | assumption);obtain ⟨ad159,e159,hx159_0,hx159_1,hx159_2⟩:=at_T40 HR0_0.out (ji15) p159 q159;obtain rfl:ad157 = ad159:=(by injection e159);replace hx159_0:=(HB.out.cell (World.block_lt_of_cell? w _ hx159_0)).trans hx159_0;replace hx159_1:=(HB.out.cell (World.block_lt_of_cell? w _ hx159_1)).trans hx159_1;replace hx159_2:=(HB.out.cell (World.block_lt_of_cell? w _ hx159_2)).trans hx159_2;replace p159:=eq_true p159;replace q159:=eq_true q159;have p160:0 ≤ (x3_2:Int):=of_decide_eq_true (by first | (with_reducible assumption) | assumption);have q160:x3_2 < (l0_0.length:Int):=of_decide_eq_true (by first | (with_reducible assumption) | assumption);obtain ⟨ad160,e160,hx160_0,hx160_1,hx160_2⟩:=at_T40 HR0_0.out x3_2 p160 q160;obtain rfl:ad157 = ad160:=(by injection e160);replace hx160_0:=(HB.out.cell (World.block_lt_of_cell? w _ hx160_0)).trans hx160_0;replace hx160_1:=(HB.out.cell (World.block_lt_of_cell? w _ hx160_1)).trans hx160_1;replace hx160_2:=(HB.out.cell (World.block_lt_of_cell? w _ hx160_2)).trans hx160_2;replace p160:=eq_true p160;replace q160:=eq_true q160)))
          go_meet
          case rel => exact ⟨_,(decide (((rd_T40 l0_0 (ji15)).f0) ≥ ((rd_T40 l0_0 x3_2).f0))),(by first | rfl | (simp;done) | (simp only [← hji15] <;> (first | rfl | simp)) | (simp [*];done)),H',⟨by have:=HJ1.out;have:=HK2.out;first | omega | exact Nat.le_refl _⟩,⟨by (with_reducible repeat (first | refine blk_drewN ?_ _ | refine blk_drew ?_ | refine blk_alloc ?_ _));exact BK156.out⟩,⟨by repeat (first | (with_reducible first | exact HB.out | apply below_alloc | apply pw_below_drewN | apply below_drew1 | refine below_set ?_ GE156.out) | exact HB.out)⟩⟩
         rw [if_neg c17] at H
         exact absurd H (by simp)
        rw [if_neg c16] at H
        exact absurd H (by simp)
       rw [if_neg c14] at H
       have c14b0:decide (0 < x3_2) = false:=decide_eq_false c14
       clear c14
       have H':=Aside0.mk H
       clear H
       have hcz19_0:wr.cell? ⟨gb156,0,none⟩ = some (.slice A0_0 l0_0.length c0_0):=(blk_cell BK156.out 0).trans rfl
       have hcz19_1:wr.cell? ⟨gb156,1,none⟩ = some (.slice A0_1 l0_1.length c0_1):=(blk_cell BK156.out 1).trans rfl
       have hfz19_0:=blk_frozen BK156.out 0
       have hfz19_1:=blk_frozen BK156.out 1
       have p157:0 ≤ (x3_2:Int):=of_decide_eq_true (by first | (with_reducible assumption) | assumption)
       have q157:x3_2 < (l0_0.length:Int):=of_decide_eq_true (by first | (with_reducible assumption) | assumption)
       obtain ⟨ad157,e157,hx157_0,hx157_1,hx157_2⟩:=at_T40 HR0_0.out x3_2 p157 q157
       cases e157
       replace hx157_0:=(HB.out.cell (World.block_lt_of_cell? w _ hx157_0)).trans hx157_0
       replace hx157_1:=(HB.out.cell (World.block_lt_of_cell? w _ hx157_1)).trans hx157_1
       replace hx157_2:=(HB.out.cell (World.block_lt_of_cell? w _ hx157_2)).trans hx157_2
       replace p157:=eq_true p157
       replace q157:=eq_true q157
       go_wp2_with (first | (go_at_call 39;(with_reducible refine (beaconref02_CheckId.calls ((rd_T40 l0_0 x3_2).f0) t158 _ A12.out).mono ?_);rintro e w' ⟨rfl,⟨nd,rfl⟩⟩;(try first | exact ⟨rfl,_,World.drewN_drewN _ _ _⟩ | exact ⟨rfl,_,Eq.trans (World.drewN_drewN _ _ _) (congrArg (World.drewN _) (Nat.add_assoc _ _ _))⟩)))
       repeat (go_quiet (first | (go_at_call 39;(with_reducible refine (beaconref02_CheckId.calls ((rd_T40 l0_0 x3_2).f0) t158 _ A12.out).mono ?_);rintro e w' ⟨rfl,⟨nd,rfl⟩⟩;(try first | exact ⟨rfl,_,World.drewN_drewN _ _ _⟩ | exact ⟨rfl,_,Eq.trans (World.drewN_drewN _ _ _) (congrArg (World.drewN _) (Nat.add_assoc _ _ _))⟩)));try go_wp2_with (first | (go_at_call 39;(with_reducible refine (beaconref02_CheckId.calls ((rd_T40 l0_0 x3_2).f0) t158 _ A12.out).mono ?_);rintro e w' ⟨rfl,⟨nd,rfl⟩⟩;(try first | exact ⟨rfl,_,World.drewN_drewN _ _ _⟩ | exact ⟨rfl,_,Eq.trans (World.drewN_drewN _ _ _) (congrArg (World.drewN _) (Nat.add_assoc _ _ _))⟩))))
       go_meet
       case rel => exact ⟨_,(false),(by first | rfl | (simp;done) | (simp [*];done)),H',⟨by have:=HJ1.out;have:=HK2.out;first | omega | exact Nat.le_refl _⟩,⟨by (with_reducible repeat (first | refine blk_drewN ?_ _ | refine blk_drew ?_ | refine blk_alloc ?_ _));exact BK156.out⟩,⟨by repeat (first | (with_reducible first | exact HB.out | apply below_alloc | apply pw_below_drewN | apply below_drew1 | refine below_set ?_ GE156.out) | exact HB.out)⟩⟩
      case rest =>
       clear HC9
       obtain ⟨kq,x51_8,rfl,HA,HJ8,BK156,HB⟩:=hcut
       cases kq with
       | zero => exact absurd HA.out (by simp [beaconref07_Check.j2])
       | succ kj8 =>
        have H:=HA.out
        clear HA
        simp only [beaconref07_Check.j2] at H
        by_cases c21:x51_8 = true
        ·subst c21
         have H1:(some 70) = some r:=by rw [if_pos rfl] at H;exact H
         clear H
         have H:=H1
         clear H1
         obtain rfl:=Option.some.inj H
         go_wp2
         repeat (go_quiet (fail);try go_wp2)
         go_ret
         exact ⟨by first | rfl | (simp [errW_none,errW_some] <;> rfl) | (simp [*,errW_none,errW_some] <;> rfl),by repeat (first | (with_reducible first | exact HB.out | apply below_alloc | apply pw_below_drewN | apply below_drew1 | refine below_set ?_ GE156.out) | exact HB.out)⟩
        replace c21:=Bool.eq_false_iff.mpr c21
        subst c21
        have H1:(beaconref07_Check.l0 kj8 (wrap64 (x3_2 + 1)) l0_0 l0_1) = some r:=by rw [if_neg (show ¬ (false = true) by decide)] at H;exact H
        clear H
        have H:=H1
        clear H1
        have H':=Aside0.mk H
        clear H
        go_wp2
        repeat (go_quiet (fail);try go_wp2)
        go_roundg kj8
        case measure => have:=HJ1.out;have:=HK2.out;have:=HJ8.out;omega
        case rel => exact ⟨(wrap64 (x3_2 + 1)),(by first | rfl | (simp;done) | (simp [*];done)),H',⟨by have:=HJ1.out;have:=HK2.out;have:=HJ8.out;omega⟩,⟨by (with_reducible repeat (first | refine blk_drewN ?_ _ | refine blk_drew ?_ | refine blk_alloc ?_ _));exact BK156.out⟩,⟨by repeat (first | (with_reducible first | exact HB.out | apply below_alloc | apply pw_below_drewN | apply below_drew1 | refine below_set ?_ GE156.out) | exact HB.out)⟩⟩
     rw [if_neg c8] at H
     have c8b0:decide (x3_2 < (l0_0.length:Int)) = false:=decide_eq_false c8
     clear c8
     have H':=Aside0.mk H
     clear H
     have hcz22_0:wr.cell? ⟨gb156,0,none⟩ = some (.slice A0_0 l0_0.length c0_0):=(blk_cell BK156.out 0).trans rfl
     have hcz22_1:wr.cell? ⟨gb156,1,none⟩ = some (.slice A0_1 l0_1.length c0_1):=(blk_cell BK156.out 1).trans rfl
     have hfz22_0:=blk_frozen BK156.out 0
     have hfz22_1:=blk_frozen BK156.out 1
     go_wp2
     repeat (go_quiet (fail);try go_wp2)
     go_loopg [4] k2 (fun kq v4 w' => ∃ (x4_3:Int),v4 = .int .i64 x4_3 ∧ Aside0 (beaconref07_Check.l1 kq x4_3 l0_0 l0_1 = some r) ∧ Aside0 (kq ≤ k2) ∧ Aside0 (w'.heap[gb156]? = some (.cells #[(.slice A0_0 l0_0.length c0_0),(.slice A0_1 l0_1.length c0_1)] 25 (0,0))) ∧ Aside0 (Below w.heap.size w w'))
     case atStart => exact ⟨(0),(by first | rfl | (simp;done) | (simp [*];done)),H',⟨Nat.le_refl _⟩,⟨by (with_reducible repeat (first | refine blk_drewN ?_ _ | refine blk_drew ?_ | refine blk_alloc ?_ _));exact BK156.out⟩,⟨by repeat (first | (with_reducible first | exact HB.out | apply below_alloc | apply pw_below_drewN | apply below_drew1 | refine below_set ?_ GE156.out) | exact HB.out)⟩⟩
     case round =>
      clear H'
      obtain ⟨x4_3,rfl,HA,HK3,BK156,HB⟩:=hrel
      cases gk with
      | zero => exact absurd HA.out (by simp [beaconref07_Check.l1])
      | succ k3 =>
       have H:=HA.out
       clear HA
       simp only [beaconref07_Check.l1] at H
       by_cases c23:x4_3 < (l0_1.length:Int)
       rotate_left
       ·rw [if_neg c23] at H
        have c23b0:decide (x4_3 < (l0_1.length:Int)) = false:=decide_eq_false c23
        clear c23
        obtain rfl:=Option.some.inj H
        have hcz71_0:wr.cell? ⟨gb156,0,none⟩ = some (.slice A0_0 l0_0.length c0_0):=(blk_cell BK156.out 0).trans rfl
        have hcz71_1:wr.cell? ⟨gb156,1,none⟩ = some (.slice A0_1 l0_1.length c0_1):=(blk_cell BK156.out 1).trans rfl
        have hfz71_0:=blk_frozen BK156.out 0
        have hfz71_1:=blk_frozen BK156.out 1
        go_wp2
        repeat (go_quiet (fail);try go_wp2)
        go_ret
        exact ⟨by first | rfl | (simp [errW_none,errW_some] <;> rfl) | (simp [*,errW_none,errW_some] <;> rfl),by repeat (first | (with_reducible first | exact HB.out | apply below_alloc | apply pw_below_drewN | apply below_drew1 | refine below_set ?_ GE156.out) | exact HB.out)⟩
       rw [if_pos c23] at H
       have c23b0:decide (x4_3 < (l0_1.length:Int)) = true:=decide_eq_true c23
       clear c23
       by_cases c24:0 ≤ x4_3
       rotate_left
       ·rw [if_neg c24] at H
        exact absurd H (by simp)
       rw [if_pos c24] at H
       have c24b0:decide (0 ≤ x4_3) = true:=decide_eq_true c24
       clear c24
       have HC25:=Aside0.mk H
       clear H
       have hcz26_0:wr.cell? ⟨gb156,0,none⟩ = some (.slice A0_0 l0_0.length c0_0):=(blk_cell BK156.out 0).trans rfl
       have hcz26_1:wr.cell? ⟨gb156,1,none⟩ = some (.slice A0_1 l0_1.length c0_1):=(blk_cell BK156.out 1).trans rfl
       have hfz26_0:=blk_frozen BK156.out 0
       have hfz26_1:=blk_frozen BK156.out 1
       have p161:0 ≤ (x4_3:Int):=of_decide_eq_true (by first | (with_reducible assumption) | assumption)
       have q161:x4_3 < (l0_1.length:Int):=of_decide_eq_true (by first | (with_reducible assumption) | assumption)
       obtain ⟨ad161,e161,hx161_0,hx161_1,hx161_2,hx161_3⟩:=at_T74 HR0_1.out x4_3 p161 q161
       cases e161
       replace hx161_0:=(HB.out.cell (World.block_lt_of_cell? w _ hx161_0)).trans hx161_0
       replace hx161_1:=(HB.out.cell (World.block_lt_of_cell? w _ hx161_1)).trans hx161_1
       replace hx161_2:=(HB.out.cell (World.block_lt_of_cell? w _ hx161_2)).trans hx161_2
       replace hx161_3:=(HB.out.cell (World.block_lt_of_cell? w _ hx161_3)).trans hx161_3
       replace p161:=eq_true p161
       replace q161:=eq_true q161
       go_upto_region 12 with (first | ((with_reducible refine gate_dst (N:=5) rfl ?_);(try (refine gate_guard (by rfl) ?_;dsimp only));refine box_event ?hg (N:=5) ?hd (cs:=#[.int .i64 0,.int .i64 0,.float .f64 0,.bool false]) (t:=74) ?hr ?_;(case hd => rfl);(case hg => rfl);(case hr => first | (go_simp;done) | (go_simp;rfl));intro gb162 hg w27 hbox hb;have n0_:=Aside0.mk (blk_below (g:=gb156) (o:=.cells #[.slice A0_0 l0_0.length c0_0,.slice (some ad161) l0_1.length c0_1] 25 (0,0)) (by (with_reducible repeat (first | refine blk_drewN ?_ _ | refine blk_drew ?_ | refine blk_alloc ?_ _));exact BK156.out) hb);have n1_:=Aside0.mk (below_step (by repeat (first | (with_reducible first | exact HB.out | apply below_alloc | apply pw_below_drewN | apply below_drew1 | refine below_set ?_ GE156.out) | exact HB.out)) hb);have n2_:=Aside0.mk (hbox);have n3_:=Aside0.mk ((by rw [hg];exact (below_size (by repeat (first | (with_reducible first | exact HB.out | apply below_alloc | apply pw_below_drewN | apply below_drew1 | refine below_set ?_ GE156.out) | exact HB.out))):w.heap.size ≤ gb162));have n4_:=Aside0.mk ((by rw [hg];exact (below_size (by repeat (first | (with_reducible first | exact HB.out | apply below_alloc | apply pw_below_drewN | apply below_drew1 | refine below_set ?_ GE156.out) | exact HB.out))):w.heap.size ≤ gb162));have n5_:=Aside0.mk ((by rw [hg];exact Nat.ne_of_lt (blk_lt (g:=gb156) (o:=.cells #[.slice A0_0 l0_0.length c0_0,.slice (some ad161) l0_1.length c0_1] 25 (0,0)) (by (with_reducible repeat (first | refine blk_drewN ?_ _ | refine blk_drew ?_ | refine blk_alloc ?_ _));exact BK156.out)):gb156 ≠ gb162));have n6_:=Aside0.mk ((by rw [hg];exact Nat.ne_of_gt (blk_lt (g:=gb156) (o:=.cells #[.slice A0_0 l0_0.length c0_0,.slice (some ad161) l0_1.length c0_1] 25 (0,0)) (by (with_reducible repeat (first | refine blk_drewN ?_ _ | refine blk_drew ?_ | refine blk_alloc ?_ _));exact BK156.out)):gb162 ≠ gb156));clear BK156;clear HB;have BK156:=n0_;have HB:=n1_;have BK162:=n2_;have GW162:=n3_;have GE162:=n4_;have NB156_162:=n5_;have NB162_156:=n6_;clear n0_ n1_ n2_ n3_ n4_ n5_ n6_;clear hb hbox hg;have hnb28:=NB162_156.out;have hnc28:=NB156_162.out;have hcz29_0:w27.cell? ⟨gb162,0,none⟩ = some (.int .i64 0):=(blk_cell BK162.out 0).trans rfl;have hcz29_1:w27.cell? ⟨gb162,1,none⟩ = some (.int .i64 0):=(blk_cell BK162.out 1).trans rfl;have hcz29_2:w27.cell? ⟨gb162,2,none⟩ = some (.float .f64 0):=(blk_cell BK162.out 2).trans rfl;have hcz29_3:w27.cell? ⟨gb162,3,none⟩ = some (.bool false):=(blk_cell BK162.out 3).trans rfl;have hfz29_0:=blk_frozen BK162.out 0;have hfz29_1:=blk_frozen BK162.out 1;have hfz29_2:=blk_frozen BK162.out 2;have hfz29_3:=blk_frozen BK162.out 3))
       repeat (go_quiet (first | ((with_reducible refine gate_dst (N:=5) rfl ?_);(try (refine gate_guard (by rfl) ?_;dsimp only));refine box_event ?hg (N:=5) ?hd (cs:=#[.int .i64 0,.int .i64 0,.float .f64 0,.bool false]) (t:=74) ?hr ?_;(case hd => rfl);(case hg => rfl);(case hr => first | (go_simp;done) | (go_simp;rfl));intro gb162 hg w27 hbox hb;have n0_:=Aside0.mk (blk_below (g:=gb156) (o:=.cells #[.slice A0_0 l0_0.length c0_0,.slice (some ad161) l0_1.length c0_1] 25 (0,0)) (by (with_reducible repeat (first | refine blk_drewN ?_ _ | refine blk_drew ?_ | refine blk_alloc ?_ _));exact BK156.out) hb);have n1_:=Aside0.mk (below_step (by repeat (first | (with_reducible first | exact HB.out | apply below_alloc | apply pw_below_drewN | apply below_drew1 | refine below_set ?_ GE156.out) | exact HB.out)) hb);have n2_:=Aside0.mk (hbox);have n3_:=Aside0.mk ((by rw [hg];exact (below_size (by repeat (first | (with_reducible first | exact HB.out | apply below_alloc | apply pw_below_drewN | apply below_drew1 | refine below_set ?_ GE156.out) | exact HB.out))):w.heap.size ≤ gb162));have n4_:=Aside0.mk ((by rw [hg];exact (below_size (by repeat (first | (with_reducible first | exact HB.out | apply below_alloc | apply pw_below_drewN | apply below_drew1 | refine below_set ?_ GE156.out) | exact HB.out))):w.heap.size ≤ gb162));have n5_:=Aside0.mk ((by rw [hg];exact Nat.ne_of_lt (blk_lt (g:=gb156) (o:=.cells #[.slice A0_0 l0_0.length c0_0,.slice (some ad161) l0_1.length c0_1] 25 (0,0)) (by (with_reducible repeat (first | refine blk_drewN ?_ _ | refine blk_drew ?_ | refine blk_alloc ?_ _));exact BK156.out)):gb156 ≠ gb162));have n6_:=Aside0.mk ((by rw [hg];exact Nat.ne_of_gt (blk_lt (g:=gb156) (o:=.cells #[.slice A0_0 l0_0.length c0_0,.slice (some ad161) l0_1.length c0_1] 25 (0,0)) (by (with_reducible repeat (first | refine blk_drewN ?_ _ | refine blk_drew ?_ | refine blk_alloc ?_ _));exact BK156.out)):gb162 ≠ gb156));clear BK156;clear HB;have BK156:=n0_;have HB:=n1_;have BK162:=n2_;have GW162:=n3_;have GE162:=n4_;have NB156_162:=n5_;have NB162_156:=n6_;clear n0_ n1_ n2_ n3_ n4_ n5_ n6_;clear hb hbox hg;have hnb28:=NB162_156.out;have hnc28:=NB156_162.out;have hcz29_0:w27.cell? ⟨gb162,0,none⟩ = some (.int .i64 0):=(blk_cell BK162.out 0).trans rfl;have hcz29_1:w27.cell? ⟨gb162,1,none⟩ = some (.int .i64 0):=(blk_cell BK162.out 1).trans rfl;have hcz29_2:w27.cell? ⟨gb162,2,none⟩ = some (.float .f64 0):=(blk_cell BK162.out 2).trans rfl;have hcz29_3:w27.cell? ⟨gb162,3,none⟩ = some (.bool false):=(blk_cell BK162.out 3).trans rfl;have hfz29_0:=blk_frozen BK162.out 0;have hfz29_1:=blk_frozen BK162.out 1;have hfz29_2:=blk_frozen BK162.out 2;have hfz29_3:=blk_frozen BK162.out 3));go_upto_region 12 with (first | ((with_reducible refine gate_dst (N:=5) rfl ?_);(try (refine gate_guard (by rfl) ?_;dsimp only));refine box_event ?hg (N:=5) ?hd (cs:=#[.int .i64 0,.int .i64 0,.float .f64 0,.bool false]) (t:=74) ?hr ?_;(case hd => rfl);(case hg => rfl);(case hr => first | (go_simp;done) | (go_simp;rfl));intro gb162 hg w27 hbox hb;have n0_:=Aside0.mk (blk_below (g:=gb156) (o:=.cells #[.slice A0_0 l0_0.length c0_0,.slice (some ad161) l0_1.length c0_1] 25 (0,0)) (by (with_reducible repeat (first | refine blk_drewN ?_ _ | refine blk_drew ?_ | refine blk_alloc ?_ _));exact BK156.out) hb);have n1_:=Aside0.mk (below_step (by repeat (first | (with_reducible first | exact HB.out | apply below_alloc | apply pw_below_drewN | apply below_drew1 | refine below_set ?_ GE156.out) | exact HB.out)) hb);have n2_:=Aside0.mk (hbox);have n3_:=Aside0.mk ((by rw [hg];exact (below_size (by repeat (first | (with_reducible first | exact HB.out | apply below_alloc | apply pw_below_drewN | apply below_drew1 | refine below_set ?_ GE156.out) | exact HB.out))):w.heap.size ≤ gb162));have n4_:=Aside0.mk ((by rw [hg];exact (below_size (by repeat (first | (with_reducible first | exact HB.out | apply below_alloc | apply pw_below_drewN | apply below_drew1 | refine below_set ?_ GE156.out) | exact HB.out))):w.heap.size ≤ gb162));have n5_:=Aside0.mk ((by rw [hg];exact Nat.ne_of_lt (blk_lt (g:=gb156) (o:=.cells #[.slice A0_0 l0_0.length c0_0,.slice (some ad161) l0_1.length c0_1] 25 (0,0)) (by (with_reducible repeat (first | refine blk_drewN ?_ _ | refine blk_drew ?_ | refine blk_alloc ?_ _));exact BK156.out)):gb156 ≠ gb162));have n6_:=Aside0.mk ((by rw [hg];exact Nat.ne_of_gt (blk_lt (g:=gb156) (o:=.cells #[.slice A0_0 l0_0.length c0_0,.slice (some ad161) l0_1.length c0_1] 25 (0,0)) (by (with_reducible repeat (first | refine blk_drewN ?_ _ | refine blk_drew ?_ | refine blk_alloc ?_ _));exact BK156.out)):gb162 ≠ gb156));clear BK156;clear HB;have BK156:=n0_;have HB:=n1_;have BK162:=n2_;have GW162:=n3_;have GE162:=n4_;have NB156_162:=n5_;have NB162_156:=n6_;clear n0_ n1_ n2_ n3_ n4_ n5_ n6_;clear hb hbox hg;have hnb28:=NB162_156.out;have hnc28:=NB156_162.out;have hcz29_0:w27.cell? ⟨gb162,0,none⟩ = some (.int .i64 0):=(blk_cell BK162.out 0).trans rfl;have hcz29_1:w27.cell? ⟨gb162,1,none⟩ = some (.int .i64 0):=(blk_cell BK162.out 1).trans rfl;have hcz29_2:w27.cell? ⟨gb162,2,none⟩ = some (.float .f64 0):=(blk_cell BK162.out 2).trans rfl;have hcz29_3:w27.cell? ⟨gb162,3,none⟩ = some (.bool false):=(blk_cell BK162.out 3).trans rfl;have hfz29_0:=blk_frozen BK162.out 0;have hfz29_1:=blk_frozen BK162.out 1;have hfz29_2:=blk_frozen BK162.out 2;have hfz29_3:=blk_frozen BK162.out 3)))
       (try simp only [Act.put,List.setIfInBounds_toArray,List.set_cons_zero,List.set_cons_succ])
       go_cut [82] (fun v82 wc => ∃ (kq:Nat) (x82_24:Bool),v82 = .bool x82_24 ∧ Aside0 (beaconref07_Check.j4 kq x4_3 x82_24 l0_0 l0_1 ((rd_T74 l0_1 x4_3).f0) ((rd_T74 l0_1 x4_3).f1) ((rd_T74 l0_1 x4_3).f2) ((rd_T74 l0_1 x4_3).f3) = some r) ∧ Aside0 (kq ≤ k3) ∧ Aside0 (wc.heap[gb156]? = some (.cells #[(.slice A0_0 l0_0.length c0_0),(.slice (some ad161) l0_1.length c0_1)] 25 (0,0))) ∧ Aside0 (wc.heap[gb162]? = some (.cells #[.int .i64 ((rd_T74 l0_1 x4_3).f0),.int .i64 ((rd_T74 l0_1 x4_3).f1),.float .f64 ((rd_T74 l0_1 x4_3).f2),.bool ((rd_T74 l0_1 x4_3).f3)] 74 (0,0))) ∧ Aside0 (Below w.heap.size w wc))
       case first =>
        have H:=HC25.out
        clear HC25
        by_cases c30:((rd_T74 l0_1 x4_3).f0) ≥ ((rd_T74 l0_1 x4_3).f1)
        ·rw [if_pos c30] at H
         have c30b0:decide (((rd_T74 l0_1 x4_3).f1) ≤ ((rd_T74 l0_1 x4_3).f0)) = true:=decide_eq_true c30
         clear c30
         (first | rw [c30b0] | (simp only [i64_w,i32_w];rw [c30b0]) | skip)
         have H':=Aside0.mk H
         clear H
         have hnb31:=NB162_156.out
         have hnc31:=NB156_162.out
         have hcz32_0:w27.cell? ⟨gb162,0,none⟩ = some (.int .i64 0):=(blk_cell BK162.out 0).trans rfl
         have hcz32_1:w27.cell? ⟨gb162,1,none⟩ = some (.int .i64 0):=(blk_cell BK162.out 1).trans rfl
         have hcz32_2:w27.cell? ⟨gb162,2,none⟩ = some (.float .f64 0):=(blk_cell BK162.out 2).trans rfl
         have hcz32_3:w27.cell? ⟨gb162,3,none⟩ = some (.bool false):=(blk_cell BK162.out 3).trans rfl
         have hfz32_0:=blk_frozen BK162.out 0
         have hfz32_1:=blk_frozen BK162.out 1
         have hfz32_2:=blk_frozen BK162.out 2
         have hfz32_3:=blk_frozen BK162.out 3
         go_wp2
         repeat (go_quiet (fail);try go_wp2)
         go_meet
         case rel => exact ⟨_,(true),(by first | rfl | (simp;done) | (simp [*];done)),H',⟨by have:=HJ1.out;have:=HK2.out;have:=HK3.out;first | omega | exact Nat.le_refl _⟩,⟨by (with_reducible repeat (first | refine blk_drewN ?_ _ | refine blk_drew ?_ | refine blk_alloc ?_ _));refine blk_far ?_ NB156_162.out _;(with_reducible repeat (first | refine blk_drewN ?_ _ | refine blk_drew ?_ | refine blk_alloc ?_ _));refine blk_far ?_ NB156_162.out _;(with_reducible repeat (first | refine blk_drewN ?_ _ | refine blk_drew ?_ | refine blk_alloc ?_ _));refine blk_far ?_ NB156_162.out _;(with_reducible repeat (first | refine blk_drewN ?_ _ | refine blk_drew ?_ | refine blk_alloc ?_ _));refine blk_far ?_ NB156_162.out _;(with_reducible repeat (first | refine blk_drewN ?_ _ | refine blk_drew ?_ | refine blk_alloc ?_ _));exact BK156.out⟩,⟨by (with_reducible repeat (first | refine blk_drewN ?_ _ | refine blk_drew ?_ | refine blk_alloc ?_ _));refine blk_put (cs:=#[.int .i64 ((rd_T74 l0_1 x4_3).f0),.int .i64 ((rd_T74 l0_1 x4_3).f1),.float .f64 ((rd_T74 l0_1 x4_3).f2),.bool false]) ?_ 3 _ rfl;(with_reducible repeat (first | refine blk_drewN ?_ _ | refine blk_drew ?_ | refine blk_alloc ?_ _));refine blk_put (cs:=#[.int .i64 ((rd_T74 l0_1 x4_3).f0),.int .i64 ((rd_T74 l0_1 x4_3).f1),.float .f64 0,.bool false]) ?_ 2 _ rfl;(with_reducible repeat (first | refine blk_drewN ?_ _ | refine blk_drew ?_ | refine blk_alloc ?_ _));refine blk_put (cs:=#[.int .i64 ((rd_T74 l0_1 x4_3).f0),.int .i64 0,.float .f64 0,.bool false]) ?_ 1 _ rfl;(with_reducible repeat (first | refine blk_drewN ?_ _ | refine blk_drew ?_ | refine blk_alloc ?_ _));refine blk_put (cs:=#[.int .i64 0,.int .i64 0,.float .f64 0,.bool false]) ?_ 0 _ rfl;(with_reducible repeat (first | refine blk_drewN ?_ _ | refine blk_drew ?_ | refine blk_alloc ?_ _));exact BK162.out⟩,⟨by repeat (first | (with_reducible first | exact HB.out | apply below_alloc | apply pw_below_drewN | apply below_drew1 | refine below_set ?_ GE156.out | refine below_set ?_ GE162.out) | exact HB.out)⟩⟩
        rw [if_neg c30] at H
        have c30b0:decide (((rd_T74 l0_1 x4_3).f1) ≤ ((rd_T74 l0_1 x4_3).f0)) = false:=decide_eq_false c30
        clear c30
        (first | rw [c30b0] | (simp only [i64_w,i32_w];rw [c30b0]) | skip)
        replace H:=Option.bind_eq_some_iff.mp H
        obtain ⟨t163,A330,H⟩:=H
        replace H:(if t163 < 0 then (beaconref07_Check.j4 k3 x4_3 true l0_0 l0_1 ((rd_T74 l0_1 x4_3).f0) ((rd_T74 l0_1 x4_3).f1) ((rd_T74 l0_1 x4_3).f2) ((rd_T74 l0_1 x4_3).f3)) else ((beaconref07_Place.f k3 l0_0 l0_1 ((rd_T74 l0_1 x4_3).f1)).bind fun t164 => (beaconref07_Check.j4 k3 x4_3 (decide (t164 < 0)) l0_0 l0_1 ((rd_T74 l0_1 x4_3).f0) ((rd_T74 l0_1 x4_3).f1) ((rd_T74 l0_1 x4_3).f2) ((rd_T74 l0_1 x4_3).f3)))) = some r:=H
        have A33:=Aside0.mk A330
        clear A330
        by_cases c34:t163 < 0
        ·rw [if_pos c34] at H
         have c34b0:decide (t163 < 0) = true:=decide_eq_true c34
         clear c34
         have H':=Aside0.mk H
         clear H
         have hnb35:=NB162_156.out
         have hnc35:=NB156_162.out
         have hcz36_0:w27.cell? ⟨gb162,0,none⟩ = some (.int .i64 0):=(blk_cell BK162.out 0).trans rfl
         have hcz36_1:w27.cell? ⟨gb162,1,none⟩ = some (.int .i64 0):=(blk_cell BK162.out 1).trans rfl
         have hcz36_2:w27.cell? ⟨gb162,2,none⟩ = some (.float .f64 0):=(blk_cell BK162.out 2).trans rfl
         have hcz36_3:w27.cell? ⟨gb162,3,none⟩ = some (.bool false):=(blk_cell BK162.out 3).trans rfl
         have hfz36_0:=blk_frozen BK162.out 0
         have hfz36_1:=blk_frozen BK162.out 1
         have hfz36_2:=blk_frozen BK162.out 2
         have hfz36_3:=blk_frozen BK162.out 3
         have hcz37_0:w27.cell? ⟨gb156,0,none⟩ = some (.slice A0_0 l0_0.length c0_0):=(blk_cell BK156.out 0).trans rfl
         have hcz37_1:w27.cell? ⟨gb156,1,none⟩ = some (.slice (some ad161) l0_1.length c0_1):=(blk_cell BK156.out 1).trans rfl
         have hfz37_0:=blk_frozen BK156.out 0
         have hfz37_1:=blk_frozen BK156.out 1
         go_wp2_with (first | (go_at_call 40;(with_reducible refine (beaconref07_Place.calls k3 _ _ l0_0 _ _ l0_1 ((rd_T74 l0_1 x4_3).f0) t163 _ ?side1 ?side2 ?side3 ?side4 A33.out).mono ?_);(case side1 => exact Kd.C_below HR0_0.out (by repeat (first | (with_reducible first | exact HB.out | apply below_alloc | apply pw_below_drewN | apply below_drew1 | refine below_set ?_ GE156.out | refine below_set ?_ GE162.out) | exact HB.out)));(case side2 => exact HC0_0.out);(case side3 => exact Kd.C_below HR0_1.out (by repeat (first | (with_reducible first | exact HB.out | apply below_alloc | apply pw_below_drewN | apply below_drew1 | refine below_set ?_ GE156.out | refine below_set ?_ GE162.out) | exact HB.out)));(case side4 => exact HC0_1.out);rintro e w38 ⟨rfl,hb⟩;have n0_:=Aside0.mk (blk_below (g:=gb156) (o:=.cells #[.slice A0_0 l0_0.length c0_0,.slice (some ad161) l0_1.length c0_1] 25 (0,0)) (by (with_reducible repeat (first | refine blk_drewN ?_ _ | refine blk_drew ?_ | refine blk_alloc ?_ _));refine blk_far ?_ NB156_162.out _;(with_reducible repeat (first | refine blk_drewN ?_ _ | refine blk_drew ?_ | refine blk_alloc ?_ _));refine blk_far ?_ NB156_162.out _;(with_reducible repeat (first | refine blk_drewN ?_ _ | refine blk_drew ?_ | refine blk_alloc ?_ _));refine blk_far ?_ NB156_162.out _;(with_reducible repeat (first | refine blk_drewN ?_ _ | refine blk_drew ?_ | refine blk_alloc ?_ _));refine blk_far ?_ NB156_162.out _;(with_reducible repeat (first | refine blk_drewN ?_ _ | refine blk_drew ?_ | refine blk_alloc ?_ _));exact BK156.out) hb);have n1_:=Aside0.mk (blk_below (g:=gb162) (o:=.cells #[.int .i64 ((rd_T74 l0_1 x4_3).f0),.int .i64 ((rd_T74 l0_1 x4_3).f1),.float .f64 ((rd_T74 l0_1 x4_3).f2),.bool ((rd_T74 l0_1 x4_3).f3)] 74 (0,0)) (by (with_reducible repeat (first | refine blk_drewN ?_ _ | refine blk_drew ?_ | refine blk_alloc ?_ _));refine blk_put (cs:=#[.int .i64 ((rd_T74 l0_1 x4_3).f0),.int .i64 ((rd_T74 l0_1 x4_3).f1),.float .f64 ((rd_T74 l0_1 x4_3).f2),.bool false]) ?_ 3 _ rfl;(with_reducible repeat (first | refine blk_drewN ?_ _ | refine blk_drew ?_ | refine blk_alloc ?_ _));refine blk_put (cs:=#[.int .i64 ((rd_T74 l0_1 x4_3).f0),.int .i64 ((rd_T74 l0_1 x4_3).f1),.float .f64 0,.bool false]) ?_ 2 _ rfl;(with_reducible repeat (first | refine blk_drewN ?_ _ | refine blk_drew ?_ | refine blk_alloc ?_ _));refine blk_put (cs:=#[.int .i64 ((rd_T74 l0_1 x4_3).f0),.int .i64 0,.float .f64 0,.bool false]) ?_ 1 _ rfl;(with_reducible repeat (first | refine blk_drewN ?_ _ | refine blk_drew ?_ | refine blk_alloc ?_ _));refine blk_put (cs:=#[.int .i64 0,.int .i64 0,.float .f64 0,.bool false]) ?_ 0 _ rfl;(with_reducible repeat (first | refine blk_drewN ?_ _ | refine blk_drew ?_ | refine blk_alloc ?_ _));exact BK162.out) hb);have n2_:=Aside0.mk (below_step (by repeat (first | (with_reducible first | exact HB.out | apply below_alloc | apply pw_below_drewN | apply below_drew1 | refine below_set ?_ GE156.out | refine below_set ?_ GE162.out) | exact HB.out)) hb);clear BK156;clear BK162;clear HB;have BK156:=n0_;have BK162:=n1_;have HB:=n2_;clear n0_ n1_ n2_;(try clear hb);(try clear hb2);(try clear hk);(try clear hi)))
         go_meet
         case rel => exact ⟨_,(true),(by first | rfl | (simp;done) | (simp [*];done)),H',⟨by have:=HJ1.out;have:=HK2.out;have:=HK3.out;first | omega | exact Nat.le_refl _⟩,⟨by (with_reducible repeat (first | refine blk_drewN ?_ _ | refine blk_drew ?_ | refine blk_alloc ?_ _));exact BK156.out⟩,⟨by (with_reducible repeat (first | refine blk_drewN ?_ _ | refine blk_drew ?_ | refine blk_alloc ?_ _));exact BK162.out⟩,⟨by repeat (first | (with_reducible first | exact HB.out | apply below_alloc | apply pw_below_drewN | apply below_drew1 | refine below_set ?_ GE156.out | refine below_set ?_ GE162.out) | exact HB.out)⟩⟩
        rw [if_neg c34] at H
        have c34b0:decide (t163 < 0) = false:=decide_eq_false c34
        clear c34
        replace H:=Option.bind_eq_some_iff.mp H
        obtain ⟨t164,A390,H⟩:=H
        replace H:(beaconref07_Check.j4 k3 x4_3 (decide (t164 < 0)) l0_0 l0_1 ((rd_T74 l0_1 x4_3).f0) ((rd_T74 l0_1 x4_3).f1) ((rd_T74 l0_1 x4_3).f2) ((rd_T74 l0_1 x4_3).f3)) = some r:=H
        have A39:=Aside0.mk A390
        clear A390
        have H':=Aside0.mk H
        clear H
        have hnb40:=NB162_156.out
        have hnc40:=NB156_162.out
        have hcz41_0:w27.cell? ⟨gb162,0,none⟩ = some (.int .i64 0):=(blk_cell BK162.out 0).trans rfl
        have hcz41_1:w27.cell? ⟨gb162,1,none⟩ = some (.int .i64 0):=(blk_cell BK162.out 1).trans rfl
        have hcz41_2:w27.cell? ⟨gb162,2,none⟩ = some (.float .f64 0):=(blk_cell BK162.out 2).trans rfl
        have hcz41_3:w27.cell? ⟨gb162,3,none⟩ = some (.bool false):=(blk_cell BK162.out 3).trans rfl
        have hfz41_0:=blk_frozen BK162.out 0
        have hfz41_1:=blk_frozen BK162.out 1
        have hfz41_2:=blk_frozen BK162.out 2
        have hfz41_3:=blk_frozen BK162.out 3
        have hcz42_0:w27.cell? ⟨gb156,0,none⟩ = some (.slice A0_0 l0_0.length c0_0):=(blk_cell BK156.out 0).trans rfl
        have hcz42_1:w27.cell? ⟨gb156,1,none⟩ = some (.slice (some ad161) l0_1.length c0_1):=(blk_cell BK156.out 1).trans rfl
        have hfz42_0:=blk_frozen BK156.out 0
        have hfz42_1:=blk_frozen BK156.out 1
        go_wp2_with (first | (go_at_call 40;(with_reducible refine (beaconref07_Place.calls k3 _ _ l0_0 _ _ l0_1 ((rd_T74 l0_1 x4_3).f0) t163 _ ?side1 ?side2 ?side3 ?side4 A33.out).mono ?_);(case side1 => exact Kd.C_below HR0_0.out (by repeat (first | (with_reducible first | exact HB.out | apply below_alloc | apply pw_below_drewN | apply below_drew1 | refine below_set ?_ GE156.out | refine below_set ?_ GE162.out) | exact HB.out)));(case side2 => exact HC0_0.out);(case side3 => exact Kd.C_below HR0_1.out (by repeat (first | (with_reducible first | exact HB.out | apply below_alloc | apply pw_below_drewN | apply below_drew1 | refine below_set ?_ GE156.out | refine below_set ?_ GE162.out) | exact HB.out)));(case side4 => exact HC0_1.out);rintro e w43 ⟨rfl,hb⟩;have n0_:=Aside0.mk (blk_below (g:=gb156) (o:=.cells #[.slice A0_0 l0_0.length c0_0,.slice (some ad161) l0_1.length c0_1] 25 (0,0)) (by (with_reducible repeat (first | refine blk_drewN ?_ _ | refine blk_drew ?_ | refine blk_alloc ?_ _));refine blk_far ?_ NB156_162.out _;(with_reducible repeat (first | refine blk_drewN ?_ _ | refine blk_drew ?_ | refine blk_alloc ?_ _));refine blk_far ?_ NB156_162.out _;(with_reducible repeat (first | refine blk_drewN ?_ _ | refine blk_drew ?_ | refine blk_alloc ?_ _));refine blk_far ?_ NB156_162.out _;(with_reducible repeat (first | refine blk_drewN ?_ _ | refine blk_drew ?_ | refine blk_alloc ?_ _));refine blk_far ?_ NB156_162.out _;(with_reducible repeat (first | refine blk_drewN ?_ _ | refine blk_drew ?_ | refine blk_alloc ?_ _));exact BK156.out) hb);have n1_:=Aside0.mk (blk_below (g:=gb162) (o:=.cells #[.int .i64 ((rd_T74 l0_1 x4_3).f0),.int .i64 ((rd_T74 l0_1 x4_3).f1),.float .f64 ((rd_T74 l0_1 x4_3).f2),.bool ((rd_T74 l0_1 x4_3).f3)] 74 (0,0)) (by (with_reducible repeat (first | refine blk_drewN ?_ _ | refine blk_drew ?_ | refine blk_alloc ?_ _));refine blk_put (cs:=#[.int .i64 ((rd_T74 l0_1 x4_3).f0),.int .i64 ((rd_T74 l0_1 x4_3).f1),.float .f64 ((rd_T74 l0_1 x4_3).f2),.bool false]) ?_ 3 _ rfl;(with_reducible repeat (first | refine blk_drewN ?_ _ | refine blk_drew ?_ | refine blk_alloc ?_ _));refine blk_put (cs:=#[.int .i64 ((rd_T74 l0_1 x4_3).f0),.int .i64 ((rd_T74 l0_1 x4_3).f1),.float .f64 0,.bool false]) ?_ 2 _ rfl;(with_reducible repeat (first | refine blk_drewN ?_ _ | refine blk_drew ?_ | refine blk_alloc ?_ _));refine blk_put (cs:=#[.int .i64 ((rd_T74 l0_1 x4_3).f0),.int .i64 0,.float .f64 0,.bool false]) ?_ 1 _ rfl;(with_reducible repeat (first | refine blk_drewN ?_ _ | refine blk_drew ?_ | refine blk_alloc ?_ _));refine blk_put (cs:=#[.int .i64 0,.int .i64 0,.float .f64 0,.bool false]) ?_ 0 _ rfl;(with_reducible repeat (first | refine blk_drewN ?_ _ | refine blk_drew ?_ | refine blk_alloc ?_ _));exact BK162.out) hb);have n2_:=Aside0.mk (below_step (by repeat (first | (with_reducible first | exact HB.out | apply below_alloc | apply pw_below_drewN | apply below_drew1 | refine below_set ?_ GE156.out | refine below_set ?_ GE162.out) | exact HB.out)) hb);clear BK156;clear BK162;clear HB;have BK156:=n0_;have BK162:=n1_;have HB:=n2_;clear n0_ n1_ n2_;(try clear hb);(try clear hb2);(try clear hk);(try clear hi);have hcz44_0:w43.cell? ⟨gb156,0,none⟩ = some (.slice A0_0 l0_0.length c0_0):=(blk_cell BK156.out 0).trans rfl;have hcz44_1:w43.cell? ⟨gb156,1,none⟩ = some (.slice (some ad161) l0_1.length c0_1):=(blk_cell BK156.out 1).trans rfl;have hfz44_0:=blk_frozen BK156.out 0;have hfz44_1:=blk_frozen BK156.out 1;have hcz45_0:w43.cell? ⟨gb162,0,none⟩ = some (.int .i64 ((rd_T74 l0_1 x4_3).f0)):=(blk_cell BK162.out 0).trans rfl;have hcz45_1:w43.cell? ⟨gb162,1,none⟩ = some (.int .i64 ((rd_T74 l0_1 x4_3).f1)):=(blk_cell BK162.out 1).trans rfl;have hcz45_2:w43.cell? ⟨gb162,2,none⟩ = some (.float .f64 ((rd_T74 l0_1 x4_3).f2)):=(blk_cell BK162.out 2).trans rfl;have hcz45_3:w43.cell? ⟨gb162,3,none⟩ = some (.bool ((rd_T74 l0_1 x4_3).f3)):=(blk_cell BK162.out 3).trans rfl;have hfz45_0:=blk_frozen BK162.out 0;have hfz45_1:=blk_frozen BK162.out 1;have hfz45_2:=blk_frozen BK162.out 2;have hfz45_3:=blk_frozen BK162.out 3) | (go_at_call 40;(with_reducible refine (beaconref07_Place.calls k3 _ _ l0_0 _ _ l0_1 ((rd_T74 l0_1 x4_3).f1) t164 _ ?side1 ?side2 ?side3 ?side4 A39.out).mono ?_);(case side1 => repeat (first | exact (Kd.C_below HR0_0.out HB.out) | (with_reducible refine Kd.C_alloc ?_ _) | (with_reducible refine Kd.C_drewN ?_ _) | (with_reducible refine Kd.C_drew ?_)));(case side2 => exact HC0_0.out);(case side3 => repeat (first | exact (Kd.C_below HR0_1.out HB.out) | (with_reducible refine Kd.C_alloc ?_ _) | (with_reducible refine Kd.C_drewN ?_ _) | (with_reducible refine Kd.C_drew ?_)));(case side4 => exact HC0_1.out);rintro e w46 ⟨rfl,hb⟩;have n0_:=Aside0.mk (blk_below (g:=gb156) (o:=.cells #[.slice A0_0 l0_0.length c0_0,.slice (some ad161) l0_1.length c0_1] 25 (0,0)) (by (with_reducible repeat (first | refine blk_drewN ?_ _ | refine blk_drew ?_ | refine blk_alloc ?_ _));exact BK156.out) hb);have n1_:=Aside0.mk (blk_below (g:=gb162) (o:=.cells #[.int .i64 ((rd_T74 l0_1 x4_3).f0),.int .i64 ((rd_T74 l0_1 x4_3).f1),.float .f64 ((rd_T74 l0_1 x4_3).f2),.bool ((rd_T74 l0_1 x4_3).f3)] 74 (0,0)) (by (with_reducible repeat (first | refine blk_drewN ?_ _ | refine blk_drew ?_ | refine blk_alloc ?_ _));exact BK162.out) hb);have n2_:=Aside0.mk (below_step (by repeat (first | (with_reducible first | exact HB.out | apply below_alloc | apply pw_below_drewN | apply below_drew1 | refine below_set ?_ GE156.out | refine below_set ?_ GE162.out) | exact HB.out)) hb);clear BK156;clear BK162;clear HB;have BK156:=n0_;have BK162:=n1_;have HB:=n2_;clear n0_ n1_ n2_;(try clear hb);(try clear hb2);(try clear hk);(try clear hi)))
        go_meet
        case rel => exact ⟨_,(decide (t164 < 0)),(by first | rfl | (simp;done) | (simp [*];done)),H',⟨by have:=HJ1.out;have:=HK2.out;have:=HK3.out;first | omega | exact Nat.le_refl _⟩,⟨by (with_reducible repeat (first | refine blk_drewN ?_ _ | refine blk_drew ?_ | refine blk_alloc ?_ _));exact BK156.out⟩,⟨by (with_reducible repeat (first | refine blk_drewN ?_ _ | refine blk_drew ?_ | refine blk_alloc ?_ _));exact BK162.out⟩,⟨by repeat (first | (with_reducible first | exact HB.out | apply below_alloc | apply pw_below_drewN | apply below_drew1 | refine below_set ?_ GE156.out | refine below_set ?_ GE162.out) | exact HB.out)⟩⟩
       case rest =>
        clear HC25
        obtain ⟨kq,x82_24,rfl,HA,HJ24,BK156,BK162,HB⟩:=hcut
        cases kq with
        | zero => exact absurd HA.out (by simp [beaconref07_Check.j4])
        | succ kj24 =>
         have H:=HA.out
         clear HA
         simp only [beaconref07_Check.j4] at H
         by_cases c47:x82_24 = true
         ·subst c47
          have H1:(some 71) = some r:=by rw [if_pos rfl] at H;exact H
          clear H
          have H:=H1
          clear H1
          obtain rfl:=Option.some.inj H
          go_wp2
          repeat (go_quiet (fail);try go_wp2)
          go_ret
          exact ⟨by first | rfl | (simp [errW_none,errW_some] <;> rfl) | (simp [*,errW_none,errW_some] <;> rfl),by repeat (first | (with_reducible first | exact HB.out | apply below_alloc | apply pw_below_drewN | apply below_drew1 | refine below_set ?_ GE156.out | refine below_set ?_ GE162.out) | exact HB.out)⟩
         replace c47:=Bool.eq_false_iff.mpr c47
         subst c47
         have H1:(if x4_3 > 0 then (if 0 ≤ (wrap64 (x4_3 - 1)) then (if (wrap64 (x4_3 - 1)) < (l0_1.length:Int) then (if ((rd_T74 l0_1 (wrap64 (x4_3 - 1))).f0) > ((rd_T74 l0_1 x4_3).f0) then (beaconref07_Check.j5 kj24 x4_3 true l0_0 l0_1 ((rd_T74 l0_1 x4_3).f0) ((rd_T74 l0_1 x4_3).f1) ((rd_T74 l0_1 x4_3).f2) ((rd_T74 l0_1 x4_3).f3)) else (if ((rd_T74 l0_1 (wrap64 (x4_3 - 1))).f0) = ((rd_T74 l0_1 x4_3).f0) then (beaconref07_Check.j5 kj24 x4_3 (decide (((rd_T74 l0_1 (wrap64 (x4_3 - 1))).f1) ≥ ((rd_T74 l0_1 x4_3).f1))) l0_0 l0_1 ((rd_T74 l0_1 x4_3).f0) ((rd_T74 l0_1 x4_3).f1) ((rd_T74 l0_1 x4_3).f2) ((rd_T74 l0_1 x4_3).f3)) else (beaconref07_Check.j5 kj24 x4_3 false l0_0 l0_1 ((rd_T74 l0_1 x4_3).f0) ((rd_T74 l0_1 x4_3).f1) ((rd_T74 l0_1 x4_3).f2) ((rd_T74 l0_1 x4_3).f3)))) else (none)) else (none)) else (beaconref07_Check.j5 kj24 x4_3 false l0_0 l0_1 ((rd_T74 l0_1 x4_3).f0) ((rd_T74 l0_1 x4_3).f1) ((rd_T74 l0_1 x4_3).f2) ((rd_T74 l0_1 x4_3).f3))) = some r:=by rw [if_neg (show ¬ (false = true) by decide)] at H;exact H
         clear H
         have H:=H1
         clear H1
         have HC48:=Aside0.mk H
         clear H
         go_upto_region 14 with (fail)
         repeat (go_quiet (fail);go_upto_region 14 with (fail))
         go_cut [120] (fun v120 wc => ∃ (kq:Nat) (x120_47:Bool),v120 = .bool x120_47 ∧ Aside0 (beaconref07_Check.j5 kq x4_3 x120_47 l0_0 l0_1 ((rd_T74 l0_1 x4_3).f0) ((rd_T74 l0_1 x4_3).f1) ((rd_T74 l0_1 x4_3).f2) ((rd_T74 l0_1 x4_3).f3) = some r) ∧ Aside0 (kq ≤ kj24) ∧ Aside0 (wc.heap[gb156]? = some (.cells #[(.slice A0_0 l0_0.length c0_0),(.slice (some ad161) l0_1.length c0_1)] 25 (0,0))) ∧ Aside0 (wc.heap[gb162]? = some (.cells #[.int .i64 ((rd_T74 l0_1 x4_3).f0),.int .i64 ((rd_T74 l0_1 x4_3).f1),.float .f64 ((rd_T74 l0_1 x4_3).f2),.bool ((rd_T74 l0_1 x4_3).f3)] 74 (0,0))) ∧ Aside0 (Below w.heap.size w wc))
         case first =>
          have H:=HC48.out
          clear HC48
          by_cases c49:x4_3 > 0
          rotate_left
          ·rw [if_neg c49] at H
           have c49b0:decide (0 < x4_3) = false:=decide_eq_false c49
           clear c49
           (first | rw [c49b0] | (simp only [i64_w,i32_w];rw [c49b0]) | skip)
           have H':=Aside0.mk H
           clear H
           go_wp2
           repeat (go_quiet (fail);try go_wp2)
           go_meet
           case rel => exact ⟨_,(false),(by first | rfl | (simp;done) | (simp [*];done)),H',⟨by have:=HJ1.out;have:=HK2.out;have:=HK3.out;have:=HJ24.out;first | omega | exact Nat.le_refl _⟩,⟨by (with_reducible repeat (first | refine blk_drewN ?_ _ | refine blk_drew ?_ | refine blk_alloc ?_ _));exact BK156.out⟩,⟨by (with_reducible repeat (first | refine blk_drewN ?_ _ | refine blk_drew ?_ | refine blk_alloc ?_ _));exact BK162.out⟩,⟨by repeat (first | (with_reducible first | exact HB.out | apply below_alloc | apply pw_below_drewN | apply below_drew1 | refine below_set ?_ GE156.out | refine below_set ?_ GE162.out) | exact HB.out)⟩⟩
          rw [if_pos c49] at H
          have c49b0:decide (0 < x4_3) = true:=decide_eq_true c49
          clear c49
          (first | rw [c49b0] | (simp only [i64_w,i32_w];rw [c49b0]) | skip)
          obtain ⟨ji50,hji50⟩:∃ j_:Int,(wrap64 (x4_3 - 1)) = j_:=⟨_,rfl⟩
          replace H:(if 0 ≤ (ji50) then (if (ji50) < (l0_1.length:Int) then (if ((rd_T74 l0_1 (ji50)).f0) > ((rd_T74 l0_1 x4_3).f0) then (beaconref07_Check.j5 kj24 x4_3 true l0_0 l0_1 ((rd_T74 l0_1 x4_3).f0) ((rd_T74 l0_1 x4_3).f1) ((rd_T74 l0_1 x4_3).f2) ((rd_T74 l0_1 x4_3).f3)) else (if ((rd_T74 l0_1 (ji50)).f0) = ((rd_T74 l0_1 x4_3).f0) then (beaconref07_Check.j5 kj24 x4_3 (decide (((rd_T74 l0_1 (ji50)).f1) ≥ ((rd_T74 l0_1 x4_3).f1))) l0_0 l0_1 ((rd_T74 l0_1 x4_3).f0) ((rd_T74 l0_1 x4_3).f1) ((rd_T74 l0_1 x4_3).f2) ((rd_T74 l0_1 x4_3).f3)) else (beaconref07_Check.j5 kj24 x4_3 false l0_0 l0_1 ((rd_T74 l0_1 x4_3).f0) ((rd_T74 l0_1 x4_3).f1) ((rd_T74 l0_1 x4_3).f2) ((rd_T74 l0_1 x4_3).f3)))) else (none)) else (none)) = some r:=by first | (rw [hji50] at H;exact H) | (simp only [hji50] at H ⊢;exact H)
          have hji50w:(IntKind.i64.wrap (x4_3 - 1)) = ji50:=(i64_w _).trans hji50
          by_cases c51:0 ≤ (ji50)
          rotate_left
          ·rw [if_neg c51] at H
           exact absurd H (by simp)
          rw [if_pos c51] at H
          have c51b0:decide (0 ≤ (ji50)) = true:=decide_eq_true c51
          clear c51
          by_cases c52:(ji50) < (l0_1.length:Int)
          rotate_left
          ·rw [if_neg c52] at H
           exact absurd H (by simp)
          rw [if_pos c52] at H
          have c52b0:decide ((ji50) < (l0_1.length:Int)) = true:=decide_eq_true c52
          clear c52
          by_cases c53:((rd_T74 l0_1 (ji50)).f0) > ((rd_T74 l0_1 x4_3).f0)
          ·rw [if_pos c53] at H
           have c53b0:decide (((rd_T74 l0_1 x4_3).f0) < ((rd_T74 l0_1 (ji50)).f0)) = true:=decide_eq_true c53
           clear c53
           have H':=Aside0.mk H
           clear H
           have hnb54:=NB156_162.out
           have hnc54:=NB162_156.out
           have hcz55_0:wc.cell? ⟨gb156,0,none⟩ = some (.slice A0_0 l0_0.length c0_0):=(blk_cell BK156.out 0).trans rfl
           have hcz55_1:wc.cell? ⟨gb156,1,none⟩ = some (.slice (some ad161) l0_1.length c0_1):=(blk_cell BK156.out 1).trans rfl
           have hfz55_0:=blk_frozen BK156.out 0
           have hfz55_1:=blk_frozen BK156.out 1
           have p165:0 ≤ ((ji50):Int):=of_decide_eq_true (by first | (with_reducible assumption) | assumption)
           have q165:(ji50) < (l0_1.length:Int):=of_decide_eq_true (by first | (with_reducible assumption) | assumption)
           obtain ⟨ad165,e165,hx165_0,hx165_1,hx165_2,hx165_3⟩:=at_T74 HR0_1.out (ji50) p165 q165
           obtain rfl:ad161 = ad165:=(by injection e165)
           replace hx165_0:=(HB.out.cell (World.block_lt_of_cell? w _ hx165_0)).trans hx165_0
           replace hx165_1:=(HB.out.cell (World.block_lt_of_cell? w _ hx165_1)).trans hx165_1
           replace hx165_2:=(HB.out.cell (World.block_lt_of_cell? w _ hx165_2)).trans hx165_2
           replace hx165_3:=(HB.out.cell (World.block_lt_of_cell? w _ hx165_3)).trans hx165_3
           replace p165:=eq_true p165
           replace q165:=eq_true q165
           have hcz56_0:wc.cell? ⟨gb162,0,none⟩ = some (.int .i64 ((rd_T74 l0_1 x4_3).f0)):=(blk_cell BK162.out 0).trans rfl
           have hcz56_1:wc.cell? ⟨gb162,1,none⟩ = some (.int .i64 ((rd_T74 l0_1 x4_3).f1)):=(blk_cell BK162.out 1).trans rfl
           have hcz56_2:wc.cell? ⟨gb162,2,none⟩ = some (.float .f64 ((rd_T74 l0_1 x4_3).f2)):=(blk_cell BK162.out 2).trans rfl
           have hcz56_3:wc.cell? ⟨gb162,3,none⟩ = some (.bool ((rd_T74 l0_1 x4_3).f3)):=(blk_cell BK162.out 3).trans rfl
           have hfz56_0:=blk_frozen BK162.out 0
           have hfz56_1:=blk_frozen BK162.out 1
           have hfz56_2:=blk_frozen BK162.out 2
           have hfz56_3:=blk_frozen BK162.out 3
           go_wp2
           repeat (go_quiet (fail);try go_wp2)
           go_meet
           case rel => exact ⟨_,(true),(by first | rfl | (simp;done) | (simp [*];done)),H',⟨by have:=HJ1.out;have:=HK2.out;have:=HK3.out;have:=HJ24.out;first | omega | exact Nat.le_refl _⟩,⟨by (with_reducible repeat (first | refine blk_drewN ?_ _ | refine blk_drew ?_ | refine blk_alloc ?_ _));exact BK156.out⟩,⟨by (with_reducible repeat (first | refine blk_drewN ?_ _ | refine blk_drew ?_ | refine blk_alloc ?_ _));exact BK162.out⟩,⟨by repeat (first | (with_reducible first | exact HB.out | apply below_alloc | apply pw_below_drewN | apply below_drew1 | refine below_set ?_ GE156.out | refine below_set ?_ GE162.out) | exact HB.out)⟩⟩
          rw [if_neg c53] at H
          have c53b0:decide (((rd_T74 l0_1 x4_3).f0) < ((rd_T74 l0_1 (ji50)).f0)) = false:=decide_eq_false c53
          clear c53
          by_cases c57:((rd_T74 l0_1 (ji50)).f0) = ((rd_T74 l0_1 x4_3).f0)
          ·rw [if_pos c57] at H
           have c57b0:(((rd_T74 l0_1 (ji50)).f0) == ((rd_T74 l0_1 x4_3).f0)) = true:=beq_iff_eq.mpr c57
           have c57b1:(((rd_T74 l0_1 (ji50)).f0) != ((rd_T74 l0_1 x4_3).f0)) = false:=bne_eq_false_iff_eq.mpr c57
           clear c57
           have H':=Aside0.mk H
           clear H
           have hnb58:=NB156_162.out
           have hnc58:=NB162_156.out
           have hcz59_0:wc.cell? ⟨gb156,0,none⟩ = some (.slice A0_0 l0_0.length c0_0):=(blk_cell BK156.out 0).trans rfl
           have hcz59_1:wc.cell? ⟨gb156,1,none⟩ = some (.slice (some ad161) l0_1.length c0_1):=(blk_cell BK156.out 1).trans rfl
           have hfz59_0:=blk_frozen BK156.out 0
           have hfz59_1:=blk_frozen BK156.out 1
           have p165:0 ≤ ((ji50):Int):=of_decide_eq_true (by first | (with_reducible assumption) | assumption)
           have q165:(ji50) < (l0_1.length:Int):=of_decide_eq_true (by first | (with_reducible assumption) | assumption)
           obtain ⟨ad165,e165,hx165_0,hx165_1,hx165_2,hx165_3⟩:=at_T74 HR0_1.out (ji50) p165 q165
           obtain rfl:ad161 = ad165:=(by injection e165)
           replace hx165_0:=(HB.out.cell (World.block_lt_of_cell? w _ hx165_0)).trans hx165_0
           replace hx165_1:=(HB.out.cell (World.block_lt_of_cell? w _ hx165_1)).trans hx165_1
           replace hx165_2:=(HB.out.cell (World.block_lt_of_cell? w _ hx165_2)).trans hx165_2
           replace hx165_3:=(HB.out.cell (World.block_lt_of_cell? w _ hx165_3)).trans hx165_3
           replace p165:=eq_true p165
           replace q165:=eq_true q165
           have hcz60_0:wc.cell? ⟨gb162,0,none⟩ = some (.int .i64 ((rd_T74 l0_1 x4_3).f0)):=(blk_cell BK162.out 0).trans rfl
           have hcz60_1:wc.cell? ⟨gb162,1,none⟩ = some (.int .i64 ((rd_T74 l0_1 x4_3).f1)):=(blk_cell BK162.out 1).trans rfl
           have hcz60_2:wc.cell? ⟨gb162,2,none⟩ = some (.float .f64 ((rd_T74 l0_1 x4_3).f2)):=(blk_cell BK162.out 2).trans rfl
           have hcz60_3:wc.cell? ⟨gb162,3,none⟩ = some (.bool ((rd_T74 l0_1 x4_3).f3)):=(blk_cell BK162.out 3).trans rfl
           have hfz60_0:=blk_frozen BK162.out 0
           have hfz60_1:=blk_frozen BK162.out 1
           have hfz60_2:=blk_frozen BK162.out 2
           have hfz60_3:=blk_frozen BK162.out 3
           have p166:0 ≤ ((ji50):Int):=of_decide_eq_true (by first | (with_reducible assumption) | assumption)
           have q166:(ji50) < (l0_1.length:Int):=of_decide_eq_true (by first | (with_reducible assumption) | assumption)
           obtain ⟨ad166,e166,hx166_0,hx166_1,hx166_2,hx166_3⟩:=at_T74 HR0_1.out (ji50) p166 q166
           obtain rfl:ad161 = ad166:=(by injection e166)
           replace hx166_0:=(HB.out.cell (World.block_lt_of_cell? w _ hx166_0)).trans hx166_0
           replace hx166_1:=(HB.out.cell (World.block_lt_of_cell? w _ hx166_1)).trans hx166_1
           replace hx166_2:=(HB.out.cell (World.block_lt_of_cell? w _ hx166_2)).trans hx166_2
           replace hx166_3:=(HB.out.cell (World.block_lt_of_cell? w _ hx166_3)).trans hx166_3
           replace p166:=eq_true p166
           replace q166:=eq_true q166
           have p167:0 ≤ ((ji50):Int):=of_decide_eq_true (by first | (with_reducible assumption) | assumption)
           have q167:(ji50) < (l0_1.length:Int):=of_decide_eq_true (by first | (with_reducible assumption) | assumption)
           obtain ⟨ad167,e167,hx167_0,hx167_1,hx167_2,hx167_3⟩:=at_T74 HR0_1.out (ji50) p167 q167
           obtain rfl:ad161 = ad167:=(by injection e167)
           replace hx167_0:=(HB.out.cell (World.block_lt_of_cell? w _ hx167_0)).trans hx167_0
           replace hx167_1:=(HB.out.cell (World.block_lt_of_cell? w _ hx167_1)).trans hx167_1
           replace hx167_2:=(HB.out.cell (World.block_lt_of_cell? w _ hx167_2)).trans hx167_2
           replace hx167_3:=(HB.out.cell (World.block_lt_of_cell? w _ hx167_3)).trans hx167_3
           replace p167:=eq_true p167
           replace q167:=eq_true q167
           go_wp2
           repeat (go_quiet (fail);try go_wp2)
           go_meet
           case rel => exact ⟨_,(decide (((rd_T74 l0_1 (ji50)).f1) ≥ ((rd_T74 l0_1 x4_3).f1))),(by first | rfl | (simp;done) | (simp only [← hji50] <;> (first | rfl | simp)) | (simp [*];done)),H',⟨by have:=HJ1.out;have:=HK2.out;have:=HK3.out;have:=HJ24.out;first | omega | exact Nat.le_refl _⟩,⟨by (with_reducible repeat (first | refine blk_drewN ?_ _ | refine blk_drew ?_ | refine blk_alloc ?_ _));exact BK156.out⟩,⟨by (with_reducible repeat (first | refine blk_drewN ?_ _ | refine blk_drew ?_ | refine blk_alloc ?_ _));exact BK162.out⟩,⟨by repeat (first | (with_reducible first | exact HB.out | apply below_alloc | apply pw_below_drewN | apply below_drew1 | refine below_set ?_ GE156.out | refine below_set ?_ GE162.out) | exact HB.out)⟩⟩
          rw [if_neg c57] at H
          have c57b0:(((rd_T74 l0_1 (ji50)).f0) == ((rd_T74 l0_1 x4_3).f0)) = false:=beq_eq_false_iff_ne.mpr c57
          have c57b1:(((rd_T74 l0_1 (ji50)).f0) != ((rd_T74 l0_1 x4_3).f0)) = true:=bne_iff_ne.mpr c57
          have H':=Aside0.mk H
          clear H
          have hnb61:=NB156_162.out
          have hnc61:=NB162_156.out
          have hcz62_0:wc.cell? ⟨gb156,0,none⟩ = some (.slice A0_0 l0_0.length c0_0):=(blk_cell BK156.out 0).trans rfl
          have hcz62_1:wc.cell? ⟨gb156,1,none⟩ = some (.slice (some ad161) l0_1.length c0_1):=(blk_cell BK156.out 1).trans rfl
          have hfz62_0:=blk_frozen BK156.out 0
          have hfz62_1:=blk_frozen BK156.out 1
          have p165:0 ≤ ((ji50):Int):=of_decide_eq_true (by first | (with_reducible assumption) | assumption)
          have q165:(ji50) < (l0_1.length:Int):=of_decide_eq_true (by first | (with_reducible assumption) | assumption)
          obtain ⟨ad165,e165,hx165_0,hx165_1,hx165_2,hx165_3⟩:=at_T74 HR0_1.out (ji50) p165 q165
          obtain rfl:ad161 = ad165:=(by injection e165)
          replace hx165_0:=(HB.out.cell (World.block_lt_of_cell? w _ hx165_0)).trans hx165_0
          replace hx165_1:=(HB.out.cell (World.block_lt_of_cell? w _ hx165_1)).trans hx165_1
          replace hx165_2:=(HB.out.cell (World.block_lt_of_cell? w _ hx165_2)).trans hx165_2
          replace hx165_3:=(HB.out.cell (World.block_lt_of_cell? w _ hx165_3)).trans hx165_3
          replace p165:=eq_true p165
          replace q165:=eq_true q165
          have hcz63_0:wc.cell? ⟨gb162,0,none⟩ = some (.int .i64 ((rd_T74 l0_1 x4_3).f0)):=(blk_cell BK162.out 0).trans rfl
          have hcz63_1:wc.cell? ⟨gb162,1,none⟩ = some (.int .i64 ((rd_T74 l0_1 x4_3).f1)):=(blk_cell BK162.out 1).trans rfl
          have hcz63_2:wc.cell? ⟨gb162,2,none⟩ = some (.float .f64 ((rd_T74 l0_1 x4_3).f2)):=(blk_cell BK162.out 2).trans rfl
          have hcz63_3:wc.cell? ⟨gb162,3,none⟩ = some (.bool ((rd_T74 l0_1 x4_3).f3)):=(blk_cell BK162.out 3).trans rfl
          have hfz63_0:=blk_frozen BK162.out 0
          have hfz63_1:=blk_frozen BK162.out 1
          have hfz63_2:=blk_frozen BK162.out 2
          have hfz63_3:=blk_frozen BK162.out 3
          have p166:0 ≤ ((ji50):Int):=of_decide_eq_true (by first | (with_reducible assumption) | assumption)
          have q166:(ji50) < (l0_1.length:Int):=of_decide_eq_true (by first | (with_reducible assumption) | assumption)
          obtain ⟨ad166,e166,hx166_0,hx166_1,hx166_2,hx166_3⟩:=at_T74 HR0_1.out (ji50) p166 q166
          obtain rfl:ad161 = ad166:=(by injection e166)
          replace hx166_0:=(HB.out.cell (World.block_lt_of_cell? w _ hx166_0)).trans hx166_0
          replace hx166_1:=(HB.out.cell (World.block_lt_of_cell? w _ hx166_1)).trans hx166_1
          replace hx166_2:=(HB.out.cell (World.block_lt_of_cell? w _ hx166_2)).trans hx166_2
          replace hx166_3:=(HB.out.cell (World.block_lt_of_cell? w _ hx166_3)).trans hx166_3
          replace p166:=eq_true p166
          replace q166:=eq_true q166
          go_wp2
          repeat (go_quiet (fail);try go_wp2)
          go_meet
          case rel => exact ⟨_,(false),(by first | rfl | (simp;done) | (simp [*];done)),H',⟨by have:=HJ1.out;have:=HK2.out;have:=HK3.out;have:=HJ24.out;first | omega | exact Nat.le_refl _⟩,⟨by (with_reducible repeat (first | refine blk_drewN ?_ _ | refine blk_drew ?_ | refine blk_alloc ?_ _));exact BK156.out⟩,⟨by (with_reducible repeat (first | refine blk_drewN ?_ _ | refine blk_drew ?_ | refine blk_alloc ?_ _));exact BK162.out⟩,⟨by repeat (first | (with_reducible first | exact HB.out | apply below_alloc | apply pw_below_drewN | apply below_drew1 | refine below_set ?_ GE156.out | refine below_set ?_ GE162.out) | exact HB.out)⟩⟩
         case rest =>
          clear HC48
          obtain ⟨kq,x120_47,rfl,HA,HJ47,BK156,BK162,HB⟩:=hcut
          cases kq with
          | zero => exact absurd HA.out (by simp [beaconref07_Check.j5])
          | succ kj47 =>
           have H:=HA.out
           clear HA
           simp only [beaconref07_Check.j5] at H
           by_cases c64:x120_47 = true
           ·subst c64
            have H1:(some 71) = some r:=by rw [if_pos rfl] at H;exact H
            clear H
            have H:=H1
            clear H1
            obtain rfl:=Option.some.inj H
            go_wp2
            repeat (go_quiet (fail);try go_wp2)
            go_ret
            exact ⟨by first | rfl | (simp [errW_none,errW_some] <;> rfl) | (simp [*,errW_none,errW_some] <;> rfl),by repeat (first | (with_reducible first | exact HB.out | apply below_alloc | apply pw_below_drewN | apply below_drew1 | refine below_set ?_ GE156.out | refine below_set ?_ GE162.out) | exact HB.out)⟩
           replace c64:=Bool.eq_false_iff.mpr c64
           subst c64
           have H1:((beaconref01_Weight.f ((rd_T74 l0_1 x4_3).f2)).bind fun t168 => (if t168 = 0 then (beaconref07_Check.l1 kj47 (wrap64 (x4_3 + 1)) l0_0 l0_1) else (some t168))) = some r:=by rw [if_neg (show ¬ (false = true) by decide)] at H;exact H
           clear H
           have H:=H1
           clear H1
           replace H:=Option.bind_eq_some_iff.mp H
           obtain ⟨t168,A650,H⟩:=H
           replace H:(if t168 = 0 then (beaconref07_Check.l1 kj47 (wrap64 (x4_3 + 1)) l0_0 l0_1) else (some t168)) = some r:=H
           have A65:=Aside0.mk A650
           clear A650
           by_cases c66:t168 = 0
           ·rw [if_pos c66] at H
            have c66b0:(t168 == 0) = true:=beq_iff_eq.mpr c66
            have c66b1:(t168 != 0) = false:=bne_eq_false_iff_eq.mpr c66
            clear c66
            have H':=Aside0.mk H
            clear H
            have hnb67:=NB162_156.out
            have hnc67:=NB156_162.out
            have hcz68_0:wc.cell? ⟨gb162,0,none⟩ = some (.int .i64 ((rd_T74 l0_1 x4_3).f0)):=(blk_cell BK162.out 0).trans rfl
            have hcz68_1:wc.cell? ⟨gb162,1,none⟩ = some (.int .i64 ((rd_T74 l0_1 x4_3).f1)):=(blk_cell BK162.out 1).trans rfl
            have hcz68_2:wc.cell? ⟨gb162,2,none⟩ = some (.float .f64 ((rd_T74 l0_1 x4_3).f2)):=(blk_cell BK162.out 2).trans rfl
            have hcz68_3:wc.cell? ⟨gb162,3,none⟩ = some (.bool ((rd_T74 l0_1 x4_3).f3)):=(blk_cell BK162.out 3).trans rfl
            have hfz68_0:=blk_frozen BK162.out 0
            have hfz68_1:=blk_frozen BK162.out 1
            have hfz68_2:=blk_frozen BK162.out 2
            have hfz68_3:=blk_frozen BK162.out 3
            go_wp2_with (first | (go_at_call 41;(with_reducible refine (beaconref01_Weight.calls ((rd_T74 l0_1 x4_3).f2) t168 _ A65.out).mono ?_);rintro e w' ⟨rfl,⟨nd,rfl⟩⟩;(try first | exact ⟨rfl,_,World.drewN_drewN _ _ _⟩ | exact ⟨rfl,_,Eq.trans (World.drewN_drewN _ _ _) (congrArg (World.drewN _) (Nat.add_assoc _ _ _))⟩)))
            go_roundg kj47
            case measure => have:=HJ1.out;have:=HK2.out;have:=HK3.out;have:=HJ24.out;have:=HJ47.out;omega
            case rel => exact ⟨(wrap64 (x4_3 + 1)),(by first | rfl | (simp;done) | (simp [*];done)),H',⟨by have:=HJ1.out;have:=HK2.out;have:=HK3.out;have:=HJ24.out;have:=HJ47.out;omega⟩,⟨by (with_reducible repeat (first | refine blk_drewN ?_ _ | refine blk_drew ?_ | refine blk_alloc ?_ _));exact BK156.out⟩,⟨by repeat (first | (with_reducible first | exact HB.out | apply below_alloc | apply pw_below_drewN | apply below_drew1 | refine below_set ?_ GE156.out | refine below_set ?_ GE162.out) | exact HB.out)⟩⟩
           rw [if_neg c66] at H
           have c66b0:(t168 == 0) = false:=beq_eq_false_iff_ne.mpr c66
           have c66b1:(t168 != 0) = true:=bne_iff_ne.mpr c66
           obtain rfl:=Option.some.inj H
           have hnb69:=NB162_156.out
           have hnc69:=NB156_162.out
           have hcz70_0:wc.cell? ⟨gb162,0,none⟩ = some (.int .i64 ((rd_T74 l0_1 x4_3).f0)):=(blk_cell BK162.out 0).trans rfl
           have hcz70_1:wc.cell? ⟨gb162,1,none⟩ = some (.int .i64 ((rd_T74 l0_1 x4_3).f1)):=(blk_cell BK162.out 1).trans rfl
           have hcz70_2:wc.cell? ⟨gb162,2,none⟩ = some (.float .f64 ((rd_T74 l0_1 x4_3).f2)):=(blk_cell BK162.out 2).trans rfl
           have hcz70_3:wc.cell? ⟨gb162,3,none⟩ = some (.bool ((rd_T74 l0_1 x4_3).f3)):=(blk_cell BK162.out 3).trans rfl
           have hfz70_0:=blk_frozen BK162.out 0
           have hfz70_1:=blk_frozen BK162.out 1
           have hfz70_2:=blk_frozen BK162.out 2
           have hfz70_3:=blk_frozen BK162.out 3
           go_wp2_with (first | (go_at_call 41;(with_reducible refine (beaconref01_Weight.calls ((rd_T74 l0_1 x4_3).f2) t168 _ A65.out).mono ?_);rintro e w' ⟨rfl,⟨nd,rfl⟩⟩;(try first | exact ⟨rfl,_,World.drewN_drewN _ _ _⟩ | exact ⟨rfl,_,Eq.trans (World.drewN_drewN _ _ _) (congrArg (World.drewN _) (Nat.add_assoc _ _ _))⟩)))
           go_ret
           exact ⟨by first | rfl | (simp [errW_none,errW_some] <;> rfl) | (simp [*,errW_none,errW_some] <;> rfl),by repeat (first | (with_reducible first | exact HB.out | apply below_alloc | apply pw_below_drewN | apply below_drew1 | refine below_set ?_ GE156.out | refine below_set ?_ GE162.out) | exact HB.out)⟩
end Go.Proofs.Ytmdkcecbklgihaa.PA
