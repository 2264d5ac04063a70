/- Printed by a program of this session (wip/tools/patch_print.py and pr.py, over the kit's print): each Go function as a plain Lean function, and that the Go code comes to just its answers. Conditions: those that each theorem names. -/
import Derived.Test.YtmdkcecbklgihaaSpX
import Derived.Test.YtmdkcecbklgihaaCPAx0
import Derived.Test.YtmdkcecbklgihaaCPAx3
namespace Go.Proofs.Ytmdkcecbklgihaa.PA
open Go.RowKit Go.Proofs.YtmdkcecbklgihaaW.PrintWords Go.Proofs.YtmdkcecbklgihaaW.PrintLast Go.Proofs.YtmdkcecbklgihaaW.PrintMore
attribute [local go_sem] max2_int min2_int max_two min_two max_three min_three max_four min_four
set_option linter.unusedVariables false
set_option linter.unusedSimpArgs false
mutual
def beaconref07_Check.j0:Nat → Bool → List (S40) → List (S74) → Option (Int)
 | 0,_,_,_ => none
 | k + 1,x16,x157000,x157001 => if x16 = true then (some 2) else (beaconref07_Check.l0 k 0 x157000 x157001)
def beaconref07_Check.l0:Nat → Int → List (S40) → List (S74) → Option (Int)
 | 0,_,_,_ => none
 | k + 1,x3,x157000,x157001 => if x3 < (x157000.length:Int) then (if 0 ≤ x3 then ((beaconref02_CheckId.f ((rd_T40 x157000 x3).f0)).bind fun t158 => (if t158 = 0 then (if x3 > 0 then (if 0 ≤ (wrap64 (x3 - 1)) then (if (wrap64 (x3 - 1)) < (x157000.length:Int) then (beaconref07_Check.j2 k x3 (decide (((rd_T40 x157000 (wrap64 (x3 - 1))).f0) ≥ ((rd_T40 x157000 x3).f0))) x157000 x157001) else (none)) else (none)) else (beaconref07_Check.j2 k x3 false x157000 x157001)) else (beaconref07_Check.j2 k x3 true x157000 x157001))) else (none)) else (beaconref07_Check.l1 k 0 x157000 x157001)
def beaconref07_Check.j2:Nat → Int → Bool → List (S40) → List (S74) → Option (Int)
 | 0,_,_,_,_ => none
 | k + 1,x3,x51,x157000,x157001 => if x51 = true then (some 70) else (beaconref07_Check.l0 k (wrap64 (x3 + 1)) x157000 x157001)
def beaconref07_Check.l1:Nat → Int → List (S40) → List (S74) → Option (Int)
 | 0,_,_,_ => none
 | k + 1,x4,x157000,x157001 => if x4 < (x157001.length:Int) then (if 0 ≤ x4 then (if ((rd_T74 x157001 x4).f0) ≥ ((rd_T74 x157001 x4).f1) then (beaconref07_Check.j4 k x4 true x157000 x157001 ((rd_T74 x157001 x4).f0) ((rd_T74 x157001 x4).f1) ((rd_T74 x157001 x4).f2) ((rd_T74 x157001 x4).f3)) else ((beaconref07_Place.f k x157000 x157001 ((rd_T74 x157001 x4).f0)).bind fun t163 => (if t163 < 0 then (beaconref07_Check.j4 k x4 true x157000 x157001 ((rd_T74 x157001 x4).f0) ((rd_T74 x157001 x4).f1) ((rd_T74 x157001 x4).f2) ((rd_T74 x157001 x4).f3)) else ((beaconref07_Place.f k x157000 x157001 ((rd_T74 x157001 x4).f1)).bind fun t164 => (beaconref07_Check.j4 k x4 (decide (t164 < 0)) x157000 x157001 ((rd_T74 x157001 x4).f0) ((rd_T74 x157001 x4).f1) ((rd_T74 x157001 x4).f2) ((rd_T74 x157001 x4).f3)))))) else (none)) else (some 0)
def beaconref07_Check.j4:Nat → Int → Bool → List (S40) → List (S74) → Int → Int → Nat → Bool → Option (Int)
 | 0,_,_,_,_,_,_,_,_ => none
 | k + 1,x4,x82,x157000,x157001,x163000,x163001,x163002,x163003 => if x82 = true then (some 71) else (if x4 > 0 then (if 0 ≤ (wrap64 (x4 - 1)) then (if (wrap64 (x4 - 1)) < (x157001.length:Int) then (if ((rd_T74 x157001 (wrap64 (x4 - 1))).f0) > x163000 then (beaconref07_Check.j5 k x4 true x157000 x157001 x163000 x163001 x163002 x163003) else (if ((rd_T74 x157001 (wrap64 (x4 - 1))).f0) = x163000 then (beaconref07_Check.j5 k x4 (decide (((rd_T74 x157001 (wrap64 (x4 - 1))).f1) ≥ x163001)) x157000 x157001 x163000 x163001 x163002 x163003) else (beaconref07_Check.j5 k x4 false x157000 x157001 x163000 x163001 x163002 x163003))) else (none)) else (none)) else (beaconref07_Check.j5 k x4 false x157000 x157001 x163000 x163001 x163002 x163003))
def beaconref07_Check.j5:Nat → Int → Bool → List (S40) → List (S74) → Int → Int → Nat → Bool → Option (Int)
 | 0,_,_,_,_,_,_,_,_ => none
 | k + 1,x4,x120,x157000,x157001,x163000,x163001,x163002,x163003 => if x120 = true then (some 71) else ((beaconref01_Weight.f x163002).bind fun t168 => (if t168 = 0 then (beaconref07_Check.l1 k (wrap64 (x4 + 1)) x157000 x157001) else (some t168)))
end
def beaconref07_Check.f (k:Nat) (l0_0:List (S40)) (l0_1:List (S74)):Option (Int):=if (l0_0.length:Int) > 256 then (beaconref07_Check.j0 k true l0_0 l0_1) else (beaconref07_Check.j0 k (decide ((l0_1.length:Int) > 4096)) l0_0 l0_1)
theorem beaconref07_Check.mono_l:∀ k,(∀ y0 y1 y2,LeO (beaconref07_Check.j0 k y0 y1 y2) (beaconref07_Check.j0 (k + 1) y0 y1 y2)) ∧ (∀ y0 y1 y2,LeO (beaconref07_Check.l0 k y0 y1 y2) (beaconref07_Check.l0 (k + 1) y0 y1 y2)) ∧ (∀ y0 y1 y2 y3,LeO (beaconref07_Check.j2 k y0 y1 y2 y3) (beaconref07_Check.j2 (k + 1) y0 y1 y2 y3)) ∧ (∀ y0 y1 y2,LeO (beaconref07_Check.l1 k y0 y1 y2) (beaconref07_Check.l1 (k + 1) y0 y1 y2)) ∧ (∀ y0 y1 y2 y3 y4 y5 y6 y7,LeO (beaconref07_Check.j4 k y0 y1 y2 y3 y4 y5 y6 y7) (beaconref07_Check.j4 (k + 1) y0 y1 y2 y3 y4 y5 y6 y7)) ∧ (∀ y0 y1 y2 y3 y4 y5 y6 y7,LeO (beaconref07_Check.j5 k y0 y1 y2 y3 y4 y5 y6 y7) (beaconref07_Check.j5 (k + 1) y0 y1 y2 y3 y4 y5 y6 y7))
 | 0 => ⟨fun _ _ _ r h => by simp [beaconref07_Check.j0] at h,fun _ _ _ r h => by simp [beaconref07_Check.l0] at h,fun _ _ _ _ r h => by simp [beaconref07_Check.j2] at h,fun _ _ _ r h => by simp [beaconref07_Check.l1] at h,fun _ _ _ _ _ _ _ _ r h => by simp [beaconref07_Check.j4] at h,fun _ _ _ _ _ _ _ _ r h => by simp [beaconref07_Check.j5] at h⟩
 | k + 1 => by
  obtain ⟨ih0,ih1,ih2,ih3,ih4,ih5⟩:=beaconref07_Check.mono_l k
  refine ⟨?_,?_,?_,?_,?_,?_⟩
  ·intro y0 y1 y2
   unfold beaconref07_Check.j0
   repeat' first
   | (with_reducible exact ih0 _ _ _)
   | (with_reducible exact ih1 _ _ _)
   | (with_reducible exact ih2 _ _ _ _)
   | (with_reducible exact ih3 _ _ _)
   | (with_reducible exact ih4 _ _ _ _ _ _ _ _)
   | (with_reducible exact ih5 _ _ _ _ _ _ _ _)
   | (with_reducible exact beaconref07_Place.mono _ _ _ _)
   | (with_reducible exact LeO.refl _)
   | (with_reducible exact LeO.none _)
   | (with_reducible refine LeO.ite ?_ ?_)
   | (with_reducible refine LeO.bind ?_ (fun _ => ?_))
   | exact ih0 _ _ _
   | exact ih1 _ _ _
   | exact ih2 _ _ _ _
   | exact ih3 _ _ _
   | exact ih4 _ _ _ _ _ _ _ _
   | exact ih5 _ _ _ _ _ _ _ _
   | exact beaconref07_Place.mono _ _ _ _
   | exact LeO.none _
   | refine LeO.ite ?_ ?_
   | refine LeO.bind ?_ (fun _ => ?_)
  ·intro y0 y1 y2
   unfold beaconref07_Check.l0
   repeat' first
   | (with_reducible exact ih0 _ _ _)
   | (with_reducible exact ih1 _ _ _)
   | (with_reducible exact ih2 _ _ _ _)
   | (with_reducible exact ih3 _ _ _)
   | (with_reducible exact ih4 _ _ _ _ _ _ _ _)
   | (with_reducible exact ih5 _ _ _ _ _ _ _ _)
   | (with_reducible exact beaconref07_Place.mono _ _ _ _)
   | (with_reducible exact LeO.refl _)
   | (with_reducible exact LeO.none _)
   | (with_reducible refine LeO.ite ?_ ?_)
   | (with_reducible refine LeO.bind ?_ (fun _ => ?_))
   | exact ih0 _ _ _
   | exact ih1 _ _ _
   | exact ih2 _ _ _ _
   | exact ih3 _ _ _
   | exact ih4 _ _ _ _ _ _ _ _
   | exact ih5 _ _ _ _ _ _ _ _
   | exact beaconref07_Place.mono _ _ _ _
   | exact LeO.none _
   | refine LeO.ite ?_ ?_
   | refine LeO.bind ?_ (fun _ => ?_)
  ·intro y0 y1 y2 y3
   unfold beaconref07_Check.j2
   repeat' first
   | (with_reducible exact ih0 _ _ _)
   | (with_reducible exact ih1 _ _ _)
   | (with_reducible exact ih2 _ _ _ _)
   | (with_reducible exact ih3 _ _ _)
   | (with_reducible exact ih4 _ _ _ _ _ _ _ _)
   | (with_reducible exact ih5 _ _ _ _ _ _ _ _)
   | (with_reducible exact beaconref07_Place.mono _ _ _ _)
   | (with_reducible exact LeO.refl _)
   | (with_reducible exact LeO.none _)
   | (with_reducible refine LeO.ite ?_ ?_)
   | (with_reducible refine LeO.bind ?_ (fun _ => ?_))
   | exact ih0 _ _ _
   | exact ih1 _ _ _
   | exact ih2 _ _ _ _
   | exact ih3 _ _ _
   | exact ih4 _ _ _ _ _ _ _ _
   | exact ih5 _ _ _ _ _ _ _ _
   | exact beaconref07_Place.mono _ _ _ _
   | exact LeO.none _
   | refine LeO.ite ?_ ?_
   | refine LeO.bind ?_ (fun _ => ?_)
  ·intro y0 y1 y2
   unfold beaconref07_Check.l1
   repeat' first
   | (with_reducible exact ih0 _ _ _)
   | (with_reducible exact ih1 _ _ _)
   | (with_reducible exact ih2 _ _ _ _)
   | (with_reducible exact ih3 _ _ _)
   | (with_reducible exact ih4 _ _ _ _ _ _ _ _)
   | (with_reducible exact ih5 _ _ _ _ _ _ _ _)
   | (with_reducible exact beaconref07_Place.mono _ _ _ _)
   | (with_reducible exact LeO.refl _)
   | (with_reducible exact LeO.none _)
   | (with_reducible refine LeO.ite ?_ ?_)
   | (with_reducible refine LeO.bind ?_ (fun _ => ?_))
   | exact ih0 _ _ _
   | exact ih1 _ _ _
   | exact ih2 _ _ _ _
   | exact ih3 _ _ _
   | exact ih4 _ _ _ _ _ _ _ _
   | exact ih5 _ _ _ _ _ _ _ _
   | exact beaconref07_Place.mono _ _ _ _
   | exact LeO.none _
   | refine LeO.ite ?_ ?_
   | refine LeO.bind ?_ (fun _ => ?_)
  ·intro y0 y1 y2 y3 y4 y5 y6 y7
   unfold beaconref07_Check.j4
   repeat' first
   | (with_reducible exact ih0 _ _ _)
   | (with_reducible exact ih1 _ _ _)
   | (with_reducible exact ih2 _ _ _ _)
   | (with_reducible exact ih3 _ _ _)
   | (with_reducible exact ih4 _ _ _ _ _ _ _ _)
   | (with_reducible exact ih5 _ _ _ _ _ _ _ _)
   | (with_reducible exact beaconref07_Place.mono _ _ _ _)
   | (with_reducible exact LeO.refl _)
   | (with_reducible exact LeO.none _)
   | (with_reducible refine LeO.ite ?_ ?_)
   | (with_reducible refine LeO.bind ?_ (fun _ => ?_))
   | exact ih0 _ _ _
   | exact ih1 _ _ _
   | exact ih2 _ _ _ _
   | exact ih3 _ _ _
   | exact ih4 _ _ _ _ _ _ _ _
   | exact ih5 _ _ _ _ _ _ _ _
   | exact beaconref07_Place.mono _ _ _ _
   | exact LeO.none _
   | refine LeO.ite ?_ ?_
   | refine LeO.bind ?_ (fun _ => ?_)
  ·intro y0 y1 y2 y3 y4 y5 y6 y7
   unfold beaconref07_Check.j5
   repeat' first
   | (with_reducible exact ih0 _ _ _)
   | (with_reducible exact ih1 _ _ _)
   | (with_reducible exact ih2 _ _ _ _)
   | (with_reducible exact ih3 _ _ _)
   | (with_reducible exact ih4 _ _ _ _ _ _ _ _)
   | (with_reducible exact ih5 _ _ _ _ _ _ _ _)
   | (with_reducible exact beaconref07_Place.mono _ _ _ _)
   | (with_reducible exact LeO.refl _)
   | (with_reducible exact LeO.none _)
   | (with_reducible refine LeO.ite ?_ ?_)
   | (with_reducible refine LeO.bind ?_ (fun _ => ?_))
   | exact ih0 _ _ _
   | exact ih1 _ _ _
   | exact ih2 _ _ _ _
   | exact ih3 _ _ _
   | exact ih4 _ _ _ _ _ _ _ _
   | exact ih5 _ _ _ _ _ _ _ _
   | exact beaconref07_Place.mono _ _ _ _
   | exact LeO.none _
   | refine LeO.ite ?_ ?_
   | refine LeO.bind ?_ (fun _ => ?_)
theorem beaconref07_Check.mono:∀ a0 a1 k,LeO (beaconref07_Check.f k a0 a1) (beaconref07_Check.f (k + 1) a0 a1):=by
 intro a0 a1 k
 obtain ⟨ih0,ih1,ih2,ih3,ih4,ih5⟩:=beaconref07_Check.mono_l k
 unfold beaconref07_Check.f
 repeat' first
   | (with_reducible exact ih0 _ _ _)
   | (with_reducible exact ih1 _ _ _)
   | (with_reducible exact ih2 _ _ _ _)
   | (with_reducible exact ih3 _ _ _)
   | (with_reducible exact ih4 _ _ _ _ _ _ _ _)
   | (with_reducible exact ih5 _ _ _ _ _ _ _ _)
   | (with_reducible exact beaconref07_Place.mono _ _ _ _)
   | (with_reducible exact LeO.refl _)
   | (with_reducible exact LeO.none _)
   | (with_reducible refine LeO.ite ?_ ?_)
   | (with_reducible refine LeO.bind ?_ (fun _ => ?_))
   | exact ih0 _ _ _
   | exact ih1 _ _ _
   | exact ih2 _ _ _ _
   | exact ih3 _ _ _
   | exact ih4 _ _ _ _ _ _ _ _
   | exact ih5 _ _ _ _ _ _ _ _
   | exact beaconref07_Place.mono _ _ _ _
   | exact LeO.none _
   | refine LeO.ite ?_ ?_
   | refine LeO.bind ?_ (fun _ => ?_)
end Go.Proofs.Ytmdkcecbklgihaa.PA
