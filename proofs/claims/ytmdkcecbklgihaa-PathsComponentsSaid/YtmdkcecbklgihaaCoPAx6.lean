/- Printed by a program of this session (wip/tools/patch_print.py and pr.py, over the kit's print): each Go function as a plain Lean function, and that the Go code comes to just its answers. Conditions: those that each theorem names. -/
import Derived.Test.YtmdkcecbklgihaaCcPAx0
import Derived.Test.YtmdkcecbklgihaaCcPAx1
import Derived.Test.YtmdkcecbklgihaaCcPAx5
namespace Go.Proofs.Ytmdkcecbklgihaa.PA
open Go.RowKit Go.Proofs.YtmdkcecbklgihaaW.PrintWords Go.Proofs.YtmdkcecbklgihaaW.PrintLast Go.Proofs.YtmdkcecbklgihaaW.PrintMore
attribute [local go_sem] max2_int min2_int max_two min_two max_three min_three max_four min_four
set_option linter.unusedVariables false
set_option linter.unusedSimpArgs false
mutual
def beaconref08_next.j0:Nat → Int → List Nat → Int → Bool → List (S40) → List (S74) → Option (Int)
 | 0,_,_,_,_,_,_ => none
 | k + 1,x1,x3,x9,x26,x178000,x178001 => if x26 = true then (some 0) else (beaconref08_next.l0 k x1 x3 x9 0 0 x178000 x178001)
def beaconref08_next.l0:Nat → Int → List Nat → Int → Int → Int → List (S40) → List (S74) → Option (Int)
 | 0,_,_,_,_,_,_,_ => none
 | k + 1,x1,x3,x9,x10,x11,x178000,x178001 => if x11 < (x178001.length:Int) then (if 0 ≤ x11 then ((beaconref08_other.f ((rd_T74 x178001 x11).f0) ((rd_T74 x178001 x11).f1) ((rd_T74 x178001 x11).f2) ((rd_T74 x178001 x11).f3) x1).bind fun t183 => (if t183 = 0 then (beaconref08_next.j2 k x1 x3 x9 x10 x11 t183 true x178000 x178001) else (if ((rd_T74 x178001 x11).f3 = true) then ((beaconref08_place.f k x178000 x178001 t183).bind fun t184 => (if 0 ≤ t184 then (if t184 < (x3.length:Int) then ((floatBits .add .f64 (rdOf (0:Nat) x3 t184) ((rd_T74 x178001 x11).f2)).bind fun t186 => (if 0 ≤ x9 then (if x9 < (x3.length:Int) then (beaconref08_next.j2 k x1 x3 x9 x10 x11 t183 (FloatKind.f64.format.order t186 (rdOf (0:Nat) x3 x9) != some .eq) x178000 x178001) else (none)) else (none))) else (none)) else (none))) else (beaconref08_next.j2 k x1 x3 x9 x10 x11 t183 true x178000 x178001)))) else (none)) else (some x10)
def beaconref08_next.j2:Nat → Int → List Nat → Int → Int → Int → Int → Bool → List (S40) → List (S74) → Option (Int)
 | 0,_,_,_,_,_,_,_,_,_ => none
 | k + 1,x1,x3,x9,x10,x11,x13,x64,x178000,x178001 => if x64 = true then (beaconref08_next.l0 k x1 x3 x9 x10 (wrap64 (x11 + 1)) x178000 x178001) else (if x10 = 0 then (beaconref08_next.l0 k x1 x3 x9 x13 (wrap64 (x11 + 1)) x178000 x178001) else (if x13 < x10 then (beaconref08_next.l0 k x1 x3 x9 x13 (wrap64 (x11 + 1)) x178000 x178001) else (beaconref08_next.l0 k x1 x3 x9 x10 (wrap64 (x11 + 1)) x178000 x178001)))
end
def beaconref08_next.f (k:Nat) (l0_0:List (S40)) (l0_1:List (S74)) (a1:Int) (a2:Int) (l3:List Nat):Option (Int):=(beaconref08_place.f k l0_0 l0_1 a1).bind fun t178 => (if a1 = a2 then (beaconref08_next.j0 k a1 l3 t178 true l0_0 l0_1) else (if 0 ≤ t178 then (if t178 < (l3.length:Int) then ((math_IsInf.f (rdOf (0:Nat) l3 t178) 1).bind fun t180 => (beaconref08_next.j0 k a1 l3 t178 t180 l0_0 l0_1)) else (none)) else (none)))
theorem beaconref08_next.mono_l:∀ k,(∀ y0 y1 y2 y3 y4 y5,LeO (beaconref08_next.j0 k y0 y1 y2 y3 y4 y5) (beaconref08_next.j0 (k + 1) y0 y1 y2 y3 y4 y5)) ∧ (∀ y0 y1 y2 y3 y4 y5 y6,LeO (beaconref08_next.l0 k y0 y1 y2 y3 y4 y5 y6) (beaconref08_next.l0 (k + 1) y0 y1 y2 y3 y4 y5 y6)) ∧ (∀ y0 y1 y2 y3 y4 y5 y6 y7 y8,LeO (beaconref08_next.j2 k y0 y1 y2 y3 y4 y5 y6 y7 y8) (beaconref08_next.j2 (k + 1) y0 y1 y2 y3 y4 y5 y6 y7 y8))
 | 0 => ⟨fun _ _ _ _ _ _ r h => by simp [beaconref08_next.j0] at h,fun _ _ _ _ _ _ _ r h => by simp [beaconref08_next.l0] at h,fun _ _ _ _ _ _ _ _ _ r h => by simp [beaconref08_next.j2] at h⟩
 | k + 1 => by
  obtain ⟨ih0,ih1,ih2⟩:=beaconref08_next.mono_l k
  refine ⟨?_,?_,?_⟩
  ·intro y0 y1 y2 y3 y4 y5
   unfold beaconref08_next.j0
   repeat' first
   | (with_reducible exact ih0 _ _ _ _ _ _)
   | (with_reducible exact ih1 _ _ _ _ _ _ _)
   | (with_reducible exact ih2 _ _ _ _ _ _ _ _ _)
   | (with_reducible exact beaconref08_place.mono _ _ _ _)
   | (with_reducible exact LeO.refl _)
   | (with_reducible exact LeO.none _)
   | (with_reducible refine LeO.ite ?_ ?_)
   | (with_reducible refine LeO.bind ?_ (fun _ => ?_))
   | exact ih0 _ _ _ _ _ _
   | exact ih1 _ _ _ _ _ _ _
   | exact ih2 _ _ _ _ _ _ _ _ _
   | exact beaconref08_place.mono _ _ _ _
   | exact LeO.none _
   | refine LeO.ite ?_ ?_
   | refine LeO.bind ?_ (fun _ => ?_)
  ·intro y0 y1 y2 y3 y4 y5 y6
   unfold beaconref08_next.l0
   repeat' first
   | (with_reducible exact ih0 _ _ _ _ _ _)
   | (with_reducible exact ih1 _ _ _ _ _ _ _)
   | (with_reducible exact ih2 _ _ _ _ _ _ _ _ _)
   | (with_reducible exact beaconref08_place.mono _ _ _ _)
   | (with_reducible exact LeO.refl _)
   | (with_reducible exact LeO.none _)
   | (with_reducible refine LeO.ite ?_ ?_)
   | (with_reducible refine LeO.bind ?_ (fun _ => ?_))
   | exact ih0 _ _ _ _ _ _
   | exact ih1 _ _ _ _ _ _ _
   | exact ih2 _ _ _ _ _ _ _ _ _
   | exact beaconref08_place.mono _ _ _ _
   | exact LeO.none _
   | refine LeO.ite ?_ ?_
   | refine LeO.bind ?_ (fun _ => ?_)
  intro y0 y1 y2 y3 y4 y5 y6 y7 y8
  unfold beaconref08_next.j2
  repeat' first
  | (with_reducible exact ih0 _ _ _ _ _ _)
  | (with_reducible exact ih1 _ _ _ _ _ _ _)
  | (with_reducible exact ih2 _ _ _ _ _ _ _ _ _)
  | (with_reducible exact beaconref08_place.mono _ _ _ _)
  | (with_reducible exact LeO.refl _)
  | (with_reducible exact LeO.none _)
  | (with_reducible refine LeO.ite ?_ ?_)
  | (with_reducible refine LeO.bind ?_ (fun _ => ?_))
  | exact ih0 _ _ _ _ _ _
  | exact ih1 _ _ _ _ _ _ _
  | exact ih2 _ _ _ _ _ _ _ _ _
  | exact beaconref08_place.mono _ _ _ _
  | exact LeO.none _
  | refine LeO.ite ?_ ?_
  | refine LeO.bind ?_ (fun _ => ?_)
theorem beaconref08_next.mono:∀ a0 a1 a2 a3 a4 k,LeO (beaconref08_next.f k a0 a1 a2 a3 a4) (beaconref08_next.f (k + 1) a0 a1 a2 a3 a4):=by
 intro a0 a1 a2 a3 a4 k
 obtain ⟨ih0,ih1,ih2⟩:=beaconref08_next.mono_l k
 unfold beaconref08_next.f
 repeat' first
   | (with_reducible exact ih0 _ _ _ _ _ _)
   | (with_reducible exact ih1 _ _ _ _ _ _ _)
   | (with_reducible exact ih2 _ _ _ _ _ _ _ _ _)
   | (with_reducible exact beaconref08_place.mono _ _ _ _)
   | (with_reducible exact LeO.refl _)
   | (with_reducible exact LeO.none _)
   | (with_reducible refine LeO.ite ?_ ?_)
   | (with_reducible refine LeO.bind ?_ (fun _ => ?_))
   | exact ih0 _ _ _ _ _ _
   | exact ih1 _ _ _ _ _ _ _
   | exact ih2 _ _ _ _ _ _ _ _ _
   | exact beaconref08_place.mono _ _ _ _
   | exact LeO.none _
   | refine LeO.ite ?_ ?_
   | refine LeO.bind ?_ (fun _ => ?_)
end Go.Proofs.Ytmdkcecbklgihaa.PA
