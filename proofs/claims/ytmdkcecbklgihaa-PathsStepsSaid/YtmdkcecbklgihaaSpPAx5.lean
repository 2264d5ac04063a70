/- Printed by a program of this session (wip/tools/patch_print.py and pr.py, over the kit's print): each Go function as a plain Lean function, and that the Go code comes to just its answers. Conditions: those that each theorem names. -/
import Derived.Test.YtmdkcecbklgihaaSpX
import Derived.Test.YtmdkcecbklgihaaCPAx0
import Derived.Test.YtmdkcecbklgihaaCPAx3
import Derived.Test.YtmdkcecbklgihaaSpPAx4
namespace Go.Proofs.Ytmdkcecbklgihaa.PA
open Go.RowKit Go.Proofs.YtmdkcecbklgihaaW.PrintWords Go.Proofs.YtmdkcecbklgihaaW.PrintLast Go.Proofs.YtmdkcecbklgihaaW.PrintMore
attribute [local go_sem] max2_int min2_int max_two min_two max_three min_three max_four min_four
set_option linter.unusedVariables false
set_option linter.unusedSimpArgs false
def beaconref08_place.l0:Nat → Int → Int → List (S40) → List (S74) → Option (Int)
 | 0,_,_,_,_ => none
 | k + 1,x1,x5,x170000,x170001 => if x5 < (x170000.length:Int) then (if 0 ≤ x5 then (if ((rd_T40 x170000 x5).f0) = x1 then (some x5) else (beaconref08_place.l0 k x1 (wrap64 (x5 + 1)) x170000 x170001)) else (none)) else (some (-1))
def beaconref08_place.f (k:Nat) (l0_0:List (S40)) (l0_1:List (S74)) (a1:Int):Option (Int):=beaconref08_place.l0 k a1 0 l0_0 l0_1
theorem beaconref08_place.mono_l:∀ k,(∀ y0 y1 y2 y3,LeO (beaconref08_place.l0 k y0 y1 y2 y3) (beaconref08_place.l0 (k + 1) y0 y1 y2 y3))
 | 0 => fun _ _ _ _ r h => by simp [beaconref08_place.l0] at h
 | k + 1 => by
  have ih0:=beaconref08_place.mono_l k
  ·intro y0 y1 y2 y3
   unfold beaconref08_place.l0
   repeat' first
   | (with_reducible exact ih0 _ _ _ _)
   | (with_reducible exact LeO.refl _)
   | (with_reducible exact LeO.none _)
   | (with_reducible refine LeO.ite ?_ ?_)
   | (with_reducible refine LeO.bind ?_ (fun _ => ?_))
   | exact ih0 _ _ _ _
   | exact LeO.none _
   | refine LeO.ite ?_ ?_
   | refine LeO.bind ?_ (fun _ => ?_)
theorem beaconref08_place.mono:∀ a0 a1 a2 k,LeO (beaconref08_place.f k a0 a1 a2) (beaconref08_place.f (k + 1) a0 a1 a2):=by
 intro a0 a1 a2 k
 have ih0:=beaconref08_place.mono_l k
 unfold beaconref08_place.f
 repeat' first
   | (with_reducible exact ih0 _ _ _ _)
   | (with_reducible exact LeO.refl _)
   | (with_reducible exact LeO.none _)
   | (with_reducible refine LeO.ite ?_ ?_)
   | (with_reducible refine LeO.bind ?_ (fun _ => ?_))
   | exact ih0 _ _ _ _
   | exact LeO.none _
   | refine LeO.ite ?_ ?_
   | refine LeO.bind ?_ (fun _ => ?_)
def beaconref01_Limit.f (a0:Nat):Option (Int):=(beaconref01_bounded.f a0 4742290407621132288).bind fun t171 => (some t171)
def beaconref08_asked.f (k:Nat) (l0_0:List (S40)) (l0_1:List (S74)) (a1:Nat) (a2:Int):Option (Int):=(beaconref01_Limit.f a1).bind fun t173 => (if t173 = 0 then ((beaconref07_Check.f k l0_0 l0_1).bind fun t174 => (if t174 = 0 then ((beaconref08_place.f k l0_0 l0_1 a2).bind fun t175 => (if t175 < 0 then (some 4) else (some t174))) else (some t174))) else (some t173))
theorem beaconref08_asked.mono:∀ a0 a1 a2 a3 k,LeO (beaconref08_asked.f k a0 a1 a2 a3) (beaconref08_asked.f (k + 1) a0 a1 a2 a3):=by
 intro a0 a1 a2 a3 k
 unfold beaconref08_asked.f
 repeat' first
   | (with_reducible exact beaconref07_Check.mono _ _ _)
   | (with_reducible exact beaconref08_place.mono _ _ _ _)
   | (with_reducible exact LeO.refl _)
   | (with_reducible exact LeO.none _)
   | (with_reducible refine LeO.ite ?_ ?_)
   | (with_reducible refine LeO.bind ?_ (fun _ => ?_))
   | exact beaconref07_Check.mono _ _ _
   | exact beaconref08_place.mono _ _ _ _
   | exact LeO.none _
   | refine LeO.ite ?_ ?_
   | refine LeO.bind ?_ (fun _ => ?_)
def beaconref08_other.f (a0_0:Int) (a0_1:Int) (a0_2:Nat) (a0_3:Bool) (a1:Int):Option (Int):=if a0_0 = a1 then (some a0_1) else (if a0_1 = a1 then (some a0_0) else (some 0))
end Go.Proofs.Ytmdkcecbklgihaa.PA
