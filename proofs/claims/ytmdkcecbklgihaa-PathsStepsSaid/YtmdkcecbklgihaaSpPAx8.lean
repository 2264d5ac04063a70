/- Printed by a program of this session (wip/tools/patch_print.py and pr.py, over the kit's print): each Go function as a plain Lean function, and that the Go code comes to just its answers. Conditions: those that each theorem names. -/
import Derived.Test.YtmdkcecbklgihaaSpX
import Derived.Test.YtmdkcecbklgihaaCPAx0
import Derived.Test.YtmdkcecbklgihaaCPAx3
import Derived.Test.YtmdkcecbklgihaaSpPAx5
import Derived.Test.YtmdkcecbklgihaaCPAx7
namespace Go.Proofs.Ytmdkcecbklgihaa.PA
open Go.RowKit Go.Proofs.YtmdkcecbklgihaaW.PrintWords Go.Proofs.YtmdkcecbklgihaaW.PrintLast Go.Proofs.YtmdkcecbklgihaaW.PrintMore
attribute [local go_sem] max2_int min2_int max_two min_two max_three min_three max_four min_four
set_option linter.unusedVariables false
set_option linter.unusedSimpArgs false
mutual
def beaconref08_dists.l0:Nat → Nat → Int → List Nat → Int → List (S40) → List (S74) → Option (List Nat)
 | 0,_,_,_,_,_,_ => none
 | k + 1,x1,x2,x7,x8,x193000,x193001 => if x8 < (x193000.length:Int) then ((math_Inf.f 1).bind fun t193 => (if x7.length < 17592186044416 then (beaconref08_dists.l0 k x1 x2 (x7 ++ [t193]) (wrap64 (x8 + 1)) x193000 x193001) else (none))) else ((beaconref08_place.f k x193000 x193001 x2).bind fun t197 => (if 0 ≤ t197 then (if t197 < (x193000.length:Int) then (if ((rd_T40 x193000 t197).f1 = true) then (if t197 < (x7.length:Int) then (beaconref08_dists.l1 k x1 (x7.set (t197:Int).toNat 0) ([]:List Int) ([]:List Int) 0 x193000 x193001) else (none)) else (some x7)) else (none)) else (none)))
def beaconref08_dists.l1:Nat → Nat → List Nat → List Int → List Int → Int → List (S40) → List (S74) → Option (List Nat)
 | 0,_,_,_,_,_,_,_ => none
 | k + 1,x1,x7,x10,x11,x12,x193000,x193001 => if x12 < (x193001.length:Int) then (if 0 ≤ x12 then ((beaconref08_place.f k x193000 x193001 ((rd_T74 x193001 x12).f0)).bind fun t201 => (if x10.length < 17592186044416 then ((beaconref08_place.f k x193000 x193001 ((rd_T74 x193001 x12).f1)).bind fun t206 => (if x11.length < 17592186044416 then (beaconref08_dists.l1 k x1 x7 (x10 ++ [t201]) (x11 ++ [t206]) (wrap64 (x12 + 1)) x193000 x193001) else (none))) else (none))) else (none)) else (beaconref08_dists.l2 k x1 x7 x10 x11 true x193000 x193001)
def beaconref08_dists.l2:Nat → Nat → List Nat → List Int → List Int → Bool → List (S40) → List (S74) → Option (List Nat)
 | 0,_,_,_,_,_,_,_ => none
 | k + 1,x1,x7,x10,x11,x13,x193000,x193001 => if x13 = true then (beaconref08_dists.l3 k x1 x7 x10 x11 false 0 x193000 x193001) else (some x7)
def beaconref08_dists.l3:Nat → Nat → List Nat → List Int → List Int → Bool → Int → List (S40) → List (S74) → Option (List Nat)
 | 0,_,_,_,_,_,_,_,_ => none
 | k + 1,x1,x7,x10,x11,x13,x14,x193000,x193001 => if x14 < (x193001.length:Int) then (if 0 ≤ x14 then (if x14 < (x10.length:Int) then (if x14 < (x11.length:Int) then (if ((rd_T74 x193001 x14).f3 = true) then (if 0 ≤ (rd x10 x14) then (if (rd x10 x14) < (x193000.length:Int) then (if ((rd_T40 x193000 (rd x10 x14)).f1 = true) then (if 0 ≤ (rd x11 x14) then (if (rd x11 x14) < (x193000.length:Int) then (beaconref08_dists.j4 k x1 x7 x10 x11 x13 x14 (rd x10 x14) (rd x11 x14) (!((rd_T40 x193000 (rd x11 x14)).f1)) x193000 x193001 ((rd_T74 x193001 x14).f0) ((rd_T74 x193001 x14).f1) ((rd_T74 x193001 x14).f2) ((rd_T74 x193001 x14).f3)) else (none)) else (none)) else (beaconref08_dists.j4 k x1 x7 x10 x11 x13 x14 (rd x10 x14) (rd x11 x14) true x193000 x193001 ((rd_T74 x193001 x14).f0) ((rd_T74 x193001 x14).f1) ((rd_T74 x193001 x14).f2) ((rd_T74 x193001 x14).f3))) else (none)) else (none)) else (beaconref08_dists.j4 k x1 x7 x10 x11 x13 x14 (rd x10 x14) (rd x11 x14) true x193000 x193001 ((rd_T74 x193001 x14).f0) ((rd_T74 x193001 x14).f1) ((rd_T74 x193001 x14).f2) ((rd_T74 x193001 x14).f3))) else (none)) else (none)) else (none)) else (beaconref08_dists.l2 k x1 x7 x10 x11 x13 x193000 x193001)
def beaconref08_dists.j4:Nat → Nat → List Nat → List Int → List Int → Bool → Int → Int → Int → Bool → List (S40) → List (S74) → Int → Int → Nat → Bool → Option (List Nat)
 | 0,_,_,_,_,_,_,_,_,_,_,_,_,_,_,_ => none
 | k + 1,x1,x7,x10,x11,x13,x14,x16,x17,x115,x193000,x193001,x212000,x212001,x212002,x212003 => if x115 = true then (beaconref08_dists.l3 k x1 x7 x10 x11 x13 (wrap64 (x14 + 1)) x193000 x193001) else (if 0 ≤ x16 then (if x16 < (x7.length:Int) then ((beaconref01_Add.f x212002 (rdOf (0:Nat) x7 x16) x1).bind fun t217 => (if 0 ≤ x17 then (if x17 < (x7.length:Int) then (if (FloatKind.f64.format.order t217 (rdOf (0:Nat) x7 x17) == some .lt) = true then (beaconref08_dists.j5 k x1 (x7.set (x17:Int).toNat t217) x10 x11 true x14 x16 x17 x193000 x193001 x212000 x212001 x212002 x212003) else (beaconref08_dists.j5 k x1 x7 x10 x11 x13 x14 x16 x17 x193000 x193001 x212000 x212001 x212002 x212003)) else (none)) else (none))) else (none)) else (none))
def beaconref08_dists.j5:Nat → Nat → List Nat → List Int → List Int → Bool → Int → Int → Int → List (S40) → List (S74) → Int → Int → Nat → Bool → Option (List Nat)
 | 0,_,_,_,_,_,_,_,_,_,_,_,_,_,_ => none
 | k + 1,x1,x7,x10,x11,x13,x14,x16,x17,x193000,x193001,x212000,x212001,x212002,x212003 => if 0 ≤ x17 then (if x17 < (x7.length:Int) then ((beaconref01_Add.f x212002 (rdOf (0:Nat) x7 x17) x1).bind fun t221 => (if 0 ≤ x16 then (if x16 < (x7.length:Int) then (if (FloatKind.f64.format.order t221 (rdOf (0:Nat) x7 x16) == some .lt) = true then (beaconref08_dists.l3 k x1 (x7.set (x16:Int).toNat t221) x10 x11 true (wrap64 (x14 + 1)) x193000 x193001) else (beaconref08_dists.l3 k x1 x7 x10 x11 x13 (wrap64 (x14 + 1)) x193000 x193001)) else (none)) else (none))) else (none)) else (none)
end
def beaconref08_dists.f (k:Nat) (l0_0:List (S40)) (l0_1:List (S74)) (a1:Nat) (a2:Int):Option (List Nat):=beaconref08_dists.l0 k a1 a2 ([]:List Nat) 0 l0_0 l0_1
theorem beaconref08_dists.mono_l:∀ k,(∀ y0 y1 y2 y3 y4 y5,LeO (beaconref08_dists.l0 k y0 y1 y2 y3 y4 y5) (beaconref08_dists.l0 (k + 1) y0 y1 y2 y3 y4 y5)) ∧ (∀ y0 y1 y2 y3 y4 y5 y6,LeO (beaconref08_dists.l1 k y0 y1 y2 y3 y4 y5 y6) (beaconref08_dists.l1 (k + 1) y0 y1 y2 y3 y4 y5 y6)) ∧ (∀ y0 y1 y2 y3 y4 y5 y6,LeO (beaconref08_dists.l2 k y0 y1 y2 y3 y4 y5 y6) (beaconref08_dists.l2 (k + 1) y0 y1 y2 y3 y4 y5 y6)) ∧ (∀ y0 y1 y2 y3 y4 y5 y6 y7,LeO (beaconref08_dists.l3 k y0 y1 y2 y3 y4 y5 y6 y7) (beaconref08_dists.l3 (k + 1) y0 y1 y2 y3 y4 y5 y6 y7)) ∧ (∀ y0 y1 y2 y3 y4 y5 y6 y7 y8 y9 y10 y11 y12 y13 y14,LeO (beaconref08_dists.j4 k y0 y1 y2 y3 y4 y5 y6 y7 y8 y9 y10 y11 y12 y13 y14) (beaconref08_dists.j4 (k + 1) y0 y1 y2 y3 y4 y5 y6 y7 y8 y9 y10 y11 y12 y13 y14)) ∧ (∀ y0 y1 y2 y3 y4 y5 y6 y7 y8 y9 y10 y11 y12 y13,LeO (beaconref08_dists.j5 k y0 y1 y2 y3 y4 y5 y6 y7 y8 y9 y10 y11 y12 y13) (beaconref08_dists.j5 (k + 1) y0 y1 y2 y3 y4 y5 y6 y7 y8 y9 y10 y11 y12 y13))
 | 0 => ⟨fun _ _ _ _ _ _ r h => by simp [beaconref08_dists.l0] at h,fun _ _ _ _ _ _ _ r h => by simp [beaconref08_dists.l1] at h,fun _ _ _ _ _ _ _ r h => by simp [beaconref08_dists.l2] at h,fun _ _ _ _ _ _ _ _ r h => by simp [beaconref08_dists.l3] at h,fun _ _ _ _ _ _ _ _ _ _ _ _ _ _ _ r h => by simp [beaconref08_dists.j4] at h,fun _ _ _ _ _ _ _ _ _ _ _ _ _ _ r h => by simp [beaconref08_dists.j5] at h⟩
 | k + 1 => by
  obtain ⟨ih0,ih1,ih2,ih3,ih4,ih5⟩:=beaconref08_dists.mono_l k
  refine ⟨?_,?_,?_,?_,?_,?_⟩
  ·intro y0 y1 y2 y3 y4 y5
   unfold beaconref08_dists.l0
   repeat' first
   | (with_reducible exact ih0 _ _ _ _ _ _)
   | (with_reducible exact ih1 _ _ _ _ _ _ _)
   | (with_reducible exact ih2 _ _ _ _ _ _ _)
   | (with_reducible exact ih3 _ _ _ _ _ _ _ _)
   | (with_reducible exact ih4 _ _ _ _ _ _ _ _ _ _ _ _ _ _ _)
   | (with_reducible exact ih5 _ _ _ _ _ _ _ _ _ _ _ _ _ _)
   | (with_reducible exact beaconref08_place.mono _ _ _ _)
   | (with_reducible exact LeO.refl _)
   | (with_reducible exact LeO.none _)
   | (with_reducible refine LeO.ite ?_ ?_)
   | (with_reducible refine LeO.bind ?_ (fun _ => ?_))
   | exact ih0 _ _ _ _ _ _
   | exact ih1 _ _ _ _ _ _ _
   | exact ih2 _ _ _ _ _ _ _
   | exact ih3 _ _ _ _ _ _ _ _
   | exact ih4 _ _ _ _ _ _ _ _ _ _ _ _ _ _ _
   | exact ih5 _ _ _ _ _ _ _ _ _ _ _ _ _ _
   | exact beaconref08_place.mono _ _ _ _
   | exact LeO.none _
   | refine LeO.ite ?_ ?_
   | refine LeO.bind ?_ (fun _ => ?_)
  ·intro y0 y1 y2 y3 y4 y5 y6
   unfold beaconref08_dists.l1
   repeat' first
   | (with_reducible exact ih0 _ _ _ _ _ _)
   | (with_reducible exact ih1 _ _ _ _ _ _ _)
   | (with_reducible exact ih2 _ _ _ _ _ _ _)
   | (with_reducible exact ih3 _ _ _ _ _ _ _ _)
   | (with_reducible exact ih4 _ _ _ _ _ _ _ _ _ _ _ _ _ _ _)
   | (with_reducible exact ih5 _ _ _ _ _ _ _ _ _ _ _ _ _ _)
   | (with_reducible exact beaconref08_place.mono _ _ _ _)
   | (with_reducible exact LeO.refl _)
   | (with_reducible exact LeO.none _)
   | (with_reducible refine LeO.ite ?_ ?_)
   | (with_reducible refine LeO.bind ?_ (fun _ => ?_))
   | exact ih0 _ _ _ _ _ _
   | exact ih1 _ _ _ _ _ _ _
   | exact ih2 _ _ _ _ _ _ _
   | exact ih3 _ _ _ _ _ _ _ _
   | exact ih4 _ _ _ _ _ _ _ _ _ _ _ _ _ _ _
   | exact ih5 _ _ _ _ _ _ _ _ _ _ _ _ _ _
   | exact beaconref08_place.mono _ _ _ _
   | exact LeO.none _
   | refine LeO.ite ?_ ?_
   | refine LeO.bind ?_ (fun _ => ?_)
  ·intro y0 y1 y2 y3 y4 y5 y6
   unfold beaconref08_dists.l2
   repeat' first
   | (with_reducible exact ih0 _ _ _ _ _ _)
   | (with_reducible exact ih1 _ _ _ _ _ _ _)
   | (with_reducible exact ih2 _ _ _ _ _ _ _)
   | (with_reducible exact ih3 _ _ _ _ _ _ _ _)
   | (with_reducible exact ih4 _ _ _ _ _ _ _ _ _ _ _ _ _ _ _)
   | (with_reducible exact ih5 _ _ _ _ _ _ _ _ _ _ _ _ _ _)
   | (with_reducible exact beaconref08_place.mono _ _ _ _)
   | (with_reducible exact LeO.refl _)
   | (with_reducible exact LeO.none _)
   | (with_reducible refine LeO.ite ?_ ?_)
   | (with_reducible refine LeO.bind ?_ (fun _ => ?_))
   | exact ih0 _ _ _ _ _ _
   | exact ih1 _ _ _ _ _ _ _
   | exact ih2 _ _ _ _ _ _ _
   | exact ih3 _ _ _ _ _ _ _ _
   | exact ih4 _ _ _ _ _ _ _ _ _ _ _ _ _ _ _
   | exact ih5 _ _ _ _ _ _ _ _ _ _ _ _ _ _
   | exact beaconref08_place.mono _ _ _ _
   | exact LeO.none _
   | refine LeO.ite ?_ ?_
   | refine LeO.bind ?_ (fun _ => ?_)
  ·intro y0 y1 y2 y3 y4 y5 y6 y7
   unfold beaconref08_dists.l3
   repeat' first
   | (with_reducible exact ih0 _ _ _ _ _ _)
   | (with_reducible exact ih1 _ _ _ _ _ _ _)
   | (with_reducible exact ih2 _ _ _ _ _ _ _)
   | (with_reducible exact ih3 _ _ _ _ _ _ _ _)
   | (with_reducible exact ih4 _ _ _ _ _ _ _ _ _ _ _ _ _ _ _)
   | (with_reducible exact ih5 _ _ _ _ _ _ _ _ _ _ _ _ _ _)
   | (with_reducible exact beaconref08_place.mono _ _ _ _)
   | (with_reducible exact LeO.refl _)
   | (with_reducible exact LeO.none _)
   | (with_reducible refine LeO.ite ?_ ?_)
   | (with_reducible refine LeO.bind ?_ (fun _ => ?_))
   | exact ih0 _ _ _ _ _ _
   | exact ih1 _ _ _ _ _ _ _
   | exact ih2 _ _ _ _ _ _ _
   | exact ih3 _ _ _ _ _ _ _ _
   | exact ih4 _ _ _ _ _ _ _ _ _ _ _ _ _ _ _
   | exact ih5 _ _ _ _ _ _ _ _ _ _ _ _ _ _
   | exact beaconref08_place.mono _ _ _ _
   | exact LeO.none _
   | refine LeO.ite ?_ ?_
   | refine LeO.bind ?_ (fun _ => ?_)
  ·intro y0 y1 y2 y3 y4 y5 y6 y7 y8 y9 y10 y11 y12 y13 y14
   unfold beaconref08_dists.j4
   repeat' first
   | (with_reducible exact ih0 _ _ _ _ _ _)
   | (with_reducible exact ih1 _ _ _ _ _ _ _)
   | (with_reducible exact ih2 _ _ _ _ _ _ _)
   | (with_reducible exact ih3 _ _ _ _ _ _ _ _)
   | (with_reducible exact ih4 _ _ _ _ _ _ _ _ _ _ _ _ _ _ _)
   | (with_reducible exact ih5 _ _ _ _ _ _ _ _ _ _ _ _ _ _)
   | (with_reducible exact beaconref08_place.mono _ _ _ _)
   | (with_reducible exact LeO.refl _)
   | (with_reducible exact LeO.none _)
   | (with_reducible refine LeO.ite ?_ ?_)
   | (with_reducible refine LeO.bind ?_ (fun _ => ?_))
   | exact ih0 _ _ _ _ _ _
   | exact ih1 _ _ _ _ _ _ _
   | exact ih2 _ _ _ _ _ _ _
   | exact ih3 _ _ _ _ _ _ _ _
   | exact ih4 _ _ _ _ _ _ _ _ _ _ _ _ _ _ _
   | exact ih5 _ _ _ _ _ _ _ _ _ _ _ _ _ _
   | exact beaconref08_place.mono _ _ _ _
   | exact LeO.none _
   | refine LeO.ite ?_ ?_
   | refine LeO.bind ?_ (fun _ => ?_)
  ·intro y0 y1 y2 y3 y4 y5 y6 y7 y8 y9 y10 y11 y12 y13
   unfold beaconref08_dists.j5
   repeat' first
   | (with_reducible exact ih0 _ _ _ _ _ _)
   | (with_reducible exact ih1 _ _ _ _ _ _ _)
   | (with_reducible exact ih2 _ _ _ _ _ _ _)
   | (with_reducible exact ih3 _ _ _ _ _ _ _ _)
   | (with_reducible exact ih4 _ _ _ _ _ _ _ _ _ _ _ _ _ _ _)
   | (with_reducible exact ih5 _ _ _ _ _ _ _ _ _ _ _ _ _ _)
   | (with_reducible exact beaconref08_place.mono _ _ _ _)
   | (with_reducible exact LeO.refl _)
   | (with_reducible exact LeO.none _)
   | (with_reducible refine LeO.ite ?_ ?_)
   | (with_reducible refine LeO.bind ?_ (fun _ => ?_))
   | exact ih0 _ _ _ _ _ _
   | exact ih1 _ _ _ _ _ _ _
   | exact ih2 _ _ _ _ _ _ _
   | exact ih3 _ _ _ _ _ _ _ _
   | exact ih4 _ _ _ _ _ _ _ _ _ _ _ _ _ _ _
   | exact ih5 _ _ _ _ _ _ _ _ _ _ _ _ _ _
   | exact beaconref08_place.mono _ _ _ _
   | exact LeO.none _
   | refine LeO.ite ?_ ?_
   | refine LeO.bind ?_ (fun _ => ?_)
theorem beaconref08_dists.mono:∀ a0 a1 a2 a3 k,LeO (beaconref08_dists.f k a0 a1 a2 a3) (beaconref08_dists.f (k + 1) a0 a1 a2 a3):=by
 intro a0 a1 a2 a3 k
 obtain ⟨ih0,ih1,ih2,ih3,ih4,ih5⟩:=beaconref08_dists.mono_l k
 unfold beaconref08_dists.f
 repeat' first
   | (with_reducible exact ih0 _ _ _ _ _ _)
   | (with_reducible exact ih1 _ _ _ _ _ _ _)
   | (with_reducible exact ih2 _ _ _ _ _ _ _)
   | (with_reducible exact ih3 _ _ _ _ _ _ _ _)
   | (with_reducible exact ih4 _ _ _ _ _ _ _ _ _ _ _ _ _ _ _)
   | (with_reducible exact ih5 _ _ _ _ _ _ _ _ _ _ _ _ _ _)
   | (with_reducible exact beaconref08_place.mono _ _ _ _)
   | (with_reducible exact LeO.refl _)
   | (with_reducible exact LeO.none _)
   | (with_reducible refine LeO.ite ?_ ?_)
   | (with_reducible refine LeO.bind ?_ (fun _ => ?_))
   | exact ih0 _ _ _ _ _ _
   | exact ih1 _ _ _ _ _ _ _
   | exact ih2 _ _ _ _ _ _ _
   | exact ih3 _ _ _ _ _ _ _ _
   | exact ih4 _ _ _ _ _ _ _ _ _ _ _ _ _ _ _
   | exact ih5 _ _ _ _ _ _ _ _ _ _ _ _ _ _
   | exact beaconref08_place.mono _ _ _ _
   | exact LeO.none _
   | refine LeO.ite ?_ ?_
   | refine LeO.bind ?_ (fun _ => ?_)
end Go.Proofs.Ytmdkcecbklgihaa.PA
