/- Printed by a program of this session (wip/tools/patch_print.py and pr.py, over the kit's print): each Go function as a plain Lean function, and that the Go code comes to just its answers. Conditions: those that each theorem names. -/
import Derived.Test.YtmdkcecbklgihaaCcPAx0
import Derived.Test.YtmdkcecbklgihaaCcPAx3
import Derived.Test.YtmdkcecbklgihaaCcPAx5
import Derived.Test.YtmdkcecbklgihaaCcPAx7
namespace Go.Proofs.Ytmdkcecbklgihaa.PA
open Go.RowKit Go.Proofs.YtmdkcecbklgihaaW.PrintWords Go.Proofs.YtmdkcecbklgihaaW.PrintLast Go.Proofs.YtmdkcecbklgihaaW.PrintMore
attribute [local go_sem] max2_int min2_int max_two min_two max_three min_three max_four min_four
set_option linter.unusedVariables false
set_option linter.unusedSimpArgs false
mutual
def beaconref08_dists.l0:Nat → Nat → Int → List Nat → Int → List (S40) → List (S74) → Option (List Nat)
 | 0,_,_,_,_,_,_ => none
 | k + 1,x1,x2,x7,x8,x193000,x193001 => if x8 < (x193000.length:Int) then ((math_Inf.f 1).bind fun t193 => (if x7.length < 17592186044416 then (beaconref08_dists.l0 k x1 x2 (x7 ++ [t193]) (wrap64 (x8 + 1)) x193000 x193001) else (none))) else ((beaconref08_place.f k x193000 x193001 x2).bind fun t197 => (if 0 ≤ t197 then (if t197 < (x193000.length:Int) then (if ((rd_T40 x193000 t197).f1 = true) then (if t197 < (x7.length:Int) then (beaconref08_dists.l1 k x1 (x7.set (t197:Int).toNat 0) ([]:List Int) ([]:List Int) 0 x193000 x193001) else (none)) else (some x7)) else (none)) else (none)))
def beaconref08_dists.l1:Nat → Nat → List Nat → List Int → List Int → Int → List (S40) → List (S74) → Option (List Nat)
 | 0,_,_,_,_,_,_,_ => none
 | k + 1,x1,x7,x10,x11,x12,x193000,x193001 => if x12 < (x193001.length:Int) then (if 0 ≤ x12 then ((beaconref08_place.f k x193000 x193001 ((rd_T74 x193001 x12).f0)).bind fun t201 => (if x10.length < 17592186044416 then ((beaconref08_place.f k x193000 x193001 ((rd_T74 x193001 x12).f1)).bind fun t206 => (if x11.length < 17592186044416 then (beaconref08_dists.l1 k x1 x7 (x10 ++ [t201]) (x11 ++ [t206]) (wrap64 (x12 + 1)) x193000 x193001) else (none))) else (none))) else (none)) else (beaconref08_dists.l2 k x1 x7 x10 x11 true x193000 x193001)
def beaconref08_dists.l2:Nat → Nat → List Nat → List Int → List Int → Bool → List (S40) → List (S74) → Option (List Nat)
 | 0,_,_,_,_,_,_,_ => none
 | k + 1,x1,x7,x10,x11,x13,x193000,x193001 => if x13 = true then (beaconref08_dists.l3 k x1 x7 x10 x11 false 0 x193000 x193001) else (some x7)
def beaconref08_dists.l3:Nat → Nat → List Nat → List Int → List Int → Bool → Int → List (S40) → List (S74) → Option (List Nat)
 | 0,_,_,_,_,_,_,_,_ => none
 | k + 1,x1,x7,x10,x11,x13,x14,x193000,x193001 => if x14 < (x193001.length:Int) then (if 0 ≤ x14 then (if x14 < (x10.length:Int) then (if x14 < (x11.length:Int) then (if ((rd_T74 x193001 x14).f3 = true) then (if 0 ≤ (rd x10 x14) then (if (rd x10 x14) < (x193000.length:Int) then (if ((rd_T40 x193000 (rd x10 x14)).f1 = true) then (if 0 ≤ (rd x11 x14) then (if (rd x11 x14) < (x193000.length:Int) then (beaconref08_dists.j4 k x1 x7 x10 x11 x13 x14 (rd x10 x14) (rd x11 x14) (!((rd_T40 x193000 (rd x11 x14)).f1)) x193000 x193001 ((rd_T74 x193001 x14).f0) ((rd_T74 x193001 x14).f1) ((rd_T74 x193001 x14).f2) ((rd_T74 x193001 x14).f3)) else (none)) else (none)) else (beaconref08_dists.j4 k x1 x7 x10 x11 x13 x14 (rd x10 x14) (rd x11 x14) true x193000 x193001 ((rd_T74 x193001 x14).f0) ((rd_T74 x193001 x14).f1) ((rd_T74 x193001 x14).f2) ((rd_T74 x193001 x14).f3))) else (none)) else (none)) else (beaconref08_dists.j4 k x1 x7 x10 x11 x13 x14 (rd x10 x14) (rd x11 x14) true x193000 x193001 ((rd_T74 x193001 x14).f0) ((rd_T74 x193001 x14).f1) ((rd_T74 x193001 x14).f2) ((rd_T74 x193001 x14).f3))) else (none)) else (none)) else (none)) else (beaconref08_dists.l2 k x1 x7 x10 x11 x13 x193000 x193001)
def beaconref08_dists.j4:Nat → Nat → List Nat → List Int → List Int → Bool → Int → Int → Int → Bool → List (S40) → List (S74) → Int → Int → Nat → Bool → Option (List Nat)
 | 0,_,_,_,_,_,_,_,_,_,_,_,_,_,_,_ => none
 | k + 1,x1,x7,x10,x11,x13,x14,x16,x17,x115,x193000,x193001,x212000,x212001,x212002,x212003 => if x115 = true then (beaconref08_dists.l3 k x1 x7 x10 x11 x13 (wrap64 (x14 + 1)) x193000 x193001) else (if 0 ≤ x16 then (if x16 < (x7.length:Int) then ((beaconref01_Add.f x212002 (rdOf (0:Nat) x7 x16) x1).bind fun t217 => (if 0 ≤ x17 then (if x17 < (x7.length:Int) then (if (FloatKind.f64.format.order t217 (rdOf (0:Nat) x7 x17) == some .lt) = true then (beaconref08_dists.j5 k x1 (x7.set (x17:Int).toNat t217) x10 x11 true x14 x16 x17 x193000 x193001 x212000 x212001 x212002 x212003) else (beaconref08_dists.j5 k x1 x7 x10 x11 x13 x14 x16 x17 x193000 x193001 x212000 x212001 x212002 x212003)) else (none)) else (none))) else (none)) else (none))
def beaconref08_dists.j5:Nat → Nat → List Nat → List Int → List Int → Bool → Int → Int → Int → List (S40) → List (S74) → Int → Int → Nat → Bool → Option (List Nat)
 | 0,_,_,_,_,_,_,_,_,_,_,_,_,_,_ => none
 | k + 1,x1,x7,x10,x11,x13,x14,x16,x17,x193000,x193001,x212000,x212001,x212002,x212003 => if 0 ≤ x17 then (if x17 < (x7.length:Int) then ((beaconref01_Add.f x212002 (rdOf (0:Nat) x7 x17) x1).bind fun t221 => (if 0 ≤ x16 then (if x16 < (x7.length:Int) then (if (FloatKind.f64.format.order t221 (rdOf (0:Nat) x7 x16) == some .lt) = true then (beaconref08_dists.l3 k x1 (x7.set (x16:Int).toNat t221) x10 x11 true (wrap64 (x14 + 1)) x193000 x193001) else (beaconref08_dists.l3 k x1 x7 x10 x11 x13 (wrap64 (x14 + 1)) x193000 x193001)) else (none)) else (none))) else (none)) else (none)
end
def beaconref08_dists.f (k:Nat) (l0_0:List (S40)) (l0_1:List (S74)) (a1:Nat) (a2:Int):Option (List Nat):=beaconref08_dists.l0 k a1 a2 ([]:List Nat) 0 l0_0 l0_1
theorem beaconref08_dists.mono_l:∀ k,(∀ y0 y1 y2 y3 y4 y5,LeO (beaconref08_dists.l0 k y0 y1 y2 y3 y4 y5) (beaconref08_dists.l0 (k + 1) y0 y1 y2 y3 y4 y5)) ∧ (∀ y0 y1 y2 y3 y4 y5 y6,LeO (beaconref08_dists.l1 k y0 y1 y2 y3 y4 y5 y6) (beaconref08_dists.l1 (k + 1) y0 y1 y2 y3 y4 y5 y6)) ∧ (∀ y0 y1 y2 y3 y4 y5 y6,LeO (beaconref08_dists.l2 k y0 y1 y2 y3 y4 y5 y6) (beaconref08_dists.l2 (k + 1) y0 y1 y2 y3 y4 y5 y6)) ∧ (∀ y0 y1 y2 y3 y4 y5 y6 y7,LeO (beaconref08_dists.l3 k y0 y1 y2 y3 y4 y5 y6 y7) (beaconref08_dists.l3 (k + 1) y0 y1 y2 y3 y4 y5 y6 y7)) ∧ (∀ y0 y1 y2 y3 y4 y5 y6 y7 y8 y9 y10 y11 y12 y13 y14,LeO (beaconref08_dists.j4 k y0 y1 y2 y3 y4 y5 y6 y7 y8 y9 y10 y11 y12 y13 y14) (beaconref08_dists.j4 (k + 1) y0 y1 y2 y3 y4 y5 y6 y7 y8 y9 y10 y11 y12 y13 y14)) ∧ (∀ y0 y1 y2 y3 y4 y5 y6 y7 y8 y9 y10 y11 y12 y13,LeO (beaconref08_dists.j5 k y0 y1 y2 y3 y4 y5 y6 y7 y8 y9 y10 y11 y12 y13) (beaconref08_dists.j5 (k + 1) y0 y1 y2 y3 y4 y5 y6 y7 y8 y9 y10 y11 y12 y13))
 | 0 => ⟨fun _ _ _ _ _ _ r h => by simp [beaconref08_dists.l0] at h,fun _ _ _ _ _ _ _ r h => by simp [beaconref08_dists.l1] at h,fun _ _ _ _ _ _ _ r h => by simp [beaconref08_dists.l2] at h,fun _ _ _ _ _ _ _ _ r h => by simp [beaconref08_dists.l3] at h,fun _ _ _ _ _ _ _ _ _ _ _ _ _ _ _ r h => by simp [beaconref08_dists.j4] at h,fun _ _ _ _ _ _ _ _ _ _ _ _ _ _ r h => by simp [beaconref08_dists.j5] at h⟩
 | k + 1 => by
  obtain ⟨ih0,ih1,ih2,ih3,ih4,ih5⟩:=beaconref08_dists.mono_l k
  refine ⟨?_,?_,?_,?_,?_,?_⟩
  ·intro y0 y1 y2 y3 y4 y5
   unfold beaconref08_dists.l0
   repeat' first
   | (with_reducible exact ih0 _ _ _ _ _ _)
   | (with_reducible exact ih1 _ _ _ _ _ _ _)
   | (with_reducible exact ih2 _ _ _ _ _ _ _)
   | (with_reducible exact ih3 _ _ _ _ _ _ _ _)
   | (with_reducible exact ih4 _ _ _ _ _ _ _ _ _ _ _ _ _ _ _)
   | (with_reducible exact ih5 _ _ _ _ _ _ _ _ _ _ _ _ _ _)
   | (with_reducible exact beaconref08_place.mono _ _ _ _)
   | (with_reducible exact LeO.refl _)
   | (with_reducible exact LeO.none _)
   | (with_reducible refine LeO.ite ?_ ?_)
   | (with_reducible refine LeO.bind ?_ (fun _ => ?_))
   | exact ih0 _ _ _ _ _ _
   | exact ih1 _ _ _ _ _ _ _
   | exact ih2 _ _ _ _ _ _ _
   | exact ih3 _ _ _ _ _ _ _ _
   | exact ih4 _ _ _ _ _ _ _ _ _ _ _ _ _ _ _
   | exact ih5 _ _ _ _ _ _ _ _ _ _ _ _ _ _
   | exact beaconref08_place.mono _ _ _ _
   | exact LeO.none _
   | refine LeO.ite ?_ ?_
   | refine LeO.bind ?_ (fun _ => ?_)
  ·intro y0 y1 y2 y3 y4 y5 y6
   unfold beaconref08_dists.l1
   repeat' first
   | (with_reducible exact ih0 _ _ _ _ _ _)
   | (with_reducible exact ih1 _ _ _ _ _ _ _)
   | (with_reducible exact ih2 _ _ _ _ _ _ _)
   | (with_reducible exact ih3 _ _ _ _ _ _ _ _)
   | (with_reducible exact ih4 _ _ _ _ _ _ _ _ _ _ _ _ _ _ _)
   | (with_reducible exact ih5 _ _ _ _ _ _ _ _ _ _ _ _ _ _)
   | (with_reducible exact beaconref08_place.mono _ _ _ _)
   | (with_reducible exact LeO.refl _)
   | (with_reducible exact LeO.none _)
   | (with_reducible refine LeO.ite ?_ ?_)
   | (with_reducible refine LeO.bind ?_ (fun _ => ?_))
   | exact ih0 _ _ _ _ _ _
   | exact ih1 _ _ _ _ _ _ _
   | exact ih2 _ _ _ _ _ _ _
   | exact ih3 _ _ _ _ _ _ _ _
   | exact ih4 _ _ _ _ _ _ _ _ _ _ _ _ _ _ _
   | exact ih5 _ _ _ _ _ _ _ _ _ _ _ _ _ _
   | exact beaconref08_place.mono _ _ _ _
   | exact LeO.none _
   | refine LeO.ite ?_ ?_
   | refine LeO.bind ?_ (fun _ => ?_)
  ·intro y0 y1 y2 y3 y4 y5 y6
   unfold beaconref08_dists.l2
   repeat' first
   | (with_reducible exact ih0 _ _ _ _ _ _)
   | (with_reducible exact ih1 _ _ _ _ _ _ _)
   | (with_reducible exact ih2 _ _ _ _ _ _ _)
   | (with_reducible exact ih3 _ _ _ _ _ _ _ _)
   | (with_reducible exact ih4 _ _ _ _ _ _ _ _ _ _ _ _ _ _ _)
   | (with_reducible exact ih5 _ _ _ _ _ _ _ _ _ _ _ _ _ _)
   | (with_reducible exact beaconref08_place.mono _ _ _ _)
   | (with_reducible exact LeO.refl _)
   | (with_reducible exact LeO.none _)
   | (with_reducible refine LeO.ite ?_ ?_)
   | (with_reducible refine LeO.bind ?_ (fun _ => ?_))
   | exact ih0 _ _ _ _ _ _
   | exact ih1 _ _ _ _ _ _ _
   | exact ih2 _ _ _ _ _ _ _
   | exact ih3 _ _ _ _ _ _ _ _
   | exact ih4 _ _ _ _ _ _ _ _ _ _ _ _ _ _ _
   | exact ih5 _ _ _ _ _ _ _ _ _ _ _ _ _ _
   | exact beaconref08_place.mono _ _ _ _
   | exact LeO.none _
   | refine LeO.ite ?_ ?_
   | refine LeO.bind ?_ (fun _ => ?_)
  ·intro y0 y1 y2 y3 y4 y5 y6 y7
   unfold beaconref08_dists.l3
   repeat' first
   | (with_reducible exact ih0 _ _ _ _ _ _)
   | (with_reducible exact ih1 _ _ _ _ _ _ _)
   | (with_reducible exact ih2 _ _ _ _ _ _ _)
   | (with_reducible exact ih3 _ _ _ _ _ _ _ _)
   | (with_reducible exact ih4 _ _ _ _ _ _ _ _ _ _ _ _ _ _ _)
   | (with_reducible exact ih5 _ _ _ _ _ _ _ _ _ _ _ _ _ _)
   | (with_reducible exact beaconref08_place.mono _ _ _ _)
   | (with_reducible exact LeO.refl _)
   | (with_reducible exact LeO.none _)
   | (with_reducible refine LeO.ite ?_ ?_)
   | (with_reducible refine LeO.bind ?_ (fun _ => ?_))
   | exact ih0 _ _ _ _ _ _
   | exact ih1 _ _ _ _ _ _ _
   | exact ih2 _ _ _ _ _ _ _
   | exact ih3 _ _ _ _ _ _ _ _
   | exact ih4 _ _ _ _ _ _ _ _ _ _ _ _ _ _ _
   | exact ih5 _ _ _ _ _ _ _ _ _ _ _ _ _ _
   | exact beaconref08_place.mono _ _ _ _
   | exact LeO.none _
   | refine LeO.ite ?_ ?_
   | refine LeO.bind ?_ (fun _ => ?_)
  ·intro y0 y1 y2 y3 y4 y5 y6 y7 y8 y9 y10 y11 y12 y13 y14
   unfold beaconref08_dists.j4
   repeat' first
   | (with_reducible exact ih0 _ _ _ _ _ _)
   | (with_reducible exact ih1 _ _ _ _ _ _ _)
   | (with_reducible exact ih2 _ _ _ _ _ _ _)
   | (with_reducible exact ih3 _ _ _ _ _ _ _ _)
   | (with_reducible exact ih4 _ _ _ _ _ _ _ _ _ _ _ _ _ _ _)
   | (with_reducible exact ih5 _ _ _ _ _ _ _ _ _ _ _ _ _ _)
   | (with_reducible exact beaconref08_place.mono _ _ _ _)
   | (with_reducible exact LeO.refl _)
   | (with_reducible exact LeO.none _)
   | (with_reducible refine LeO.ite ?_ ?_)
   | (with_reducible refine LeO.bind ?_ (fun _ => ?_))
   | exact ih0 _ _ _ _ _ _
   | exact ih1 _ _ _ _ _ _ _
   | exact ih2 _ _ _ _ _ _ _
   | exact ih3 _ _ _ _ _ _ _ _
   | exact ih4 _ _ _ _ _ _ _ _ _ _ _ _ _ _ _
   | exact ih5 _ _ _ _ _ _ _ _ _ _ _ _ _ _
   | exact beaconref08_place.mono _ _ _ _
   | exact LeO.none _
   | refine LeO.ite ?_ ?_
   | refine LeO.bind ?_ (fun _ => ?_)
  intro y0 y1 y2 y3 y4 y5 y6 y7 y8 y9 y10 y11 y12 y13
  unfold beaconref08_dists.j5
  repeat' first
  | (with_reducible exact ih0 _ _ _ _ _ _)
  | (with_reducible exact ih1 _ _ _ _ _ _ _)
  | (with_reducible exact ih2 _ _ _ _ _ _ _)
  | (with_reducible exact ih3 _ _ _ _ _ _ _ _)
  | (with_reducible exact ih4 _ _ _ _ _ _ _ _ _ _ _ _ _ _ _)
  | (with_reducible exact ih5 _ _ _ _ _ _ _ _ _ _ _ _ _ _)
  | (with_reducible exact beaconref08_place.mono _ _ _ _)
  | (with_reducible exact LeO.refl _)
  | (with_reducible exact LeO.none _)
  | (with_reducible refine LeO.ite ?_ ?_)
  | (with_reducible refine LeO.bind ?_ (fun _ => ?_))
  | exact ih0 _ _ _ _ _ _
  | exact ih1 _ _ _ _ _ _ _
  | exact ih2 _ _ _ _ _ _ _
  | exact ih3 _ _ _ _ _ _ _ _
  | exact ih4 _ _ _ _ _ _ _ _ _ _ _ _ _ _ _
  | exact ih5 _ _ _ _ _ _ _ _ _ _ _ _ _ _
  | exact beaconref08_place.mono _ _ _ _
  | exact LeO.none _
  | refine LeO.ite ?_ ?_
  | refine LeO.bind ?_ (fun _ => ?_)
theorem beaconref08_dists.mono:∀ a0 a1 a2 a3 k,LeO (beaconref08_dists.f k a0 a1 a2 a3) (beaconref08_dists.f (k + 1) a0 a1 a2 a3):=by
 intro a0 a1 a2 a3 k
 obtain ⟨ih0,ih1,ih2,ih3,ih4,ih5⟩:=beaconref08_dists.mono_l k
 unfold beaconref08_dists.f
 repeat' first
   | (with_reducible exact ih0 _ _ _ _ _ _)
   | (with_reducible exact ih1 _ _ _ _ _ _ _)
   | (with_reducible exact ih2 _ _ _ _ _ _ _)
   | (with_reducible exact ih3 _ _ _ _ _ _ _ _)
   | (with_reducible exact ih4 _ _ _ _ _ _ _ _ _ _ _ _ _ _ _)
   | (with_reducible exact ih5 _ _ _ _ _ _ _ _ _ _ _ _ _ _)
   | (with_reducible exact beaconref08_place.mono _ _ _ _)
   | (with_reducible exact LeO.refl _)
   | (with_reducible exact LeO.none _)
   | (with_reducible refine LeO.ite ?_ ?_)
   | (with_reducible refine LeO.bind ?_ (fun _ => ?_))
   | exact ih0 _ _ _ _ _ _
   | exact ih1 _ _ _ _ _ _ _
   | exact ih2 _ _ _ _ _ _ _
   | exact ih3 _ _ _ _ _ _ _ _
   | exact ih4 _ _ _ _ _ _ _ _ _ _ _ _ _ _ _
   | exact ih5 _ _ _ _ _ _ _ _ _ _ _ _ _ _
   | exact beaconref08_place.mono _ _ _ _
   | exact LeO.none _
   | refine LeO.ite ?_ ?_
   | refine LeO.bind ?_ (fun _ => ?_)
def beaconref08_dists.T14:Bool × List (List Nat × List Nat):=(true,[([],[]),([],[]),([],[]),([2],[2]),([],[]),([3,4],[3,4]),([5],[5]),([6],[6]),([1,7],[1,7]),([8],[8]),([0,9,8],[0,9]),([10,10,0,1,2,3,4,5,6,7,8,9,10],[0,10])])
def beaconref08_dists.B14:List Nat:=[0,0,0,4,0,28,60,124,254,510,1023,2047]
theorem beaconref08_dists.tab14:rtab .any (opsOf Try.f36 14) = beaconref08_dists.T14:=by kernel_rfl
theorem beaconref08_dists.bits14:waitsOk beaconref08_dists.T14.2 beaconref08_dists.B14 = true:=by kernel_rfl
def beaconref08_dists.T15:Bool × List (List Nat × List Nat):=(true,[([],[]),([],[]),([],[]),([2],[2]),([],[]),([3,4],[3,4]),([5],[5]),([6],[6]),([1,7],[1,7]),([8],[8]),([0,9,8],[0,9]),([10,10,0,1,2,3,4,5,6,7,8,9,10],[0,10])])
def beaconref08_dists.B15:List Nat:=[0,0,0,4,0,28,60,124,254,510,1023,2047]
theorem beaconref08_dists.tab15:rtab .any (opsOf Try.f36 15) = beaconref08_dists.T15:=by kernel_rfl
theorem beaconref08_dists.bits15:waitsOk beaconref08_dists.T15.2 beaconref08_dists.B15 = true:=by kernel_rfl
def beaconref08_dists.T26:Bool × List (List Nat × List Nat):=(true,[([],[]),([0],[0]),([],[]),([],[]),([2,3],[2,3]),([4],[4]),([],[]),([1,5,6],[1,5,6]),([7,7,0,1,2,3,4,5,6,7],[7])])
def beaconref08_dists.B26:List Nat:=[0,1,0,0,12,28,0,127,255]
theorem beaconref08_dists.tab26:rtab .any (opsOf Try.f36 26) = beaconref08_dists.T26:=by kernel_rfl
theorem beaconref08_dists.bits26:waitsOk beaconref08_dists.T26.2 beaconref08_dists.B26 = true:=by kernel_rfl
def beaconref08_dists.T30:Bool × List (List Nat × List Nat):=(true,[([],[]),([0],[0]),([],[]),([],[]),([2,3],[2,3]),([4],[4]),([],[]),([1,5,6],[1,5,6]),([7,7,0,1,2,3,4,5,6,7],[7])])
def beaconref08_dists.B30:List Nat:=[0,1,0,0,12,28,0,127,255]
theorem beaconref08_dists.tab30:rtab .any (opsOf Try.f36 30) = beaconref08_dists.T30:=by kernel_rfl
theorem beaconref08_dists.bits30:waitsOk beaconref08_dists.T30.2 beaconref08_dists.B30 = true:=by kernel_rfl
set_option maxHeartbeats 8000000 in
set_option maxRecDepth 100000 in
theorem beaconref08_dists.calls (k:Nat) (A0_0:Option Addr) (c0_0:Nat) (l0_0:List (S40)) (A0_1:Option Addr) (c0_1:Nat) (l0_1:List (S74)) (a1:Nat) (a2:Int) (r:List Nat) (w:World) (hr0_0:Kd.C k40 w A0_0 l0_0.length l0_0) (hc0_0:l0_0.length ≤ c0_0) (hr0_1:Kd.C k74 w A0_1 l0_1.length l0_1) (hc0_1:l0_1.length ≤ c0_1) (h:beaconref08_dists.f k l0_0 l0_1 a1 a2 = some r) :
  Calls Try.prog 36 #[.agg #[.slice A0_0 l0_0.length c0_0,.slice A0_1 l0_1.length c0_1],.float .f64 a1,.int .i64 a2] w fun e w' => ∃ v0_:Value,e = .returned (v0_) ∧ Kd.R Kd.float 26 w' w.heap.size (fun _ => True) v0_ r ∧ Below w.heap.size w w':=by
 have hu25:=Try.underlying25
 have hu74:=Try.underlying74
 have HR0_0:=Aside0.mk hr0_0
 have HC0_0:=Aside0.mk hc0_0
 clear hr0_0 hc0_0
 have HR0_1:=Aside0.mk hr0_1
 have HC0_1:=Aside0.mk hc0_1
 clear hr0_1 hc0_1
 have HB:=Aside0.mk (Below.refl w.heap.size w)
 have H:(beaconref08_dists.l0 k a1 a2 ([]:List Nat) 0 l0_0 l0_1) = some r:=h
 clear h
 have H':=Aside0.mk H
 clear H
 go_enter Try.func36,Try.ntmps36
 go_wp2_with (first | ((with_reducible refine gate_dst (N:=3) rfl ?_);refine box_event ?hg (N:=3) ?hd (cs:=#[.slice A0_0 l0_0.length c0_0,.slice A0_1 l0_1.length c0_1]) (t:=25) ?hr ?_;(case hd => rfl);(case hg => rfl);(case hr => first | (go_simp;done) | (go_simp;rfl));intro gb192 hg w4 hbox hb;have n0_:=Aside0.mk (below_step (by repeat (first | (with_reducible first | exact HB.out | apply below_alloc | apply pw_below_drewN | apply below_drew1) | exact HB.out)) hb);have n1_:=Aside0.mk (hbox);have n2_:=Aside0.mk ((by rw [hg];exact (below_size (by repeat (first | (with_reducible first | exact HB.out | apply below_alloc | apply pw_below_drewN | apply below_drew1) | exact HB.out))):w.heap.size ≤ gb192));have n3_:=Aside0.mk ((by rw [hg];exact (below_size (by repeat (first | (with_reducible first | exact HB.out | apply below_alloc | apply pw_below_drewN | apply below_drew1) | exact HB.out))):w.heap.size ≤ gb192));clear HB;have HB:=n0_;have BK192:=n1_;have GW192:=n2_;have GE192:=n3_;clear n0_ n1_ n2_ n3_;clear hb hbox hg))
 go_loopg [7,8] k (fun kq v7 v8 w' => ∃ (x7_1:List Nat) (x8_1:Int),v8 = .int .i64 x8_1 ∧ Aside0 (beaconref08_dists.l0 kq a1 a2 x7_1 x8_1 l0_0 l0_1 = some r) ∧ Aside0 (kq ≤ k) ∧ Aside0 (Kd.R Kd.float 26 w' w.heap.size (fun _ => True) v7 x7_1) ∧ Aside0 (w'.heap[gb192]? = some (.cells #[(.slice A0_0 l0_0.length c0_0),(.slice A0_1 l0_1.length c0_1)] 25 (0,0))) ∧ Aside0 (Below w.heap.size w w'))
 case atStart => exact ⟨(([]:List Nat)),(0),(by first | rfl | (simp;done) | (simp [*];done)),H',⟨Nat.le_refl _⟩,⟨by first | exact Kd.R_nil _ _ _ _ _ | exact Kd.N_nil _ _ _ _ _ | exact Kd.V_nil _ _ _ _ _ | exact Kd.Q_nil _ _ _ _ _ | exact Kd.S_nil _ _ _ _ _⟩,⟨by (with_reducible repeat (first | refine blk_drewN ?_ _ | refine blk_drew ?_ | refine blk_alloc ?_ _));exact BK192.out⟩,⟨by repeat (first | (with_reducible first | exact HB.out | apply below_alloc | apply pw_below_drewN | apply below_drew1 | refine below_set ?_ GE192.out) | exact HB.out)⟩⟩
 case round =>
  clear H'
  obtain ⟨x7_1,x8_1,rfl,HA,HK1,HO_7,BK192,HB⟩:=hrel
  cases gk with
  | zero => exact absurd HA.out (by simp [beaconref08_dists.l0])
  | succ k1 =>
   have H:=HA.out
   clear HA
   simp only [beaconref08_dists.l0] at H
   by_cases c5:x8_1 < (l0_0.length:Int)
   ·rw [if_pos c5] at H
    have c5b0:decide (x8_1 < (l0_0.length:Int)) = true:=decide_eq_true c5
    clear c5
    replace H:=Option.bind_eq_some_iff.mp H
    obtain ⟨t193,A60,H⟩:=H
    replace H:(if x7_1.length < 17592186044416 then (beaconref08_dists.l0 k1 a1 a2 (x7_1 ++ [t193]) (wrap64 (x8_1 + 1)) l0_0 l0_1) else (none)) = some r:=H
    have A6:=Aside0.mk A60
    clear A60
    by_cases c7:x7_1.length < 17592186044416
    ·rw [if_pos c7] at H
     have LMc7:=Aside0.mk c7
     clear c7
     obtain ⟨y194,hy194⟩:∃ y_:List Nat,y_ = (x7_1 ++ [t193]):=⟨_,rfl⟩
     replace H:(beaconref08_dists.l0 k1 a1 a2 y194 (wrap64 (x8_1 + 1)) l0_0 l0_1) = some r:=by first | (rw [hy194];with_reducible exact H) | (have H2_:=(Option.bind_some _ _).symm.trans H;rw [hy194];with_reducible exact H2_) | (have H2_:=(Option.bind_some _ _).symm.trans H;with_reducible exact H2_) | with_reducible exact H | (rw [hy194];exact H) | exact H
     have Ny194:=Aside0.mk hy194
     clear hy194
     have H':=Aside0.mk H
     clear H
     have hcz8_0:wr.cell? ⟨gb192,0,none⟩ = some (.slice A0_0 l0_0.length c0_0):=(blk_cell BK192.out 0).trans rfl
     have hcz8_1:wr.cell? ⟨gb192,1,none⟩ = some (.slice A0_1 l0_1.length c0_1):=(blk_cell BK192.out 1).trans rfl
     have hfz8_0:=blk_frozen BK192.out 0
     have hfz8_1:=blk_frozen BK192.out 1
     go_wp2_with (first | ((with_reducible refine gate_callee (f:=53) rfl ?_);refine goesL_ (some 28) rfl rfl Try.func53 (by kernel_rfl) rfl #[.int .i64 1] rfl (by (try simp only [List.map_toArray,List.map_cons,List.map_nil]);first | done | rfl | (simp only [List.length_drop,List.length_take];rfl)) ?_;(with_reducible refine (math_Inf.calls 1 t193 _ A6.out).mono ?_);rintro e w' ⟨rfl,⟨nd,rfl⟩⟩;refine ⟨_,rfl,?_⟩) | ((with_reducible refine gate_builtin (b:=.append) (xs:=#[.tmp 27,.tmp 29]) rfl ?_);at_builtin;refine Kd.R_append Kd.float (w0:=w) w.heap.size rfl (.tmp 27) (.tmp 29) 34 26 (.float .f64 0) 8 rfl Try.underlying34 info26 rfl (by decide) (by omega) u7 x7_1 t193 [.float .f64 t193] (fun _ => True) (fun _ => False) rfl rfl ?aP (fun _ hk => hk.elim) ?aF ?aO ?aB ?aS ?aL ?_;(case aP => exact rfl);(case aB => exact (by repeat (first | (with_reducible first | exact HB.out | apply below_alloc | apply pw_below_drewN | apply below_drew1 | refine below_set ?_ GE192.out) | exact HB.out)));(case aF => exact (fun _ _ => trivial));(case aO => exact (by (with_reducible repeat (first | apply Kd.R_alloc | apply Kd.R_drewN | apply Kd.R_drew));exact HO_7.out));(case aS => exact (below_size (by repeat (first | (with_reducible first | exact HB.out | apply below_alloc | apply pw_below_drewN | apply below_drew1 | refine below_set ?_ GE192.out) | exact HB.out))));(case aL => have:=LMc7.out;omega);intro v195 w9 ho hb hg hat;rw [← Ny194.out] at ho;have n0_:=Aside0.mk (blk_grown (g:=gb192) (o:=.cells #[.slice A0_0 l0_0.length c0_0,.slice A0_1 l0_1.length c0_1] 25 (0,0)) (by (with_reducible repeat (first | refine blk_drewN ?_ _ | refine blk_drew ?_ | refine blk_alloc ?_ _));exact BK192.out) hg (Kd.R_ne HO_7.out BK192.out (by decide)));have n1_:=Aside0.mk (hb);have n2_:=Aside0.mk (ho);clear BK192;clear HB;clear HO_7;have BK192:=n0_;have HB:=n1_;have HO196:=n2_;clear n0_ n1_ n2_;clear ho hb hg hat))
     go_roundg k1
     case measure => have:=HK1.out;omega
     case rel => exact ⟨(y194),(wrap64 (x8_1 + 1)),(by first | rfl | (simp;done) | (simp [*];done)),H',⟨by have:=HK1.out;omega⟩,⟨by (with_reducible repeat (first | apply Kd.R_alloc | apply Kd.R_drewN | apply Kd.R_drew));exact HO196.out⟩,⟨by (with_reducible repeat (first | refine blk_drewN ?_ _ | refine blk_drew ?_ | refine blk_alloc ?_ _));exact BK192.out⟩,⟨by repeat (first | (with_reducible first | exact HB.out | apply below_alloc | apply pw_below_drewN | apply below_drew1 | refine below_set ?_ GE192.out) | exact HB.out)⟩⟩
    rw [if_neg c7] at H
    exact absurd H (by simp)
   rw [if_neg c5] at H
   have c5b0:decide (x8_1 < (l0_0.length:Int)) = false:=decide_eq_false c5
   clear c5
   replace H:=Option.bind_eq_some_iff.mp H
   obtain ⟨t197,A100,H⟩:=H
   replace H:(if 0 ≤ t197 then (if t197 < (l0_0.length:Int) then (if ((rd_T40 l0_0 t197).f1 = true) then (if t197 < (x7_1.length:Int) then (beaconref08_dists.l1 k1 a1 (x7_1.set (t197:Int).toNat 0) ([]:List Int) ([]:List Int) 0 l0_0 l0_1) else (none)) else (some x7_1)) else (none)) else (none)) = some r:=H
   have A10:=Aside0.mk A100
   clear A100
   by_cases c11:0 ≤ t197
   rotate_left
   ·rw [if_neg c11] at H
    exact absurd H (by simp)
   rw [if_pos c11] at H
   have c11b0:decide (0 ≤ t197) = true:=decide_eq_true c11
   clear c11
   by_cases c12:t197 < (l0_0.length:Int)
   rotate_left
   ·rw [if_neg c12] at H
    exact absurd H (by simp)
   rw [if_pos c12] at H
   have c12b0:decide (t197 < (l0_0.length:Int)) = true:=decide_eq_true c12
   clear c12
   obtain ⟨bq13,hbq13⟩:∃ b_:Bool,b_ = ((rd_T40 l0_0 t197).f1):=⟨_,rfl⟩
   replace H:(if (bq13 = true) then (if t197 < (x7_1.length:Int) then (beaconref08_dists.l1 k1 a1 (x7_1.set (t197:Int).toNat 0) ([]:List Int) ([]:List Int) 0 l0_0 l0_1) else (none)) else (some x7_1)) = some r:=by rw [← hbq13] at H;exact H
   have Nbq13:=Aside0.mk hbq13
   clear hbq13
   by_cases c14:(bq13 = true)
   rotate_left
   ·replace c14:=Bool.eq_false_iff.mpr c14
    subst c14
    have H1:(some x7_1) = some r:=by rw [if_neg (show ¬ (false = true) by decide)] at H;exact H
    clear H
    have H:=H1
    clear H1
    obtain rfl:=Option.some.inj H
    have hcz88_0:wr.cell? ⟨gb192,0,none⟩ = some (.slice A0_0 l0_0.length c0_0):=(blk_cell BK192.out 0).trans (by first | rfl | ((try rw [← Nbq13.out]);rfl))
    have hcz88_1:wr.cell? ⟨gb192,1,none⟩ = some (.slice A0_1 l0_1.length c0_1):=(blk_cell BK192.out 1).trans (by first | rfl | ((try rw [← Nbq13.out]);rfl))
    have hfz88_0:=blk_frozen BK192.out 0
    have hfz88_1:=blk_frozen BK192.out 1
    go_wp2_with (first | ((with_reducible refine gate_callee (f:=38) rfl ?_);refine goesL_ (some 33) rfl rfl Try.func38 (by kernel_rfl) rfl #[.agg #[.slice A0_0 l0_0.length c0_0,.slice A0_1 l0_1.length c0_1],.int .i64 a2] rfl (by (try simp only [List.map_toArray,List.map_cons,List.map_nil]);first | done | rfl | (simp only [List.length_drop,List.length_take];rfl)) ?_;(with_reducible refine (beaconref08_place.calls k1 _ _ l0_0 _ _ l0_1 a2 t197 _ ?side1 ?side2 ?side3 ?side4 A10.out).mono ?_);(case side1 => repeat (first | exact (Kd.C_below HR0_0.out HB.out) | (with_reducible refine Kd.C_alloc ?_ _) | (with_reducible refine Kd.C_drewN ?_ _) | (with_reducible refine Kd.C_drew ?_)));(case side2 => exact HC0_0.out);(case side3 => repeat (first | exact (Kd.C_below HR0_1.out HB.out) | (with_reducible refine Kd.C_alloc ?_ _) | (with_reducible refine Kd.C_drewN ?_ _) | (with_reducible refine Kd.C_drew ?_)));(case side4 => exact HC0_1.out);rintro e w89 ⟨rfl,hb⟩;refine ⟨_,rfl,?_⟩;have n0_:=Aside0.mk (Kd.R_below (by (with_reducible repeat (first | apply Kd.R_alloc | apply Kd.R_drewN | apply Kd.R_drew));exact HO_7.out) hb);have n1_:=Aside0.mk (blk_below (g:=gb192) (o:=.cells #[.slice A0_0 l0_0.length c0_0,.slice A0_1 l0_1.length c0_1] 25 (0,0)) (by (with_reducible repeat (first | refine blk_drewN ?_ _ | refine blk_drew ?_ | refine blk_alloc ?_ _));first | exact BK192.out | ((try rw [← Nbq13.out]);exact BK192.out) | (have hb_:=BK192.out;(try rw [← Nbq13.out] at hb_);exact hb_)) hb);have n2_:=Aside0.mk (below_step (by repeat (first | (with_reducible first | exact HB.out | apply below_alloc | apply pw_below_drewN | apply below_drew1 | refine below_set ?_ GE192.out) | exact HB.out)) hb);clear HO_7;clear BK192;clear HB;have HO_7:=n0_;have BK192:=n1_;have HB:=n2_;clear n0_ n1_ n2_;(try clear hb);(try clear hb2);(try clear hk);(try clear hi);have hcz90_0:w89.cell? ⟨gb192,0,none⟩ = some (.slice A0_0 l0_0.length c0_0):=(blk_cell BK192.out 0).trans (by first | rfl | ((try rw [← Nbq13.out]);rfl));have hcz90_1:w89.cell? ⟨gb192,1,none⟩ = some (.slice A0_1 l0_1.length c0_1):=(blk_cell BK192.out 1).trans (by first | rfl | ((try rw [← Nbq13.out]);rfl));have hfz90_0:=blk_frozen BK192.out 0;have hfz90_1:=blk_frozen BK192.out 1;have p198:0 ≤ (t197:Int):=of_decide_eq_true (by first | (with_reducible assumption) | assumption);have q198:t197 < (l0_0.length:Int):=of_decide_eq_true (by first | (with_reducible assumption) | assumption);obtain ⟨ad198,e198,hx198_0,hx198_1,hx198_2⟩:=at_T40 HR0_0.out t197 p198 q198;(try rw [← Nbq13.out] at hx198_1);(try rw [← Nbq13.out] at hx198_2);cases e198;replace hx198_0:=(HB.out.cell (World.block_lt_of_cell? w _ hx198_0)).trans hx198_0;replace hx198_1:=(HB.out.cell (World.block_lt_of_cell? w _ hx198_1)).trans hx198_1;replace hx198_2:=(HB.out.cell (World.block_lt_of_cell? w _ hx198_2)).trans hx198_2;replace p198:=eq_true p198;replace q198:=eq_true q198))
    go_ret
    exact ⟨_,by first | rfl | (simp [errW_none,errW_some] <;> rfl) | (simp [*,errW_none,errW_some] <;> rfl),by (with_reducible repeat (first | apply Kd.R_alloc | apply Kd.R_drewN | apply Kd.R_drew));exact HO_7.out,by repeat (first | (with_reducible first | exact HB.out | apply below_alloc | apply pw_below_drewN | apply below_drew1 | refine below_set ?_ GE192.out) | exact HB.out)⟩
   subst c14
   have H1:(if t197 < (x7_1.length:Int) then (beaconref08_dists.l1 k1 a1 (x7_1.set (t197:Int).toNat 0) ([]:List Int) ([]:List Int) 0 l0_0 l0_1) else (none)) = some r:=by rw [if_pos rfl] at H;exact H
   clear H
   have H:=H1
   clear H1
   by_cases c15:t197 < (x7_1.length:Int)
   rotate_left
   ·rw [if_neg c15] at H
    exact absurd H (by simp)
   rw [if_pos c15] at H
   have c15b0:decide (t197 < (x7_1.length:Int)) = true:=decide_eq_true c15
   clear c15
   obtain ⟨y199,hy199⟩:∃ y_:List Nat,y_ = (x7_1.set (t197:Int).toNat 0):=⟨_,rfl⟩
   replace H:(beaconref08_dists.l1 k1 a1 y199 ([]:List Int) ([]:List Int) 0 l0_0 l0_1) = some r:=by first | (rw [hy199];with_reducible exact H) | (have H2_:=(Option.bind_some _ _).symm.trans H;rw [hy199];with_reducible exact H2_) | (have H2_:=(Option.bind_some _ _).symm.trans H;with_reducible exact H2_) | with_reducible exact H | (rw [hy199];exact H) | exact H
   have Ny199:=Aside0.mk hy199
   clear hy199
   have H':=Aside0.mk H
   clear H
   have hcz17_0:wr.cell? ⟨gb192,0,none⟩ = some (.slice A0_0 l0_0.length c0_0):=(blk_cell BK192.out 0).trans (by first | rfl | ((try rw [← Nbq13.out]);rfl))
   have hcz17_1:wr.cell? ⟨gb192,1,none⟩ = some (.slice A0_1 l0_1.length c0_1):=(blk_cell BK192.out 1).trans (by first | rfl | ((try rw [← Nbq13.out]);rfl))
   have hfz17_0:=blk_frozen BK192.out 0
   have hfz17_1:=blk_frozen BK192.out 1
   go_wp2_with (first | ((with_reducible refine gate_callee (f:=38) rfl ?_);refine goesL_ (some 33) rfl rfl Try.func38 (by kernel_rfl) rfl #[.agg #[.slice A0_0 l0_0.length c0_0,.slice A0_1 l0_1.length c0_1],.int .i64 a2] rfl (by (try simp only [List.map_toArray,List.map_cons,List.map_nil]);first | done | rfl | (simp only [List.length_drop,List.length_take];rfl)) ?_;(with_reducible refine (beaconref08_place.calls k1 _ _ l0_0 _ _ l0_1 a2 t197 _ ?side1 ?side2 ?side3 ?side4 A10.out).mono ?_);(case side1 => repeat (first | exact (Kd.C_below HR0_0.out HB.out) | (with_reducible refine Kd.C_alloc ?_ _) | (with_reducible refine Kd.C_drewN ?_ _) | (with_reducible refine Kd.C_drew ?_)));(case side2 => exact HC0_0.out);(case side3 => repeat (first | exact (Kd.C_below HR0_1.out HB.out) | (with_reducible refine Kd.C_alloc ?_ _) | (with_reducible refine Kd.C_drewN ?_ _) | (with_reducible refine Kd.C_drew ?_)));(case side4 => exact HC0_1.out);rintro e w18 ⟨rfl,hb⟩;refine ⟨_,rfl,?_⟩;have n0_:=Aside0.mk (Kd.R_below (by (with_reducible repeat (first | apply Kd.R_alloc | apply Kd.R_drewN | apply Kd.R_drew));exact HO_7.out) hb);have n1_:=Aside0.mk (blk_below (g:=gb192) (o:=.cells #[.slice A0_0 l0_0.length c0_0,.slice A0_1 l0_1.length c0_1] 25 (0,0)) (by (with_reducible repeat (first | refine blk_drewN ?_ _ | refine blk_drew ?_ | refine blk_alloc ?_ _));first | exact BK192.out | ((try rw [← Nbq13.out]);exact BK192.out) | (have hb_:=BK192.out;(try rw [← Nbq13.out] at hb_);exact hb_)) hb);have n2_:=Aside0.mk (below_step (by repeat (first | (with_reducible first | exact HB.out | apply below_alloc | apply pw_below_drewN | apply below_drew1 | refine below_set ?_ GE192.out) | exact HB.out)) hb);clear HO_7;clear BK192;clear HB;have HO_7:=n0_;have BK192:=n1_;have HB:=n2_;clear n0_ n1_ n2_;(try clear hb);(try clear hb2);(try clear hk);(try clear hi);have hcz19_0:w18.cell? ⟨gb192,0,none⟩ = some (.slice A0_0 l0_0.length c0_0):=(blk_cell BK192.out 0).trans (by first | rfl | ((try rw [← Nbq13.out]);rfl));have hcz19_1:w18.cell? ⟨gb192,1,none⟩ = some (.slice A0_1 l0_1.length c0_1):=(blk_cell BK192.out 1).trans (by first | rfl | ((try rw [← Nbq13.out]);rfl));have hfz19_0:=blk_frozen BK192.out 0;have hfz19_1:=blk_frozen BK192.out 1;have p198:0 ≤ (t197:Int):=of_decide_eq_true (by first | (with_reducible assumption) | assumption);have q198:t197 < (l0_0.length:Int):=of_decide_eq_true (by first | (with_reducible assumption) | assumption);obtain ⟨ad198,e198,hx198_0,hx198_1,hx198_2⟩:=at_T40 HR0_0.out t197 p198 q198;(try rw [← Nbq13.out] at hx198_1);(try rw [← Nbq13.out] at hx198_2);cases e198;replace hx198_0:=(HB.out.cell (World.block_lt_of_cell? w _ hx198_0)).trans hx198_0;replace hx198_1:=(HB.out.cell (World.block_lt_of_cell? w _ hx198_1)).trans hx198_1;replace hx198_2:=(HB.out.cell (World.block_lt_of_cell? w _ hx198_2)).trans hx198_2;replace p198:=eq_true p198;replace q198:=eq_true q198;have p16:0 ≤ (t197:Int):=of_decide_eq_true (by first | (with_reducible assumption) | assumption);have q16:(t197:Int) < ((x7_1.length:Int):Int):=of_decide_eq_true (by first | (with_reducible assumption) | assumption);obtain ⟨go16,co16,eo16,gb16,gl16,cl16,HG16⟩:=Kd.R_form HO_7.out (by omega);(first | cases eo16 | (injection eo16 with ea_ en_ ec_;(first | subst ea_ | (injection ea_ with ea_;subst ea_));subst ec_;clear en_));have GB16:=Aside0.mk gb16;have GG16:=Aside0.mk HG16;clear gb16 gl16 HG16;obtain ⟨hx16_0,hf16_0⟩:=Kd.R_celln (0:Nat) HO_7.out (t197:Int) p16 q16;replace p16:=eq_true p16;replace q16:=eq_true q16;obtain ⟨hy20_,hz20_⟩:=Kd.R_celln (0:Nat) HO_7.out (t197:Int) (of_decide_eq_true (by first | (with_reducible assumption) | assumption)) (of_decide_eq_true (by first | (with_reducible assumption) | assumption));have HP20:=Kd.R_putg HO_7.out (t197:Int) 0) | ((with_reducible refine gate_store (t:=26) (p:=44) rfl ?_);refine store_event (t:=26) (p:=44) (v:=?vo_w21) (w1:=(w18.setCell ⟨go16,(t197:Int).toNat,none⟩ (.float .f64 0))) ?hg ?ho ?hn ?hr ?_;(case ho => rfl);(case hg => rfl);(case hn => rfl);(case hr => first | (go_simp;done) | (go_simp;rfl));intro w21 hw;have hg:w18.grownBy w21 (some go16):=(by rw [hw];exact HP20.2);have hp_:Kd.R Kd.float 26 w21 w.heap.size (fun _ => True) (.slice (some ⟨go16,0,none⟩) x7_1.length co16) y199:=(by rw [hw,Ny199.out];exact HP20.1);clear HP20;have n0_:=Aside0.mk (hp_);have n1_:=Aside0.mk (blk_grown (g:=gb192) (o:=.cells #[.slice (some ad198) l0_0.length c0_0,.slice A0_1 l0_1.length c0_1] 25 (0,0)) (by (with_reducible repeat (first | refine blk_drewN ?_ _ | refine blk_drew ?_ | refine blk_alloc ?_ _));first | exact BK192.out | ((try rw [← Nbq13.out]);exact BK192.out) | (have hb_:=BK192.out;(try rw [← Nbq13.out] at hb_);exact hb_)) hg (Kd.R_ne HO_7.out BK192.out (by decide)));have n2_:=Aside0.mk ((by rw [hw];exact below_set (HB.out) GB16.out:Below w.heap.size w w21));clear HO_7;clear BK192;clear HB;have HO_7:=n0_;have BK192:=n1_;have HB:=n2_;clear n0_ n1_ n2_;clear hg hw hp_))
   go_loopg [10,11,12] k1 (fun kq v10 v11 v12 w' => ∃ (x10_2:List Int) (x11_2:List Int) (x12_2:Int),v12 = .int .i64 x12_2 ∧ Aside0 (beaconref08_dists.l1 kq a1 y199 x10_2 x11_2 x12_2 l0_0 l0_1 = some r) ∧ Aside0 (kq ≤ k1) ∧ Aside0 (Kd.R Kd.float 26 w' w.heap.size (fun _ => True) (.slice (some ⟨go16,0,none⟩) x7_1.length co16) y199) ∧ Aside0 (Kd.R (Kd.int .i64) 3 w' w.heap.size (fun k_ => some k_ ≠ (v11:Value).ownBlock) v10 x10_2) ∧ Aside0 (Kd.R (Kd.int .i64) 3 w' w.heap.size (fun k_ => some k_ ≠ (v10:Value).ownBlock) v11 x11_2) ∧ Aside0 (w'.heap[gb192]? = some (.cells #[(.slice (some ad198) l0_0.length c0_0),(.slice A0_1 l0_1.length c0_1)] 25 (0,0))) ∧ Aside0 (Below w.heap.size w w'))
   case atStart => exact ⟨(([]:List Int)),(([]:List Int)),(0),(by first | rfl | (simp;done) | (simp [*];done)),H',⟨Nat.le_refl _⟩,⟨by (with_reducible repeat (first | apply Kd.R_alloc | apply Kd.R_drewN | apply Kd.R_drew));exact HO_7.out⟩,⟨by first | exact Kd.R_nil _ _ _ _ _ | exact Kd.N_nil _ _ _ _ _ | exact Kd.V_nil _ _ _ _ _ | exact Kd.Q_nil _ _ _ _ _ | exact Kd.S_nil _ _ _ _ _⟩,⟨by first | exact Kd.R_nil _ _ _ _ _ | exact Kd.N_nil _ _ _ _ _ | exact Kd.V_nil _ _ _ _ _ | exact Kd.Q_nil _ _ _ _ _ | exact Kd.S_nil _ _ _ _ _⟩,⟨by (with_reducible repeat (first | refine blk_drewN ?_ _ | refine blk_drew ?_ | refine blk_alloc ?_ _));first | exact BK192.out | ((try rw [← Nbq13.out]);exact BK192.out) | (have hb_:=BK192.out;(try rw [← Nbq13.out] at hb_);exact hb_)⟩,⟨by repeat (first | (with_reducible first | exact HB.out | apply below_alloc | apply pw_below_drewN | apply below_drew1 | refine below_set ?_ GE192.out) | exact HB.out)⟩⟩
   case round =>
    clear H'
    obtain ⟨x10_2,x11_2,x12_2,rfl,HA,HK2,HO_7,HO_10,HO_11,BK192,HB⟩:=hrel
    have hl7_2:=(Kd.R_reads' HO_7.out).1
    rw [hl7_2] at HO_7
    (try simp only [hl7_2])
    (try simp only [hl7_2] at BK192)
    (try simp only [hl7_2] at HO_10)
    (try simp only [hl7_2] at HO_11)
    cases gk with
    | zero => exact absurd HA.out (by simp [beaconref08_dists.l1])
    | succ k2 =>
     have H:=HA.out
     clear HA
     simp only [beaconref08_dists.l1] at H
     by_cases c22:x12_2 < (l0_1.length:Int)
     ·rw [if_pos c22] at H
      have c22b0:decide (x12_2 < (l0_1.length:Int)) = true:=decide_eq_true c22
      clear c22
      by_cases c23:0 ≤ x12_2
      rotate_left
      ·rw [if_neg c23] at H
       exact absurd H (by simp)
      rw [if_pos c23] at H
      have c23b0:decide (0 ≤ x12_2) = true:=decide_eq_true c23
      clear c23
      replace H:=Option.bind_eq_some_iff.mp H
      obtain ⟨t201,A240,H⟩:=H
      replace H:(if x10_2.length < 17592186044416 then ((beaconref08_place.f k2 l0_0 l0_1 ((rd_T74 l0_1 x12_2).f1)).bind fun t206 => (if x11_2.length < 17592186044416 then (beaconref08_dists.l1 k2 a1 y199 (x10_2 ++ [t201]) (x11_2 ++ [t206]) (wrap64 (x12_2 + 1)) l0_0 l0_1) else (none))) else (none)) = some r:=H
      have A24:=Aside0.mk A240
      clear A240
      by_cases c25:x10_2.length < 17592186044416
      rotate_left
      ·rw [if_neg c25] at H
       exact absurd H (by simp)
      rw [if_pos c25] at H
      have LMc25:=Aside0.mk c25
      clear c25
      obtain ⟨y202,hy202⟩:∃ y_:List Int,y_ = (x10_2 ++ [t201]):=⟨_,rfl⟩
      replace H:((beaconref08_place.f k2 l0_0 l0_1 ((rd_T74 l0_1 x12_2).f1)).bind fun t206 => (if x11_2.length < 17592186044416 then (beaconref08_dists.l1 k2 a1 y199 y202 (x11_2 ++ [t206]) (wrap64 (x12_2 + 1)) l0_0 l0_1) else (none))) = some r:=by first | (rw [hy202];with_reducible exact H) | (have H2_:=(Option.bind_some _ _).symm.trans H;rw [hy202];with_reducible exact H2_) | (have H2_:=(Option.bind_some _ _).symm.trans H;with_reducible exact H2_) | with_reducible exact H | (rw [hy202];exact H) | exact H
      have Ny202:=Aside0.mk hy202
      clear hy202
      replace H:=Option.bind_eq_some_iff.mp H
      obtain ⟨t206,A260,H⟩:=H
      replace H:(if x11_2.length < 17592186044416 then (beaconref08_dists.l1 k2 a1 y199 y202 (x11_2 ++ [t206]) (wrap64 (x12_2 + 1)) l0_0 l0_1) else (none)) = some r:=H
      have A26:=Aside0.mk A260
      clear A260
      by_cases c27:x11_2.length < 17592186044416
      rotate_left
      ·rw [if_neg c27] at H
       exact absurd H (by simp)
      rw [if_pos c27] at H
      have LMc27:=Aside0.mk c27
      clear c27
      obtain ⟨y207,hy207⟩:∃ y_:List Int,y_ = (x11_2 ++ [t206]):=⟨_,rfl⟩
      replace H:(beaconref08_dists.l1 k2 a1 y199 y202 y207 (wrap64 (x12_2 + 1)) l0_0 l0_1) = some r:=by first | (rw [hy207];with_reducible exact H) | (have H2_:=(Option.bind_some _ _).symm.trans H;rw [hy207];with_reducible exact H2_) | (have H2_:=(Option.bind_some _ _).symm.trans H;with_reducible exact H2_) | with_reducible exact H | (rw [hy207];exact H) | exact H
      have Ny207:=Aside0.mk hy207
      clear hy207
      have H':=Aside0.mk H
      clear H
      have hcz28_0:wr.cell? ⟨gb192,0,none⟩ = some (.slice (some ad198) l0_0.length c0_0):=(blk_cell BK192.out 0).trans (by first | rfl | ((try rw [← Nbq13.out]);rfl))
      have hcz28_1:wr.cell? ⟨gb192,1,none⟩ = some (.slice A0_1 l0_1.length c0_1):=(blk_cell BK192.out 1).trans (by first | rfl | ((try rw [← Nbq13.out]);rfl))
      have hfz28_0:=blk_frozen BK192.out 0
      have hfz28_1:=blk_frozen BK192.out 1
      try go_wp2
      have n0_:=Aside0.mk (Kd.R_drew HO_7.out)
      have n1_:=Aside0.mk (Kd.R_drew HO_10.out)
      have n2_:=Aside0.mk (Kd.R_drew HO_11.out)
      have n3_:=Aside0.mk (blk_drew BK192.out)
      have n4_:=Aside0.mk (below_drew1 HB.out)
      clear HO_7
      clear HO_10
      clear HO_11
      clear BK192
      clear HB
      have HO_7:=n0_
      have HO_10:=n1_
      have HO_11:=n2_
      have BK192:=n3_
      have HB:=n4_
      clear n0_ n1_ n2_ n3_ n4_
      have p200:0 ≤ (x12_2:Int):=of_decide_eq_true (by first | (with_reducible assumption) | assumption)
      have q200:x12_2 < (l0_1.length:Int):=of_decide_eq_true (by first | (with_reducible assumption) | assumption)
      obtain ⟨ad200,e200,hx200_0,hx200_1,hx200_2,hx200_3⟩:=at_T74 HR0_1.out x12_2 p200 q200
      have hw200_3:=hx200_3
      have hw200_2:=hx200_2
      have hw200_1:=hx200_1
      have hw200_0:=hx200_0
      (try rw [← Nbq13.out] at hx200_3)
      cases e200
      replace hx200_0:=(HB.out.cell (World.block_lt_of_cell? w _ hx200_0)).trans hx200_0
      replace hx200_1:=(HB.out.cell (World.block_lt_of_cell? w _ hx200_1)).trans hx200_1
      replace hx200_2:=(HB.out.cell (World.block_lt_of_cell? w _ hx200_2)).trans hx200_2
      replace hx200_3:=(HB.out.cell (World.block_lt_of_cell? w _ hx200_3)).trans hx200_3
      replace p200:=eq_true p200
      replace q200:=eq_true q200
      refine start_ (n:=12) (S:=fun w' => w'.cell? ⟨gb192,0,none⟩ = some (.slice (some ad198) l0_0.length c0_0) ∧ w'.cell? ⟨gb192,1,none⟩ = some (.slice (some ad200) l0_1.length c0_1) ∧ w'.cell? (ad200.add ((x12_2).toNat * 4)) = some (.int .i64 ((rd_T74 l0_1 x12_2).f0)) ∧ w'.cell? ⟨(ad200.add ((x12_2).toNat * 4)).block,(ad200.add ((x12_2).toNat * 4)).off + 1,none⟩ = some (.int .i64 ((rd_T74 l0_1 x12_2).f1)) ∧ w'.cell? ⟨(ad200.add ((x12_2).toNat * 4)).block,(ad200.add ((x12_2).toNat * 4)).off + 2,none⟩ = some (.float .f64 ((rd_T74 l0_1 x12_2).f2)) ∧ w'.cell? ⟨(ad200.add ((x12_2).toNat * 4)).block,(ad200.add ((x12_2).toNat * 4)).off + 3,none⟩ = some (.bool ((rd_T74 l0_1 x12_2).f3))) (ds:=[]) #[false,false,false,false,false,false,false,false,false,false,false,false] (by kernel_rfl) rfl rfl ⟨(blk_cell BK192.out 0).trans (by first | rfl | ((try rw [← Nbq13.out]);rfl)),(blk_cell BK192.out 1).trans (by first | rfl | ((try rw [← Nbq13.out]);rfl)),((HB.out.cell (World.block_lt_of_cell? w _ hw200_0)).trans hw200_0),((HB.out.cell (World.block_lt_of_cell? w _ hw200_1)).trans hw200_1),((HB.out.cell (World.block_lt_of_cell? w _ hw200_2)).trans hw200_2),((HB.out.cell (World.block_lt_of_cell? w _ hw200_3)).trans hw200_3)⟩ (fun hHeld => ?_);refine with_tabW beaconref08_dists.tab14 beaconref08_dists.bits14 (fun HT_ HW_ => ?_)
      generalize wr.drew = w29 at HO_7 HO_10 HO_11 BK192 HB hx200_0 hx200_1 hx200_2 hx200_3 hHeld ⊢
      refine pure_ (i:=0) (N:=some 52) (v:=?_) (a':=?_) #[true,false,false,false,false,false,false,false,false,false,false,false] rfl rfl (any_of HT_.out (by kernel_rfl)) (fun _ _ _ h => h) (Or.inl ⟨by rfl,?_⟩) ?_ ?_
      rotate_left
      ·intro w'
       go_simp
       with_reducible rfl
      rotate_left
      ·simp only [Act.put,List.setIfInBounds_toArray,List.set_cons_zero,List.set_cons_succ,i64_w,i32_w]
       rfl
      refine pure_ (i:=2) (N:=some 54) (v:=?_) (a':=?_) #[true,false,true,false,false,false,false,false,false,false,false,false] rfl rfl (any_of HT_.out (by kernel_rfl)) (fun _ _ _ h => h) (Or.inl ⟨by rfl,?_⟩) ?_ ?_
      rotate_left
      ·intro w'
       go_simp
       with_reducible rfl
      rotate_left
      ·simp only [Act.put,List.setIfInBounds_toArray,List.set_cons_zero,List.set_cons_succ,i64_w,i32_w]
       rfl
      refine pure_ (i:=4) (N:=some 56) (v:=?_) (a':=?_) #[true,false,true,false,true,false,false,false,false,false,false,false] rfl rfl (any_of HT_.out (by kernel_rfl)) (fun _ _ _ h => h) (Or.inl ⟨by rfl,?_⟩) ?_ ?_
      rotate_left
      ·intro w'
       go_simp
       with_reducible rfl
      rotate_left
      ·simp only [Act.put,List.setIfInBounds_toArray,List.set_cons_zero,List.set_cons_succ,i64_w,i32_w]
       rfl
      refine take_ (i:=1) (N:=some 53) (v:=?_) (a':=?_) #[true,true,true,false,true,false,false,false,false,false,false,false] rfl rfl (take_ofW HT_.out HW_.out (by kernel_rfl)) (fun _ _ _ h => h) (Or.inl ⟨by rfl,?_⟩) hHeld ?_ ?_
      rotate_left
      ·rintro w' ⟨s0,s1,s2,s3,s4,s5⟩
       go_simp
       with_reducible rfl
      rotate_left
      ·simp only [Act.put,List.setIfInBounds_toArray,List.set_cons_zero,List.set_cons_succ,i64_w,i32_w]
       rfl
      refine take_ (i:=3) (N:=some 55) (v:=?_) (a':=?_) #[true,true,true,true,true,false,false,false,false,false,false,false] rfl rfl (take_ofW HT_.out HW_.out (by kernel_rfl)) (fun _ _ _ h => h) (Or.inl ⟨by rfl,?_⟩) hHeld ?_ ?_
      rotate_left
      ·rintro w' ⟨s0,s1,s2,s3,s4,s5⟩
       go_simp
       with_reducible rfl
      rotate_left
      ·simp only [Act.put,List.setIfInBounds_toArray,List.set_cons_zero,List.set_cons_succ,i64_w,i32_w]
       rfl
      refine pure_ (i:=5) (N:=some 57) (v:=?_) (a':=?_) #[true,true,true,true,true,true,false,false,false,false,false,false] rfl rfl (any_of HT_.out (by kernel_rfl)) (fun _ _ _ h => h) (Or.inl ⟨by rfl,?_⟩) ?_ ?_
      rotate_left
      ·intro w'
       go_simp
       with_reducible rfl
      rotate_left
      ·simp only [Act.put,List.setIfInBounds_toArray,List.set_cons_zero,List.set_cons_succ,i64_w,i32_w]
       rfl
      refine pure_ (i:=6) (N:=some 58) (v:=?_) (a':=?_) #[true,true,true,true,true,true,true,false,false,false,false,false] rfl rfl (any_of HT_.out (by kernel_rfl)) (fun _ _ _ h => h) (Or.inl ⟨by rfl,?_⟩) ?_ ?_
      rotate_left
      ·intro w'
       go_simp
       with_reducible rfl
      rotate_left
      ·simp only [Act.put,List.setIfInBounds_toArray,List.set_cons_zero,List.set_cons_succ,i64_w,i32_w]
       rfl
      refine take_ (i:=7) (N:=some 59) (v:=?_) (a':=?_) #[true,true,true,true,true,true,true,true,false,false,false,false] rfl rfl (take_ofW HT_.out HW_.out (by kernel_rfl)) (fun _ _ _ h => h) (Or.inl ⟨by rfl,?_⟩) hHeld ?_ ?_
      rotate_left
      ·rintro w' ⟨s0,s1,s2,s3,s4,s5⟩
       go_simp
       with_reducible rfl
      rotate_left
      ·simp only [Act.put,List.setIfInBounds_toArray,List.set_cons_zero,List.set_cons_succ,i64_w,i32_w]
       rfl
      refine one_ (i:=8) (N:=some 60) #[true,true,true,true,true,true,true,true,true,false,false,false] rfl rfl (one_of HT_.out (by kernel_rfl)) (by decide) (fun K hK => ?_)
      refine goes_ Try.func38 (by kernel_rfl) rfl #[.agg #[.slice (some ad198) l0_0.length c0_0,.slice (some ad200) l0_1.length c0_1],.int .i64 ((rd_T74 l0_1 x12_2).f0)] (by rfl) rfl rfl (by (try simp only [List.map_toArray,List.map_cons,List.map_nil]);first | done | rfl | (simp only [List.length_drop,List.length_take];rfl)) ?_
      with_reducible refine (beaconref08_place.calls k2 _ _ l0_0 _ _ l0_1 ((rd_T74 l0_1 x12_2).f0) t201 _ ?side1 ?side2 ?side3 ?side4 A24.out).mono ?_
      (case side1 => repeat (first | exact (Kd.C_below HR0_0.out HB.out) | (with_reducible refine Kd.C_alloc ?_ _) | (with_reducible refine Kd.C_drewN ?_ _) | (with_reducible refine Kd.C_drew ?_)))
      (case side2 => exact HC0_0.out)
      (case side3 => repeat (first | exact (Kd.C_below HR0_1.out HB.out) | (with_reducible refine Kd.C_alloc ?_ _) | (with_reducible refine Kd.C_drewN ?_ _) | (with_reducible refine Kd.C_drew ?_)))
      (case side4 => exact HC0_1.out)
      rintro e w30 ⟨rfl,hb⟩
      refine ⟨_,rfl,?_⟩
      have n0_:=Aside0.mk (Kd.R_below (by (with_reducible repeat (first | apply Kd.R_alloc | apply Kd.R_drewN | apply Kd.R_drew));exact HO_7.out) hb)
      have n1_:=Aside0.mk (Kd.R_below (by (with_reducible repeat (first | apply Kd.R_alloc | apply Kd.R_drewN | apply Kd.R_drew));exact HO_10.out) hb)
      have n2_:=Aside0.mk (Kd.R_below (by (with_reducible repeat (first | apply Kd.R_alloc | apply Kd.R_drewN | apply Kd.R_drew));exact HO_11.out) hb)
      have n3_:=Aside0.mk (blk_below (g:=gb192) (o:=.cells #[.slice (some ad198) l0_0.length c0_0,.slice (some ad200) l0_1.length c0_1] 25 (0,0)) (by (with_reducible repeat (first | refine blk_drewN ?_ _ | refine blk_drew ?_ | refine blk_alloc ?_ _));first | exact BK192.out | ((try rw [← Nbq13.out]);exact BK192.out) | (have hb_:=BK192.out;(try rw [← Nbq13.out] at hb_);exact hb_)) hb)
      have n4_:=Aside0.mk (below_step (by repeat (first | (with_reducible first | exact HB.out | apply below_alloc | apply pw_below_drewN | apply below_drew1 | refine below_set ?_ GE192.out) | exact HB.out)) hb)
      clear HO_7
      clear HO_10
      clear HO_11
      clear BK192
      clear HB
      have HO_7:=n0_
      have HO_10:=n1_
      have HO_11:=n2_
      have BK192:=n3_
      have HB:=n4_
      clear n0_ n1_ n2_ n3_ n4_
      (try clear hb)
      (try clear hb2)
      (try clear hk)
      (try clear hi)
      refine hK.out _ _ ⟨(blk_cell BK192.out 0).trans (by first | rfl | ((try rw [← Nbq13.out]);rfl)),(blk_cell BK192.out 1).trans (by first | rfl | ((try rw [← Nbq13.out]);rfl)),((HB.out.cell (World.block_lt_of_cell? w _ hw200_0)).trans hw200_0),((HB.out.cell (World.block_lt_of_cell? w _ hw200_1)).trans hw200_1),((HB.out.cell (World.block_lt_of_cell? w _ hw200_2)).trans hw200_2),((HB.out.cell (World.block_lt_of_cell? w _ hw200_3)).trans hw200_3)⟩ (fun hHeld => ?_)
      clear hK K
      refine norm_ (a':=?_) ?_ ?_
      rotate_left
      ·show Act.put _ (some 60) _ = _
       simp only [Act.put,List.setIfInBounds_toArray,List.set_cons_zero,List.set_cons_succ,i64_w,i32_w]
       rfl
      refine one_ (i:=9) (N:=some 61) #[true,true,true,true,true,true,true,true,true,true,false,false] rfl rfl (one_of HT_.out (by kernel_rfl)) (by decide) (fun K hK => ?_)
      refine value_ (w1:=?_) (v:=?_) (by rfl) rfl ?_ ?_
      rotate_left 2
      ·go_simp
       constructor
       ·rfl
       rfl
      refine hK.out _ _ ⟨(blk_cell (blk_alloc BK192.out _) 0).trans (by first | rfl | ((try rw [← Nbq13.out]);rfl)),(blk_cell (blk_alloc BK192.out _) 1).trans (by first | rfl | ((try rw [← Nbq13.out]);rfl)),(World.cell?_alloc_lt _ _ _ (World.block_lt_of_cell? _ _ (((HB.out.cell (World.block_lt_of_cell? w _ hw200_0)).trans hw200_0)))).trans (((HB.out.cell (World.block_lt_of_cell? w _ hw200_0)).trans hw200_0)),(World.cell?_alloc_lt _ _ _ (World.block_lt_of_cell? _ _ (((HB.out.cell (World.block_lt_of_cell? w _ hw200_1)).trans hw200_1)))).trans (((HB.out.cell (World.block_lt_of_cell? w _ hw200_1)).trans hw200_1)),(World.cell?_alloc_lt _ _ _ (World.block_lt_of_cell? _ _ (((HB.out.cell (World.block_lt_of_cell? w _ hw200_2)).trans hw200_2)))).trans (((HB.out.cell (World.block_lt_of_cell? w _ hw200_2)).trans hw200_2)),(World.cell?_alloc_lt _ _ _ (World.block_lt_of_cell? _ _ (((HB.out.cell (World.block_lt_of_cell? w _ hw200_3)).trans hw200_3)))).trans (((HB.out.cell (World.block_lt_of_cell? w _ hw200_3)).trans hw200_3))⟩ (fun hHeld => ?_)
      clear hK K
      refine norm_ (a':=?_) ?_ ?_
      rotate_left
      ·show Act.put _ (some 61) _ = _
       simp only [Act.put,List.setIfInBounds_toArray,List.set_cons_zero,List.set_cons_succ,i64_w,i32_w]
       rfl
      refine one_ (i:=10) (N:=some 62) #[true,true,true,true,true,true,true,true,true,true,true,false] rfl rfl (one_of HT_.out (by kernel_rfl)) (by decide) (fun K hK => ?_)
      refine Kd.R_append_step (Kd.int .i64) (w0:=w) w.heap.size (by rfl) (.tmp 52) (.tmp 61) 27 3 (.int .i64 0) 8 rfl Try.underlying27 info3 rfl (by decide) (by omega) u10 x10_2 t201 [.int .i64 t201] (fun k_ => some k_ ≠ (u11:Value).ownBlock) (fun _ => False) rfl rfl ?aP (fun _ hk => hk.elim) ?aF ?aO ?aB ?aS ?aL ?_
      (case aP => exact rfl)
      (case aB => exact (by repeat (first | (with_reducible first | exact HB.out | apply below_alloc | apply pw_below_drewN | apply below_drew1 | refine below_set ?_ GE192.out) | exact HB.out)))
      (case aF => exact (fun k_ hk => Kd.fresh' (Kd.R_lt (by (with_reducible repeat (first | apply Kd.R_alloc | apply Kd.R_drewN | apply Kd.R_drew));exact HO_11.out)) k_ hk))
      (case aO => exact (by (with_reducible repeat (first | apply Kd.R_alloc | apply Kd.R_drewN | apply Kd.R_drew));exact HO_10.out))
      (case aS => exact (below_size (by repeat (first | (with_reducible first | exact HB.out | apply below_alloc | apply pw_below_drewN | apply below_drew1 | refine below_set ?_ GE192.out) | exact HB.out))))
      (case aL => have:=LMc25.out;omega)
      intro v203 w31 ho hb hg hat
      rw [← Ny202.out] at ho
      have n0_:=Aside0.mk (Kd.R_over' (by (with_reducible repeat (first | apply Kd.R_alloc | apply Kd.R_drewN | apply Kd.R_drew));exact HO_7.out) (Kd.R_typed (by (with_reducible repeat (first | apply Kd.R_alloc | apply Kd.R_drewN | apply Kd.R_drew));exact HO_10.out)) (by decide) hg)
      have n1_:=Aside0.mk (Kd.R_after (ok:=(fun _ => True)) (by (with_reducible repeat (first | apply Kd.R_alloc | apply Kd.R_drewN | apply Kd.R_drew));exact Kd.R_mono HO_11.out (fun _ hk => ⟨trivial,hk⟩)) hg hat)
      have n2_:=Aside0.mk (blk_grown (g:=gb192) (o:=.cells #[.slice (some ad198) l0_0.length c0_0,.slice (some ad200) l0_1.length c0_1] 25 (0,0)) (by (with_reducible repeat (first | refine blk_drewN ?_ _ | refine blk_drew ?_ | refine blk_alloc ?_ _));first | exact BK192.out | ((try rw [← Nbq13.out]);exact BK192.out) | (have hb_:=BK192.out;(try rw [← Nbq13.out] at hb_);exact hb_)) hg (Kd.R_ne HO_10.out BK192.out (by decide)))
      have n3_:=Aside0.mk (hb)
      have n4_:=Aside0.mk (ho)
      clear HO_7
      clear HO_11
      clear BK192
      clear HB
      clear HO_10
      have HO_7:=n0_
      have HO_11:=n1_
      have BK192:=n2_
      have HB:=n3_
      have HO204:=n4_
      clear n0_ n1_ n2_ n3_ n4_
      clear ho hb hg hat
      refine hK.out _ _ ⟨(blk_cell BK192.out 0).trans (by first | rfl | ((try rw [← Nbq13.out]);rfl)),(blk_cell BK192.out 1).trans (by first | rfl | ((try rw [← Nbq13.out]);rfl)),((HB.out.cell (World.block_lt_of_cell? w _ hw200_0)).trans hw200_0),((HB.out.cell (World.block_lt_of_cell? w _ hw200_1)).trans hw200_1),((HB.out.cell (World.block_lt_of_cell? w _ hw200_2)).trans hw200_2),((HB.out.cell (World.block_lt_of_cell? w _ hw200_3)).trans hw200_3)⟩ (fun hHeld => ?_)
      clear hK K
      refine norm_ (a':=?_) ?_ ?_
      rotate_left
      ·show Act.put _ (some 62) _ = _
       simp only [Act.put,List.setIfInBounds_toArray,List.set_cons_zero,List.set_cons_succ,i64_w,i32_w]
       rfl
      refine pure_ (i:=11) (N:=some 10) (v:=?_) (a':=?_) #[true,true,true,true,true,true,true,true,true,true,true,true] rfl rfl (any_of HT_.out (by kernel_rfl)) (fun _ _ _ h => h) (Or.inl ⟨by rfl,?_⟩) ?_ ?_
      rotate_left
      ·intro w'
       go_simp
       with_reducible rfl
      rotate_left
      ·simp only [Act.put,List.setIfInBounds_toArray,List.set_cons_zero,List.set_cons_succ,i64_w,i32_w]
       rfl
      refine done_ (done_of HT_.out (by kernel_rfl)) ?_
      try go_wp2
      have n0_:=Aside0.mk (Kd.R_drew HO_7.out)
      have n1_:=Aside0.mk (Kd.R_drew HO_11.out)
      have n2_:=Aside0.mk (Kd.R_drew HO204.out)
      have n3_:=Aside0.mk (blk_drew BK192.out)
      have n4_:=Aside0.mk (below_drew1 HB.out)
      clear HO_7
      clear HO_11
      clear HO204
      clear BK192
      clear HB
      have HO_7:=n0_
      have HO_11:=n1_
      have HO204:=n2_
      have BK192:=n3_
      have HB:=n4_
      clear n0_ n1_ n2_ n3_ n4_
      have p205:0 ≤ (x12_2:Int):=of_decide_eq_true (by first | (with_reducible assumption) | assumption)
      have q205:x12_2 < (l0_1.length:Int):=of_decide_eq_true (by first | (with_reducible assumption) | assumption)
      obtain ⟨ad205,e205,hx205_0,hx205_1,hx205_2,hx205_3⟩:=at_T74 HR0_1.out x12_2 p205 q205
      have hw205_3:=hx205_3
      have hw205_2:=hx205_2
      have hw205_1:=hx205_1
      have hw205_0:=hx205_0
      (try rw [← Nbq13.out] at hx205_3)
      obtain rfl:ad200 = ad205:=(by injection e205)
      replace hx205_0:=(HB.out.cell (World.block_lt_of_cell? w _ hx205_0)).trans hx205_0
      replace hx205_1:=(HB.out.cell (World.block_lt_of_cell? w _ hx205_1)).trans hx205_1
      replace hx205_2:=(HB.out.cell (World.block_lt_of_cell? w _ hx205_2)).trans hx205_2
      replace hx205_3:=(HB.out.cell (World.block_lt_of_cell? w _ hx205_3)).trans hx205_3
      replace p205:=eq_true p205
      replace q205:=eq_true q205
      refine start_ (n:=12) (S:=fun w' => w'.cell? ⟨gb192,0,none⟩ = some (.slice (some ad198) l0_0.length c0_0) ∧ w'.cell? ⟨gb192,1,none⟩ = some (.slice (some ad200) l0_1.length c0_1) ∧ w'.cell? (ad200.add ((x12_2).toNat * 4)) = some (.int .i64 ((rd_T74 l0_1 x12_2).f0)) ∧ w'.cell? ⟨(ad200.add ((x12_2).toNat * 4)).block,(ad200.add ((x12_2).toNat * 4)).off + 1,none⟩ = some (.int .i64 ((rd_T74 l0_1 x12_2).f1)) ∧ w'.cell? ⟨(ad200.add ((x12_2).toNat * 4)).block,(ad200.add ((x12_2).toNat * 4)).off + 2,none⟩ = some (.float .f64 ((rd_T74 l0_1 x12_2).f2)) ∧ w'.cell? ⟨(ad200.add ((x12_2).toNat * 4)).block,(ad200.add ((x12_2).toNat * 4)).off + 3,none⟩ = some (.bool ((rd_T74 l0_1 x12_2).f3))) (ds:=[]) #[false,false,false,false,false,false,false,false,false,false,false,false] (by kernel_rfl) rfl rfl ⟨(blk_cell BK192.out 0).trans (by first | rfl | ((try rw [← Nbq13.out]);rfl)),(blk_cell BK192.out 1).trans (by first | rfl | ((try rw [← Nbq13.out]);rfl)),((HB.out.cell (World.block_lt_of_cell? w _ hw205_0)).trans hw205_0),((HB.out.cell (World.block_lt_of_cell? w _ hw205_1)).trans hw205_1),((HB.out.cell (World.block_lt_of_cell? w _ hw205_2)).trans hw205_2),((HB.out.cell (World.block_lt_of_cell? w _ hw205_3)).trans hw205_3)⟩ (fun hHeld => ?_);refine with_tabW beaconref08_dists.tab15 beaconref08_dists.bits15 (fun HT_ HW_ => ?_)
      generalize w31.drew = w32 at HO_7 HO_11 HO204 BK192 HB hx205_0 hx205_1 hx205_2 hx205_3 hHeld ⊢
      refine pure_ (i:=0) (N:=some 63) (v:=?_) (a':=?_) #[true,false,false,false,false,false,false,false,false,false,false,false] rfl rfl (any_of HT_.out (by kernel_rfl)) (fun _ _ _ h => h) (Or.inl ⟨by rfl,?_⟩) ?_ ?_
      rotate_left
      ·intro w'
       go_simp
       with_reducible rfl
      rotate_left
      ·simp only [Act.put,List.setIfInBounds_toArray,List.set_cons_zero,List.set_cons_succ,i64_w,i32_w]
       rfl
      refine pure_ (i:=2) (N:=some 65) (v:=?_) (a':=?_) #[true,false,true,false,false,false,false,false,false,false,false,false] rfl rfl (any_of HT_.out (by kernel_rfl)) (fun _ _ _ h => h) (Or.inl ⟨by rfl,?_⟩) ?_ ?_
      rotate_left
      ·intro w'
       go_simp
       with_reducible rfl
      rotate_left
      ·simp only [Act.put,List.setIfInBounds_toArray,List.set_cons_zero,List.set_cons_succ,i64_w,i32_w]
       rfl
      refine pure_ (i:=4) (N:=some 67) (v:=?_) (a':=?_) #[true,false,true,false,true,false,false,false,false,false,false,false] rfl rfl (any_of HT_.out (by kernel_rfl)) (fun _ _ _ h => h) (Or.inl ⟨by rfl,?_⟩) ?_ ?_
      rotate_left
      ·intro w'
       go_simp
       with_reducible rfl
      rotate_left
      ·simp only [Act.put,List.setIfInBounds_toArray,List.set_cons_zero,List.set_cons_succ,i64_w,i32_w]
       rfl
      refine take_ (i:=1) (N:=some 64) (v:=?_) (a':=?_) #[true,true,true,false,true,false,false,false,false,false,false,false] rfl rfl (take_ofW HT_.out HW_.out (by kernel_rfl)) (fun _ _ _ h => h) (Or.inl ⟨by rfl,?_⟩) hHeld ?_ ?_
      rotate_left
      ·rintro w' ⟨s0,s1,s2,s3,s4,s5⟩
       go_simp
       with_reducible rfl
      rotate_left
      ·simp only [Act.put,List.setIfInBounds_toArray,List.set_cons_zero,List.set_cons_succ,i64_w,i32_w]
       rfl
      refine take_ (i:=3) (N:=some 66) (v:=?_) (a':=?_) #[true,true,true,true,true,false,false,false,false,false,false,false] rfl rfl (take_ofW HT_.out HW_.out (by kernel_rfl)) (fun _ _ _ h => h) (Or.inl ⟨by rfl,?_⟩) hHeld ?_ ?_
      rotate_left
      ·rintro w' ⟨s0,s1,s2,s3,s4,s5⟩
       go_simp
       with_reducible rfl
      rotate_left
      ·simp only [Act.put,List.setIfInBounds_toArray,List.set_cons_zero,List.set_cons_succ,i64_w,i32_w]
       rfl
      refine pure_ (i:=5) (N:=some 68) (v:=?_) (a':=?_) #[true,true,true,true,true,true,false,false,false,false,false,false] rfl rfl (any_of HT_.out (by kernel_rfl)) (fun _ _ _ h => h) (Or.inl ⟨by rfl,?_⟩) ?_ ?_
      rotate_left
      ·intro w'
       go_simp
       with_reducible rfl
      rotate_left
      ·simp only [Act.put,List.setIfInBounds_toArray,List.set_cons_zero,List.set_cons_succ,i64_w,i32_w]
       rfl
      refine pure_ (i:=6) (N:=some 69) (v:=?_) (a':=?_) #[true,true,true,true,true,true,true,false,false,false,false,false] rfl rfl (any_of HT_.out (by kernel_rfl)) (fun _ _ _ h => h) (Or.inl ⟨by rfl,?_⟩) ?_ ?_
      rotate_left
      ·intro w'
       go_simp
       with_reducible rfl
      rotate_left
      ·simp only [Act.put,List.setIfInBounds_toArray,List.set_cons_zero,List.set_cons_succ,i64_w,i32_w]
       rfl
      refine take_ (i:=7) (N:=some 70) (v:=?_) (a':=?_) #[true,true,true,true,true,true,true,true,false,false,false,false] rfl rfl (take_ofW HT_.out HW_.out (by kernel_rfl)) (fun _ _ _ h => h) (Or.inl ⟨by rfl,?_⟩) hHeld ?_ ?_
      rotate_left
      ·rintro w' ⟨s0,s1,s2,s3,s4,s5⟩
       go_simp
       with_reducible rfl
      rotate_left
      ·simp only [Act.put,List.setIfInBounds_toArray,List.set_cons_zero,List.set_cons_succ,i64_w,i32_w]
       rfl
      refine one_ (i:=8) (N:=some 71) #[true,true,true,true,true,true,true,true,true,false,false,false] rfl rfl (one_of HT_.out (by kernel_rfl)) (by decide) (fun K hK => ?_)
      refine goes_ Try.func38 (by kernel_rfl) rfl #[.agg #[.slice (some ad198) l0_0.length c0_0,.slice (some ad200) l0_1.length c0_1],.int .i64 ((rd_T74 l0_1 x12_2).f1)] (by rfl) rfl rfl (by (try simp only [List.map_toArray,List.map_cons,List.map_nil]);first | done | rfl | (simp only [List.length_drop,List.length_take];rfl)) ?_
      with_reducible refine (beaconref08_place.calls k2 _ _ l0_0 _ _ l0_1 ((rd_T74 l0_1 x12_2).f1) t206 _ ?side1 ?side2 ?side3 ?side4 A26.out).mono ?_
      (case side1 => repeat (first | exact (Kd.C_below HR0_0.out HB.out) | (with_reducible refine Kd.C_alloc ?_ _) | (with_reducible refine Kd.C_drewN ?_ _) | (with_reducible refine Kd.C_drew ?_)))
      (case side2 => exact HC0_0.out)
      (case side3 => repeat (first | exact (Kd.C_below HR0_1.out HB.out) | (with_reducible refine Kd.C_alloc ?_ _) | (with_reducible refine Kd.C_drewN ?_ _) | (with_reducible refine Kd.C_drew ?_)))
      (case side4 => exact HC0_1.out)
      rintro e w33 ⟨rfl,hb⟩
      refine ⟨_,rfl,?_⟩
      have n0_:=Aside0.mk (Kd.R_below (by (with_reducible repeat (first | apply Kd.R_alloc | apply Kd.R_drewN | apply Kd.R_drew));exact HO_7.out) hb)
      have n1_:=Aside0.mk (Kd.R_below (by (with_reducible repeat (first | apply Kd.R_alloc | apply Kd.R_drewN | apply Kd.R_drew));exact HO_11.out) hb)
      have n2_:=Aside0.mk (Kd.R_below (by (with_reducible repeat (first | apply Kd.R_alloc | apply Kd.R_drewN | apply Kd.R_drew));exact HO204.out) hb)
      have n3_:=Aside0.mk (blk_below (g:=gb192) (o:=.cells #[.slice (some ad198) l0_0.length c0_0,.slice (some ad200) l0_1.length c0_1] 25 (0,0)) (by (with_reducible repeat (first | refine blk_drewN ?_ _ | refine blk_drew ?_ | refine blk_alloc ?_ _));first | exact BK192.out | ((try rw [← Nbq13.out]);exact BK192.out) | (have hb_:=BK192.out;(try rw [← Nbq13.out] at hb_);exact hb_)) hb)
      have n4_:=Aside0.mk (below_step (by repeat (first | (with_reducible first | exact HB.out | apply below_alloc | apply pw_below_drewN | apply below_drew1 | refine below_set ?_ GE192.out) | exact HB.out)) hb)
      clear HO_7
      clear HO_11
      clear HO204
      clear BK192
      clear HB
      have HO_7:=n0_
      have HO_11:=n1_
      have HO204:=n2_
      have BK192:=n3_
      have HB:=n4_
      clear n0_ n1_ n2_ n3_ n4_
      (try clear hb)
      (try clear hb2)
      (try clear hk)
      (try clear hi)
      refine hK.out _ _ ⟨(blk_cell BK192.out 0).trans (by first | rfl | ((try rw [← Nbq13.out]);rfl)),(blk_cell BK192.out 1).trans (by first | rfl | ((try rw [← Nbq13.out]);rfl)),((HB.out.cell (World.block_lt_of_cell? w _ hw205_0)).trans hw205_0),((HB.out.cell (World.block_lt_of_cell? w _ hw205_1)).trans hw205_1),((HB.out.cell (World.block_lt_of_cell? w _ hw205_2)).trans hw205_2),((HB.out.cell (World.block_lt_of_cell? w _ hw205_3)).trans hw205_3)⟩ (fun hHeld => ?_)
      clear hK K
      refine norm_ (a':=?_) ?_ ?_
      rotate_left
      ·show Act.put _ (some 71) _ = _
       simp only [Act.put,List.setIfInBounds_toArray,List.set_cons_zero,List.set_cons_succ,i64_w,i32_w]
       rfl
      refine one_ (i:=9) (N:=some 72) #[true,true,true,true,true,true,true,true,true,true,false,false] rfl rfl (one_of HT_.out (by kernel_rfl)) (by decide) (fun K hK => ?_)
      refine value_ (w1:=?_) (v:=?_) (by rfl) rfl ?_ ?_
      rotate_left 2
      ·go_simp
       constructor
       ·rfl
       rfl
      refine hK.out _ _ ⟨(blk_cell (blk_alloc BK192.out _) 0).trans (by first | rfl | ((try rw [← Nbq13.out]);rfl)),(blk_cell (blk_alloc BK192.out _) 1).trans (by first | rfl | ((try rw [← Nbq13.out]);rfl)),(World.cell?_alloc_lt _ _ _ (World.block_lt_of_cell? _ _ (((HB.out.cell (World.block_lt_of_cell? w _ hw205_0)).trans hw205_0)))).trans (((HB.out.cell (World.block_lt_of_cell? w _ hw205_0)).trans hw205_0)),(World.cell?_alloc_lt _ _ _ (World.block_lt_of_cell? _ _ (((HB.out.cell (World.block_lt_of_cell? w _ hw205_1)).trans hw205_1)))).trans (((HB.out.cell (World.block_lt_of_cell? w _ hw205_1)).trans hw205_1)),(World.cell?_alloc_lt _ _ _ (World.block_lt_of_cell? _ _ (((HB.out.cell (World.block_lt_of_cell? w _ hw205_2)).trans hw205_2)))).trans (((HB.out.cell (World.block_lt_of_cell? w _ hw205_2)).trans hw205_2)),(World.cell?_alloc_lt _ _ _ (World.block_lt_of_cell? _ _ (((HB.out.cell (World.block_lt_of_cell? w _ hw205_3)).trans hw205_3)))).trans (((HB.out.cell (World.block_lt_of_cell? w _ hw205_3)).trans hw205_3))⟩ (fun hHeld => ?_)
      clear hK K
      refine norm_ (a':=?_) ?_ ?_
      rotate_left
      ·show Act.put _ (some 72) _ = _
       simp only [Act.put,List.setIfInBounds_toArray,List.set_cons_zero,List.set_cons_succ,i64_w,i32_w]
       rfl
      refine one_ (i:=10) (N:=some 73) #[true,true,true,true,true,true,true,true,true,true,true,false] rfl rfl (one_of HT_.out (by kernel_rfl)) (by decide) (fun K hK => ?_)
      refine Kd.R_append_step (Kd.int .i64) (w0:=w) w.heap.size (by rfl) (.tmp 63) (.tmp 72) 27 3 (.int .i64 0) 8 rfl Try.underlying27 info3 rfl (by decide) (by omega) u11 x11_2 t206 [.int .i64 t206] (fun k_ => some k_ ≠ (v203:Value).ownBlock) (fun _ => False) rfl rfl ?aP (fun _ hk => hk.elim) ?aF ?aO ?aB ?aS ?aL ?_
      (case aP => exact rfl)
      (case aB => exact (by repeat (first | (with_reducible first | exact HB.out | apply below_alloc | apply pw_below_drewN | apply below_drew1 | refine below_set ?_ GE192.out) | exact HB.out)))
      (case aF => exact (fun k_ hk => Kd.fresh' (Kd.R_lt (by (with_reducible repeat (first | apply Kd.R_alloc | apply Kd.R_drewN | apply Kd.R_drew));exact HO204.out)) k_ hk))
      (case aO => exact (by (with_reducible repeat (first | apply Kd.R_alloc | apply Kd.R_drewN | apply Kd.R_drew));exact Kd.R_mono HO_11.out (fun _ hk => hk.2)))
      (case aS => exact (below_size (by repeat (first | (with_reducible first | exact HB.out | apply below_alloc | apply pw_below_drewN | apply below_drew1 | refine below_set ?_ GE192.out) | exact HB.out))))
      (case aL => have:=LMc27.out;omega)
      intro v208 w34 ho hb hg hat
      rw [← Ny207.out] at ho
      have n0_:=Aside0.mk (Kd.R_over' (by (with_reducible repeat (first | apply Kd.R_alloc | apply Kd.R_drewN | apply Kd.R_drew));exact HO_7.out) (Kd.R_typed (by (with_reducible repeat (first | apply Kd.R_alloc | apply Kd.R_drewN | apply Kd.R_drew));exact HO_11.out)) (by decide) hg)
      have n1_:=Aside0.mk (blk_grown (g:=gb192) (o:=.cells #[.slice (some ad198) l0_0.length c0_0,.slice (some ad200) l0_1.length c0_1] 25 (0,0)) (by (with_reducible repeat (first | refine blk_drewN ?_ _ | refine blk_drew ?_ | refine blk_alloc ?_ _));first | exact BK192.out | ((try rw [← Nbq13.out]);exact BK192.out) | (have hb_:=BK192.out;(try rw [← Nbq13.out] at hb_);exact hb_)) hg (Kd.R_ne HO_11.out BK192.out (by decide)))
      have n2_:=Aside0.mk (Kd.R_after (ok:=(fun _ => True)) (by (with_reducible repeat (first | apply Kd.R_alloc | apply Kd.R_drewN | apply Kd.R_drew));exact Kd.R_mono HO204.out (fun _ hk => ⟨trivial,hk⟩)) hg hat)
      have n3_:=Aside0.mk (hb)
      have n4_:=Aside0.mk (ho)
      clear HO_7
      clear BK192
      clear HO204
      clear HB
      clear HO_11
      have HO_7:=n0_
      have BK192:=n1_
      have HO204:=n2_
      have HB:=n3_
      have HO209:=n4_
      clear n0_ n1_ n2_ n3_ n4_
      clear ho hb hg hat
      refine hK.out _ _ ⟨(blk_cell BK192.out 0).trans (by first | rfl | ((try rw [← Nbq13.out]);rfl)),(blk_cell BK192.out 1).trans (by first | rfl | ((try rw [← Nbq13.out]);rfl)),((HB.out.cell (World.block_lt_of_cell? w _ hw205_0)).trans hw205_0),((HB.out.cell (World.block_lt_of_cell? w _ hw205_1)).trans hw205_1),((HB.out.cell (World.block_lt_of_cell? w _ hw205_2)).trans hw205_2),((HB.out.cell (World.block_lt_of_cell? w _ hw205_3)).trans hw205_3)⟩ (fun hHeld => ?_)
      clear hK K
      refine norm_ (a':=?_) ?_ ?_
      rotate_left
      ·show Act.put _ (some 73) _ = _
       simp only [Act.put,List.setIfInBounds_toArray,List.set_cons_zero,List.set_cons_succ,i64_w,i32_w]
       rfl
      refine pure_ (i:=11) (N:=some 11) (v:=?_) (a':=?_) #[true,true,true,true,true,true,true,true,true,true,true,true] rfl rfl (any_of HT_.out (by kernel_rfl)) (fun _ _ _ h => h) (Or.inl ⟨by rfl,?_⟩) ?_ ?_
      rotate_left
      ·intro w'
       go_simp
       with_reducible rfl
      rotate_left
      ·simp only [Act.put,List.setIfInBounds_toArray,List.set_cons_zero,List.set_cons_succ,i64_w,i32_w]
       rfl
      refine done_ (done_of HT_.out (by kernel_rfl)) ?_
      try go_wp2
      (try simp only [← hl7_2])
      go_roundg k2
      case measure => have:=HK1.out;have:=HK2.out;omega
      case rel => (try rw [← Nbq13.out]);exact ⟨(y202),(y207),(wrap64 (x12_2 + 1)),(by first | rfl | (simp;done) | (simp [*];done)),H',⟨by have:=HK1.out;have:=HK2.out;omega⟩,⟨by (try simp only [hl7_2]);(with_reducible repeat (first | apply Kd.R_alloc | apply Kd.R_drewN | apply Kd.R_drew));exact HO_7.out⟩,⟨by (try simp only [hl7_2]);(with_reducible repeat (first | apply Kd.R_alloc | apply Kd.R_drewN | apply Kd.R_drew));exact Kd.R_mono HO204.out (fun _ hk => hk.2)⟩,⟨by (try simp only [hl7_2]);(with_reducible repeat (first | apply Kd.R_alloc | apply Kd.R_drewN | apply Kd.R_drew));exact HO209.out⟩,⟨by (try simp only [hl7_2]);(with_reducible repeat (first | refine blk_drewN ?_ _ | refine blk_drew ?_ | refine blk_alloc ?_ _));first | exact BK192.out | ((try rw [← Nbq13.out]);exact BK192.out) | (have hb_:=BK192.out;(try rw [← Nbq13.out] at hb_);exact hb_)⟩,⟨by repeat (first | (with_reducible first | exact HB.out | apply below_alloc | apply pw_below_drewN | apply below_drew1 | refine below_set ?_ GE192.out) | exact HB.out)⟩⟩
     rw [if_neg c22] at H
     have c22b0:decide (x12_2 < (l0_1.length:Int)) = false:=decide_eq_false c22
     clear c22
     have H':=Aside0.mk H
     clear H
     have hcz35_0:wr.cell? ⟨gb192,0,none⟩ = some (.slice (some ad198) l0_0.length c0_0):=(blk_cell BK192.out 0).trans (by first | rfl | ((try rw [← Nbq13.out]);rfl))
     have hcz35_1:wr.cell? ⟨gb192,1,none⟩ = some (.slice A0_1 l0_1.length c0_1):=(blk_cell BK192.out 1).trans (by first | rfl | ((try rw [← Nbq13.out]);rfl))
     have hfz35_0:=blk_frozen BK192.out 0
     have hfz35_1:=blk_frozen BK192.out 1
     go_wp2
     go_loopg [13] k2 (fun kq v13 w' => ∃ (x7_3:List Nat) (x13_3:Bool),v13 = .bool x13_3 ∧ Aside0 (beaconref08_dists.l2 kq a1 x7_3 x10_2 x11_2 x13_3 l0_0 l0_1 = some r) ∧ Aside0 (kq ≤ k2) ∧ Aside0 (Kd.R Kd.float 26 w' w.heap.size (fun _ => True) (.slice (some ⟨go16,0,none⟩) y199.length co16) x7_3) ∧ Aside0 (Kd.R (Kd.int .i64) 3 w' w.heap.size (fun k_ => some k_ ≠ (u11:Value).ownBlock) u10 x10_2) ∧ Aside0 (Kd.R (Kd.int .i64) 3 w' w.heap.size (fun k_ => some k_ ≠ (u10:Value).ownBlock) u11 x11_2) ∧ Aside0 (w'.heap[gb192]? = some (.cells #[(.slice (some ad198) l0_0.length c0_0),(.slice A0_1 l0_1.length c0_1)] 25 (0,0))) ∧ Aside0 (Below w.heap.size w w'))
     case atStart => exact ⟨(y199),(true),(by first | rfl | (simp;done) | (simp [*];done)),H',⟨Nat.le_refl _⟩,⟨by (try simp only [hl7_2]);(with_reducible repeat (first | apply Kd.R_alloc | apply Kd.R_drewN | apply Kd.R_drew));exact HO_7.out⟩,⟨by (try simp only [hl7_2]);(with_reducible repeat (first | apply Kd.R_alloc | apply Kd.R_drewN | apply Kd.R_drew));exact HO_10.out⟩,⟨by (try simp only [hl7_2]);(with_reducible repeat (first | apply Kd.R_alloc | apply Kd.R_drewN | apply Kd.R_drew));exact HO_11.out⟩,⟨by (try simp only [hl7_2]);(with_reducible repeat (first | refine blk_drewN ?_ _ | refine blk_drew ?_ | refine blk_alloc ?_ _));first | exact BK192.out | ((try rw [← Nbq13.out]);exact BK192.out) | (have hb_:=BK192.out;(try rw [← Nbq13.out] at hb_);exact hb_)⟩,⟨by repeat (first | (with_reducible first | exact HB.out | apply below_alloc | apply pw_below_drewN | apply below_drew1 | refine below_set ?_ GE192.out) | exact HB.out)⟩⟩
     case round =>
      clear H'
      obtain ⟨x7_3,x13_3,rfl,HA,HK3,HO_7,HO_10,HO_11,BK192,HB⟩:=hrel
      have hl7_3:=(Kd.R_reads' HO_7.out).1
      rw [hl7_3] at HO_7
      (try simp only [hl7_3])
      (try simp only [hl7_3] at BK192)
      (try simp only [hl7_3] at HO_10)
      (try simp only [hl7_3] at HO_11)
      cases gk with
      | zero => exact absurd HA.out (by simp [beaconref08_dists.l2])
      | succ k3 =>
       have H:=HA.out
       clear HA
       simp only [beaconref08_dists.l2] at H
       by_cases c36:x13_3 = true
       rotate_left
       ·replace c36:=Bool.eq_false_iff.mpr c36
        subst c36
        have H1:(some x7_3) = some r:=by rw [if_neg (show ¬ (false = true) by decide)] at H;exact H
        clear H
        have H:=H1
        clear H1
        obtain rfl:=Option.some.inj H
        go_wp2
        go_ret
        exact ⟨_,by first | rfl | (simp [errW_none,errW_some] <;> rfl) | (simp [*,errW_none,errW_some] <;> rfl),by (with_reducible repeat (first | apply Kd.R_alloc | apply Kd.R_drewN | apply Kd.R_drew));exact HO_7.out,by repeat (first | (with_reducible first | exact HB.out | apply below_alloc | apply pw_below_drewN | apply below_drew1 | refine below_set ?_ GE192.out) | exact HB.out)⟩
       subst c36
       have H1:(beaconref08_dists.l3 k3 a1 x7_3 x10_2 x11_2 false 0 l0_0 l0_1) = some r:=by rw [if_pos rfl] at H;exact H
       clear H
       have H:=H1
       clear H1
       have H':=Aside0.mk H
       clear H
       go_wp2
       go_loopg [13,14] k3 (fun kq v13 v14 w' => ∃ (x7_4:List Nat) (x13_4:Bool) (x14_4:Int),v13 = .bool x13_4 ∧ v14 = .int .i64 x14_4 ∧ Aside0 (beaconref08_dists.l3 kq a1 x7_4 x10_2 x11_2 x13_4 x14_4 l0_0 l0_1 = some r) ∧ Aside0 (kq ≤ k3) ∧ Aside0 (Kd.R Kd.float 26 w' w.heap.size (fun _ => True) (.slice (some ⟨go16,0,none⟩) x7_3.length co16) x7_4) ∧ Aside0 (Kd.R (Kd.int .i64) 3 w' w.heap.size (fun k_ => some k_ ≠ (u11:Value).ownBlock) u10 x10_2) ∧ Aside0 (Kd.R (Kd.int .i64) 3 w' w.heap.size (fun k_ => some k_ ≠ (u10:Value).ownBlock) u11 x11_2) ∧ Aside0 (w'.heap[gb192]? = some (.cells #[(.slice (some ad198) l0_0.length c0_0),(.slice A0_1 l0_1.length c0_1)] 25 (0,0))) ∧ Aside0 (Below w.heap.size w w'))
       case atStart => exact ⟨(x7_3),(false),(0),(by first | rfl | (simp;done) | (simp [*];done)),(by first | rfl | (simp;done) | (simp [*];done)),H',⟨Nat.le_refl _⟩,⟨by (try simp only [hl7_2]);(try simp only [hl7_3]);(with_reducible repeat (first | apply Kd.R_alloc | apply Kd.R_drewN | apply Kd.R_drew));exact HO_7.out⟩,⟨by (try simp only [hl7_2]);(try simp only [hl7_3]);(with_reducible repeat (first | apply Kd.R_alloc | apply Kd.R_drewN | apply Kd.R_drew));exact HO_10.out⟩,⟨by (try simp only [hl7_2]);(try simp only [hl7_3]);(with_reducible repeat (first | apply Kd.R_alloc | apply Kd.R_drewN | apply Kd.R_drew));exact HO_11.out⟩,⟨by (try simp only [hl7_2]);(try simp only [hl7_3]);(with_reducible repeat (first | refine blk_drewN ?_ _ | refine blk_drew ?_ | refine blk_alloc ?_ _));first | exact BK192.out | ((try rw [← Nbq13.out]);exact BK192.out) | (have hb_:=BK192.out;(try rw [← Nbq13.out] at hb_);exact hb_)⟩,⟨by repeat (first | (with_reducible first | exact HB.out | apply below_alloc | apply pw_below_drewN | apply below_drew1 | refine below_set ?_ GE192.out) | exact HB.out)⟩⟩
       case round =>
        clear H'
        obtain ⟨x7_4,x13_4,x14_4,rfl,rfl,HA,HK4,HO_7,HO_10,HO_11,BK192,HB⟩:=hrel
        have hl7_4:=(Kd.R_reads' HO_7.out).1
        rw [hl7_4] at HO_7
        (try simp only [hl7_4])
        (try simp only [hl7_4] at BK192)
        (try simp only [hl7_4] at HO_10)
        (try simp only [hl7_4] at HO_11)
        cases gk with
        | zero => exact absurd HA.out (by simp [beaconref08_dists.l3])
        | succ k4 =>
         have H:=HA.out
         clear HA
         simp only [beaconref08_dists.l3] at H
         by_cases c37:x14_4 < (l0_1.length:Int)
         rotate_left
         ·rw [if_neg c37] at H
          have c37b0:decide (x14_4 < (l0_1.length:Int)) = false:=decide_eq_false c37
          clear c37
          have H':=Aside0.mk H
          clear H
          have hcz87_0:wr.cell? ⟨gb192,0,none⟩ = some (.slice (some ad198) l0_0.length c0_0):=(blk_cell BK192.out 0).trans (by first | rfl | ((try rw [← Nbq13.out]);rfl))
          have hcz87_1:wr.cell? ⟨gb192,1,none⟩ = some (.slice A0_1 l0_1.length c0_1):=(blk_cell BK192.out 1).trans (by first | rfl | ((try rw [← Nbq13.out]);rfl))
          have hfz87_0:=blk_frozen BK192.out 0
          have hfz87_1:=blk_frozen BK192.out 1
          go_wp2
          (try simp only [← hl7_3,← hl7_4])
          go_roundg k4
          case measure => have:=HK1.out;have:=HK2.out;have:=HK3.out;have:=HK4.out;omega
          case rel => (try rw [← Nbq13.out]);exact ⟨(x7_4),(x13_4),(by first | rfl | (simp;done) | (simp [*];done)),H',⟨by have:=HK1.out;have:=HK2.out;have:=HK3.out;have:=HK4.out;omega⟩,⟨by (try simp only [hl7_2]);(try simp only [hl7_3]);(try simp only [hl7_4]);(with_reducible repeat (first | apply Kd.R_alloc | apply Kd.R_drewN | apply Kd.R_drew));exact HO_7.out⟩,⟨by (try simp only [hl7_2]);(try simp only [hl7_3]);(try simp only [hl7_4]);(with_reducible repeat (first | apply Kd.R_alloc | apply Kd.R_drewN | apply Kd.R_drew));exact HO_10.out⟩,⟨by (try simp only [hl7_2]);(try simp only [hl7_3]);(try simp only [hl7_4]);(with_reducible repeat (first | apply Kd.R_alloc | apply Kd.R_drewN | apply Kd.R_drew));exact HO_11.out⟩,⟨by (try simp only [hl7_2]);(try simp only [hl7_3]);(try simp only [hl7_4]);(with_reducible repeat (first | refine blk_drewN ?_ _ | refine blk_drew ?_ | refine blk_alloc ?_ _));first | exact BK192.out | ((try rw [← Nbq13.out]);exact BK192.out) | (have hb_:=BK192.out;(try rw [← Nbq13.out] at hb_);exact hb_)⟩,⟨by repeat (first | (with_reducible first | exact HB.out | apply below_alloc | apply pw_below_drewN | apply below_drew1 | refine below_set ?_ GE192.out) | exact HB.out)⟩⟩
         rw [if_pos c37] at H
         have c37b0:decide (x14_4 < (l0_1.length:Int)) = true:=decide_eq_true c37
         clear c37
         by_cases c38:0 ≤ x14_4
         rotate_left
         ·rw [if_neg c38] at H
          exact absurd H (by simp)
         rw [if_pos c38] at H
         have c38b0:decide (0 ≤ x14_4) = true:=decide_eq_true c38
         clear c38
         by_cases c39:x14_4 < (x10_2.length:Int)
         rotate_left
         ·rw [if_neg c39] at H
          exact absurd H (by simp)
         rw [if_pos c39] at H
         have c39b0:decide (x14_4 < (x10_2.length:Int)) = true:=decide_eq_true c39
         clear c39
         by_cases c40:x14_4 < (x11_2.length:Int)
         rotate_left
         ·rw [if_neg c40] at H
          exact absurd H (by simp)
         rw [if_pos c40] at H
         have c40b0:decide (x14_4 < (x11_2.length:Int)) = true:=decide_eq_true c40
         clear c40
         have HC41:=Aside0.mk H
         clear H
         have hcz42_0:wr.cell? ⟨gb192,0,none⟩ = some (.slice (some ad198) l0_0.length c0_0):=(blk_cell BK192.out 0).trans (by first | rfl | ((try rw [← Nbq13.out]);rfl))
         have hcz42_1:wr.cell? ⟨gb192,1,none⟩ = some (.slice A0_1 l0_1.length c0_1):=(blk_cell BK192.out 1).trans (by first | rfl | ((try rw [← Nbq13.out]);rfl))
         have hfz42_0:=blk_frozen BK192.out 0
         have hfz42_1:=blk_frozen BK192.out 1
         have p210:0 ≤ (x14_4:Int):=of_decide_eq_true (by first | (with_reducible assumption) | assumption)
         have q210:x14_4 < (l0_1.length:Int):=of_decide_eq_true (by first | (with_reducible assumption) | assumption)
         obtain ⟨ad210,e210,hx210_0,hx210_1,hx210_2,hx210_3⟩:=at_T74 HR0_1.out x14_4 p210 q210
         (try rw [← Nbq13.out] at hx210_3)
         cases e210
         replace hx210_0:=(HB.out.cell (World.block_lt_of_cell? w _ hx210_0)).trans hx210_0
         replace hx210_1:=(HB.out.cell (World.block_lt_of_cell? w _ hx210_1)).trans hx210_1
         replace hx210_2:=(HB.out.cell (World.block_lt_of_cell? w _ hx210_2)).trans hx210_2
         replace hx210_3:=(HB.out.cell (World.block_lt_of_cell? w _ hx210_3)).trans hx210_3
         replace p210:=eq_true p210
         replace q210:=eq_true q210
         go_upto_region 25 with (first | ((with_reducible refine gate_dst (N:=15) rfl ?_);refine box_event ?hg (N:=15) ?hd (cs:=#[.int .i64 0,.int .i64 0,.float .f64 0,.bool false]) (t:=74) ?hr ?_;(case hd => rfl);(case hg => rfl);(case hr => first | (go_simp;done) | (go_simp;rfl));intro gb211 hg w43 hbox hb;have n0_:=Aside0.mk (Kd.R_below (by (with_reducible repeat (first | apply Kd.R_alloc | apply Kd.R_drewN | apply Kd.R_drew));exact HO_7.out) hb);have n1_:=Aside0.mk (Kd.R_below (by (with_reducible repeat (first | apply Kd.R_alloc | apply Kd.R_drewN | apply Kd.R_drew));exact HO_10.out) hb);have n2_:=Aside0.mk (Kd.R_below (by (with_reducible repeat (first | apply Kd.R_alloc | apply Kd.R_drewN | apply Kd.R_drew));exact HO_11.out) hb);have n3_:=Aside0.mk (blk_below (g:=gb192) (o:=.cells #[.slice (some ad198) l0_0.length c0_0,.slice (some ad210) l0_1.length c0_1] 25 (0,0)) (by (with_reducible repeat (first | refine blk_drewN ?_ _ | refine blk_drew ?_ | refine blk_alloc ?_ _));first | exact BK192.out | ((try rw [← Nbq13.out]);exact BK192.out) | (have hb_:=BK192.out;(try rw [← Nbq13.out] at hb_);exact hb_)) hb);have n4_:=Aside0.mk (below_step (by repeat (first | (with_reducible first | exact HB.out | apply below_alloc | apply pw_below_drewN | apply below_drew1 | refine below_set ?_ GE192.out) | exact HB.out)) hb);have n5_:=Aside0.mk (hbox);have n6_:=Aside0.mk ((by rw [hg];exact (below_size (by repeat (first | (with_reducible first | exact HB.out | apply below_alloc | apply pw_below_drewN | apply below_drew1 | refine below_set ?_ GE192.out) | exact HB.out))):w.heap.size ≤ gb211));have n7_:=Aside0.mk ((by rw [hg];exact (below_size (by repeat (first | (with_reducible first | exact HB.out | apply below_alloc | apply pw_below_drewN | apply below_drew1 | refine below_set ?_ GE192.out) | exact HB.out))):w.heap.size ≤ gb211));have n8_:=Aside0.mk ((by rw [hg];exact Nat.ne_of_lt (blk_lt (g:=gb192) (o:=.cells #[.slice (some ad198) l0_0.length c0_0,.slice (some ad210) l0_1.length c0_1] 25 (0,0)) (by (with_reducible repeat (first | refine blk_drewN ?_ _ | refine blk_drew ?_ | refine blk_alloc ?_ _));first | exact BK192.out | ((try rw [← Nbq13.out]);exact BK192.out) | (have hb_:=BK192.out;(try rw [← Nbq13.out] at hb_);exact hb_))):gb192 ≠ gb211));have n9_:=Aside0.mk ((by rw [hg];exact Nat.ne_of_gt (blk_lt (g:=gb192) (o:=.cells #[.slice (some ad198) l0_0.length c0_0,.slice (some ad210) l0_1.length c0_1] 25 (0,0)) (by (with_reducible repeat (first | refine blk_drewN ?_ _ | refine blk_drew ?_ | refine blk_alloc ?_ _));first | exact BK192.out | ((try rw [← Nbq13.out]);exact BK192.out) | (have hb_:=BK192.out;(try rw [← Nbq13.out] at hb_);exact hb_))):gb211 ≠ gb192));clear HO_7;clear HO_10;clear HO_11;clear BK192;clear HB;have HO_7:=n0_;have HO_10:=n1_;have HO_11:=n2_;have BK192:=n3_;have HB:=n4_;have BK211:=n5_;have GW211:=n6_;have GE211:=n7_;have NB192_211:=n8_;have NB211_192:=n9_;clear n0_ n1_ n2_ n3_ n4_ n5_ n6_ n7_ n8_ n9_;clear hb hbox hg;have hnb44:=NB211_192.out;have hnc44:=NB192_211.out;have hcz45_0:w43.cell? ⟨gb211,0,none⟩ = some (.int .i64 0):=(blk_cell BK211.out 0).trans (by first | rfl | ((try rw [← Nbq13.out]);rfl));have hcz45_1:w43.cell? ⟨gb211,1,none⟩ = some (.int .i64 0):=(blk_cell BK211.out 1).trans (by first | rfl | ((try rw [← Nbq13.out]);rfl));have hcz45_2:w43.cell? ⟨gb211,2,none⟩ = some (.float .f64 0):=(blk_cell BK211.out 2).trans (by first | rfl | ((try rw [← Nbq13.out]);rfl));have hcz45_3:w43.cell? ⟨gb211,3,none⟩ = some (.bool false):=(blk_cell BK211.out 3).trans (by first | rfl | ((try rw [← Nbq13.out]);rfl));have hfz45_0:=blk_frozen BK211.out 0;have hfz45_1:=blk_frozen BK211.out 1;have hfz45_2:=blk_frozen BK211.out 2;have hfz45_3:=blk_frozen BK211.out 3;obtain ⟨Ao46,co46,eo46⟩:=Kd.R_slice HO_10.out;subst eo46;have p212:0 ≤ (x14_4:Int):=of_decide_eq_true (by first | (with_reducible assumption) | assumption);have q212:x14_4 < (x10_2.length:Int):=of_decide_eq_true (by first | (with_reducible assumption) | assumption);obtain ⟨ad212,e212,hx212_0⟩:=Kd.at_int (Kd.R_reads' HO_10.out).2.2 x14_4 p212 q212;cases e212;have hn212_0:ad212.block ≠ gb211:=Kd.own_blk (Kd.R_ne HO_10.out BK211.out (by decide));have hn212_1:ad212.block ≠ gb211:=Kd.own_blk (Kd.R_ne HO_10.out BK211.out (by decide));have hn212_2:ad212.block ≠ gb211:=Kd.own_blk (Kd.R_ne HO_10.out BK211.out (by decide));have hn212_3:ad212.block ≠ gb211:=Kd.own_blk (Kd.R_ne HO_10.out BK211.out (by decide));replace hx212_0:=(cell_far (p:=⟨gb211,0,none⟩) (by first | (rw [add_block];exact hn212_0) | (show (Addr.add _ _).block ≠ _;rw [add_block];exact hn212_0) | exact hn212_0) (.int .i64 ((rd_T74 l0_1 x14_4).f0))).trans hx212_0;replace hx212_0:=(cell_far (p:=⟨gb211,1,none⟩) (by first | (rw [add_block];exact hn212_1) | (show (Addr.add _ _).block ≠ _;rw [add_block];exact hn212_1) | exact hn212_1) (.int .i64 ((rd_T74 l0_1 x14_4).f1))).trans hx212_0;replace hx212_0:=(cell_far (p:=⟨gb211,2,none⟩) (by first | (rw [add_block];exact hn212_2) | (show (Addr.add _ _).block ≠ _;rw [add_block];exact hn212_2) | exact hn212_2) (.float .f64 ((rd_T74 l0_1 x14_4).f2))).trans hx212_0;replace hx212_0:=(cell_far (p:=⟨gb211,3,none⟩) (by first | (rw [add_block];exact hn212_3) | (show (Addr.add _ _).block ≠ _;rw [add_block];exact hn212_3) | exact hn212_3) (.bool ((rd_T74 l0_1 x14_4).f3))).trans hx212_0;clear hn212_0;clear hn212_1;clear hn212_2;clear hn212_3;replace p212:=eq_true p212;replace q212:=eq_true q212;obtain ⟨Ao47,co47,eo47⟩:=Kd.R_slice HO_11.out;subst eo47;have p213:0 ≤ (x14_4:Int):=of_decide_eq_true (by first | (with_reducible assumption) | assumption);have q213:x14_4 < (x11_2.length:Int):=of_decide_eq_true (by first | (with_reducible assumption) | assumption);obtain ⟨ad213,e213,hx213_0⟩:=Kd.at_int (Kd.R_reads' HO_11.out).2.2 x14_4 p213 q213;cases e213;have hn213_0:ad213.block ≠ gb211:=Kd.own_blk (Kd.R_ne HO_11.out BK211.out (by decide));have hn213_1:ad213.block ≠ gb211:=Kd.own_blk (Kd.R_ne HO_11.out BK211.out (by decide));have hn213_2:ad213.block ≠ gb211:=Kd.own_blk (Kd.R_ne HO_11.out BK211.out (by decide));have hn213_3:ad213.block ≠ gb211:=Kd.own_blk (Kd.R_ne HO_11.out BK211.out (by decide));replace hx213_0:=(cell_far (p:=⟨gb211,0,none⟩) (by first | (rw [add_block];exact hn213_0) | (show (Addr.add _ _).block ≠ _;rw [add_block];exact hn213_0) | exact hn213_0) (.int .i64 ((rd_T74 l0_1 x14_4).f0))).trans hx213_0;replace hx213_0:=(cell_far (p:=⟨gb211,1,none⟩) (by first | (rw [add_block];exact hn213_1) | (show (Addr.add _ _).block ≠ _;rw [add_block];exact hn213_1) | exact hn213_1) (.int .i64 ((rd_T74 l0_1 x14_4).f1))).trans hx213_0;replace hx213_0:=(cell_far (p:=⟨gb211,2,none⟩) (by first | (rw [add_block];exact hn213_2) | (show (Addr.add _ _).block ≠ _;rw [add_block];exact hn213_2) | exact hn213_2) (.float .f64 ((rd_T74 l0_1 x14_4).f2))).trans hx213_0;replace hx213_0:=(cell_far (p:=⟨gb211,3,none⟩) (by first | (rw [add_block];exact hn213_3) | (show (Addr.add _ _).block ≠ _;rw [add_block];exact hn213_3) | exact hn213_3) (.bool ((rd_T74 l0_1 x14_4).f3))).trans hx213_0;clear hn213_0;clear hn213_1;clear hn213_2;clear hn213_3;replace p213:=eq_true p213;replace q213:=eq_true q213))
         (try simp only [Act.put,List.setIfInBounds_toArray,List.set_cons_zero,List.set_cons_succ])
         go_cut [115] (fun v115 wc => ∃ (kq:Nat) (x115_40:Bool),v115 = .bool x115_40 ∧ Aside0 (beaconref08_dists.j4 kq a1 x7_4 x10_2 x11_2 x13_4 x14_4 (rd x10_2 x14_4) (rd x11_2 x14_4) x115_40 l0_0 l0_1 ((rd_T74 l0_1 x14_4).f0) ((rd_T74 l0_1 x14_4).f1) ((rd_T74 l0_1 x14_4).f2) ((rd_T74 l0_1 x14_4).f3) = some r) ∧ Aside0 (kq ≤ k4) ∧ Aside0 (Kd.R Kd.float 26 wc w.heap.size (fun _ => True) (.slice (some ⟨go16,0,none⟩) x7_4.length co16) x7_4) ∧ Aside0 (Kd.R (Kd.int .i64) 3 wc w.heap.size (fun k_ => some k_ ≠ ((.slice (some ad213) x11_2.length co47):Value).ownBlock) (.slice (some ad212) x10_2.length co46) x10_2) ∧ Aside0 (Kd.R (Kd.int .i64) 3 wc w.heap.size (fun k_ => some k_ ≠ ((.slice (some ad212) x10_2.length co46):Value).ownBlock) (.slice (some ad213) x11_2.length co47) x11_2) ∧ Aside0 (wc.heap[gb192]? = some (.cells #[(.slice (some ad198) l0_0.length c0_0),(.slice (some ad210) l0_1.length c0_1)] 25 (0,0))) ∧ Aside0 (wc.heap[gb211]? = some (.cells #[.int .i64 ((rd_T74 l0_1 x14_4).f0),.int .i64 ((rd_T74 l0_1 x14_4).f1),.float .f64 ((rd_T74 l0_1 x14_4).f2),.bool ((rd_T74 l0_1 x14_4).f3)] 74 (0,0))) ∧ Aside0 (Below w.heap.size w wc))
         case first =>
          have H:=HC41.out
          clear HC41
          obtain ⟨bq48,hbq48⟩:∃ b_:Bool,b_ = ((rd_T74 l0_1 x14_4).f3):=⟨_,rfl⟩
          replace H:(if (bq48 = true) then (if 0 ≤ (rd x10_2 x14_4) then (if (rd x10_2 x14_4) < (l0_0.length:Int) then (if ((rd_T40 l0_0 (rd x10_2 x14_4)).f1 = true) then (if 0 ≤ (rd x11_2 x14_4) then (if (rd x11_2 x14_4) < (l0_0.length:Int) then (beaconref08_dists.j4 k4 a1 x7_4 x10_2 x11_2 x13_4 x14_4 (rd x10_2 x14_4) (rd x11_2 x14_4) (!((rd_T40 l0_0 (rd x11_2 x14_4)).f1)) l0_0 l0_1 ((rd_T74 l0_1 x14_4).f0) ((rd_T74 l0_1 x14_4).f1) ((rd_T74 l0_1 x14_4).f2) bq48) else (none)) else (none)) else (beaconref08_dists.j4 k4 a1 x7_4 x10_2 x11_2 x13_4 x14_4 (rd x10_2 x14_4) (rd x11_2 x14_4) true l0_0 l0_1 ((rd_T74 l0_1 x14_4).f0) ((rd_T74 l0_1 x14_4).f1) ((rd_T74 l0_1 x14_4).f2) bq48)) else (none)) else (none)) else (beaconref08_dists.j4 k4 a1 x7_4 x10_2 x11_2 x13_4 x14_4 (rd x10_2 x14_4) (rd x11_2 x14_4) true l0_0 l0_1 ((rd_T74 l0_1 x14_4).f0) ((rd_T74 l0_1 x14_4).f1) ((rd_T74 l0_1 x14_4).f2) bq48)) = some r:=by rw [← hbq48] at H;exact H
          have Nbq48:=Aside0.mk hbq48
          clear hbq48
          (try rw [← Nbq48.out])
          by_cases c49:(bq48 = true)
          rotate_left
          ·replace c49:=Bool.eq_false_iff.mpr c49
           subst c49
           have H1:(beaconref08_dists.j4 k4 a1 x7_4 x10_2 x11_2 x13_4 x14_4 (rd x10_2 x14_4) (rd x11_2 x14_4) true l0_0 l0_1 ((rd_T74 l0_1 x14_4).f0) ((rd_T74 l0_1 x14_4).f1) ((rd_T74 l0_1 x14_4).f2) false) = some r:=by rw [if_neg (show ¬ (false = true) by decide)] at H;exact H
           clear H
           have H:=H1
           clear H1
           have H':=Aside0.mk H
           clear H
           have hnb62:=NB211_192.out
           have hnc62:=NB192_211.out
           have hcz63_0:w43.cell? ⟨gb211,0,none⟩ = some (.int .i64 0):=(blk_cell BK211.out 0).trans (by first | rfl | ((try rw [← Nbq13.out]);(try rw [← Nbq48.out]);rfl))
           have hcz63_1:w43.cell? ⟨gb211,1,none⟩ = some (.int .i64 0):=(blk_cell BK211.out 1).trans (by first | rfl | ((try rw [← Nbq13.out]);(try rw [← Nbq48.out]);rfl))
           have hcz63_2:w43.cell? ⟨gb211,2,none⟩ = some (.float .f64 0):=(blk_cell BK211.out 2).trans (by first | rfl | ((try rw [← Nbq13.out]);(try rw [← Nbq48.out]);rfl))
           have hcz63_3:w43.cell? ⟨gb211,3,none⟩ = some (.bool false):=(blk_cell BK211.out 3).trans (by first | rfl | ((try rw [← Nbq13.out]);(try rw [← Nbq48.out]);rfl))
           have hfz63_0:=blk_frozen BK211.out 0
           have hfz63_1:=blk_frozen BK211.out 1
           have hfz63_2:=blk_frozen BK211.out 2
           have hfz63_3:=blk_frozen BK211.out 3
           go_wp2
           go_meet
           case rel => (try rw [← Nbq13.out]);(try rw [← Nbq48.out]);exact ⟨_,(true),(by first | rfl | (simp;done) | (simp [*];done)),H',⟨by have:=HK1.out;have:=HK2.out;have:=HK3.out;have:=HK4.out;first | omega | exact Nat.le_refl _⟩,⟨by (try simp only [hl7_2]);(try simp only [hl7_3]);(try simp only [hl7_4]);(with_reducible repeat (first | apply Kd.R_alloc | apply Kd.R_drewN | apply Kd.R_drew));exact Kd.R_mono (Kd.R_far (p:=⟨gb211,3,none⟩) (Kd.R_far (p:=⟨gb211,2,none⟩) (Kd.R_far (p:=⟨gb211,1,none⟩) (Kd.R_far (p:=⟨gb211,0,none⟩) (Kd.R_types HO_7.out BK211.out (by decide)) (fun _ hk => hk.2) (.int .i64 ((rd_T74 l0_1 x14_4).f0))) (fun _ hk => hk.2) (.int .i64 ((rd_T74 l0_1 x14_4).f1))) (fun _ hk => hk.2) (.float .f64 ((rd_T74 l0_1 x14_4).f2))) (fun _ hk => hk.2) (.bool (false))) (fun _ hk => trivial)⟩,⟨by (try simp only [hl7_2]);(try simp only [hl7_3]);(try simp only [hl7_4]);(with_reducible repeat (first | apply Kd.R_alloc | apply Kd.R_drewN | apply Kd.R_drew));exact Kd.R_mono (Kd.R_far (p:=⟨gb211,3,none⟩) (Kd.R_far (p:=⟨gb211,2,none⟩) (Kd.R_far (p:=⟨gb211,1,none⟩) (Kd.R_far (p:=⟨gb211,0,none⟩) (Kd.R_types HO_10.out BK211.out (by decide)) (fun _ hk => hk.2) (.int .i64 ((rd_T74 l0_1 x14_4).f0))) (fun _ hk => hk.2) (.int .i64 ((rd_T74 l0_1 x14_4).f1))) (fun _ hk => hk.2) (.float .f64 ((rd_T74 l0_1 x14_4).f2))) (fun _ hk => hk.2) (.bool (false))) (fun _ hk => hk.1)⟩,⟨by (try simp only [hl7_2]);(try simp only [hl7_3]);(try simp only [hl7_4]);(with_reducible repeat (first | apply Kd.R_alloc | apply Kd.R_drewN | apply Kd.R_drew));exact Kd.R_mono (Kd.R_far (p:=⟨gb211,3,none⟩) (Kd.R_far (p:=⟨gb211,2,none⟩) (Kd.R_far (p:=⟨gb211,1,none⟩) (Kd.R_far (p:=⟨gb211,0,none⟩) (Kd.R_types HO_11.out BK211.out (by decide)) (fun _ hk => hk.2) (.int .i64 ((rd_T74 l0_1 x14_4).f0))) (fun _ hk => hk.2) (.int .i64 ((rd_T74 l0_1 x14_4).f1))) (fun _ hk => hk.2) (.float .f64 ((rd_T74 l0_1 x14_4).f2))) (fun _ hk => hk.2) (.bool (false))) (fun _ hk => hk.1)⟩,⟨by (try simp only [hl7_2]);(try simp only [hl7_3]);(try simp only [hl7_4]);(with_reducible repeat (first | refine blk_drewN ?_ _ | refine blk_drew ?_ | refine blk_alloc ?_ _));refine blk_far ?_ NB192_211.out _;(with_reducible repeat (first | refine blk_drewN ?_ _ | refine blk_drew ?_ | refine blk_alloc ?_ _));refine blk_far ?_ NB192_211.out _;(with_reducible repeat (first | refine blk_drewN ?_ _ | refine blk_drew ?_ | refine blk_alloc ?_ _));refine blk_far ?_ NB192_211.out _;(with_reducible repeat (first | refine blk_drewN ?_ _ | refine blk_drew ?_ | refine blk_alloc ?_ _));refine blk_far ?_ NB192_211.out _;(with_reducible repeat (first | refine blk_drewN ?_ _ | refine blk_drew ?_ | refine blk_alloc ?_ _));first | exact BK192.out | ((try rw [← Nbq13.out]);(try rw [← Nbq48.out]);exact BK192.out) | (have hb_:=BK192.out;(try rw [← Nbq13.out] at hb_);(try rw [← Nbq48.out] at hb_);exact hb_)⟩,⟨by (try simp only [hl7_2]);(try simp only [hl7_3]);(try simp only [hl7_4]);(with_reducible repeat (first | refine blk_drewN ?_ _ | refine blk_drew ?_ | refine blk_alloc ?_ _));refine blk_put (cs:=#[.int .i64 ((rd_T74 l0_1 x14_4).f0),.int .i64 ((rd_T74 l0_1 x14_4).f1),.float .f64 ((rd_T74 l0_1 x14_4).f2),.bool false]) ?_ 3 _ rfl;(with_reducible repeat (first | refine blk_drewN ?_ _ | refine blk_drew ?_ | refine blk_alloc ?_ _));refine blk_put (cs:=#[.int .i64 ((rd_T74 l0_1 x14_4).f0),.int .i64 ((rd_T74 l0_1 x14_4).f1),.float .f64 0,.bool false]) ?_ 2 _ rfl;(with_reducible repeat (first | refine blk_drewN ?_ _ | refine blk_drew ?_ | refine blk_alloc ?_ _));refine blk_put (cs:=#[.int .i64 ((rd_T74 l0_1 x14_4).f0),.int .i64 0,.float .f64 0,.bool false]) ?_ 1 _ rfl;(with_reducible repeat (first | refine blk_drewN ?_ _ | refine blk_drew ?_ | refine blk_alloc ?_ _));refine blk_put (cs:=#[.int .i64 0,.int .i64 0,.float .f64 0,.bool false]) ?_ 0 _ rfl;(with_reducible repeat (first | refine blk_drewN ?_ _ | refine blk_drew ?_ | refine blk_alloc ?_ _));first | exact BK211.out | ((try rw [← Nbq13.out]);(try rw [← Nbq48.out]);exact BK211.out) | (have hb_:=BK211.out;(try rw [← Nbq13.out] at hb_);(try rw [← Nbq48.out] at hb_);exact hb_)⟩,⟨by repeat (first | (with_reducible first | exact HB.out | apply below_alloc | apply pw_below_drewN | apply below_drew1 | refine below_set ?_ GE192.out | refine below_set ?_ GE211.out) | exact HB.out)⟩⟩
          subst c49
          have H1:(if 0 ≤ (rd x10_2 x14_4) then (if (rd x10_2 x14_4) < (l0_0.length:Int) then (if ((rd_T40 l0_0 (rd x10_2 x14_4)).f1 = true) then (if 0 ≤ (rd x11_2 x14_4) then (if (rd x11_2 x14_4) < (l0_0.length:Int) then (beaconref08_dists.j4 k4 a1 x7_4 x10_2 x11_2 x13_4 x14_4 (rd x10_2 x14_4) (rd x11_2 x14_4) (!((rd_T40 l0_0 (rd x11_2 x14_4)).f1)) l0_0 l0_1 ((rd_T74 l0_1 x14_4).f0) ((rd_T74 l0_1 x14_4).f1) ((rd_T74 l0_1 x14_4).f2) true) else (none)) else (none)) else (beaconref08_dists.j4 k4 a1 x7_4 x10_2 x11_2 x13_4 x14_4 (rd x10_2 x14_4) (rd x11_2 x14_4) true l0_0 l0_1 ((rd_T74 l0_1 x14_4).f0) ((rd_T74 l0_1 x14_4).f1) ((rd_T74 l0_1 x14_4).f2) true)) else (none)) else (none)) = some r:=by rw [if_pos rfl] at H;exact H
          clear H
          have H:=H1
          clear H1
          by_cases c50:0 ≤ (rd x10_2 x14_4)
          rotate_left
          ·rw [if_neg c50] at H
           exact absurd H (by simp)
          rw [if_pos c50] at H
          have c50b0:decide (0 ≤ (rd x10_2 x14_4)) = true:=decide_eq_true c50
          clear c50
          by_cases c51:(rd x10_2 x14_4) < (l0_0.length:Int)
          rotate_left
          ·rw [if_neg c51] at H
           exact absurd H (by simp)
          rw [if_pos c51] at H
          have c51b0:decide ((rd x10_2 x14_4) < (l0_0.length:Int)) = true:=decide_eq_true c51
          clear c51
          obtain ⟨bq52,hbq52⟩:∃ b_:Bool,b_ = ((rd_T40 l0_0 (rd x10_2 x14_4)).f1):=⟨_,rfl⟩
          replace H:(if (bq52 = true) then (if 0 ≤ (rd x11_2 x14_4) then (if (rd x11_2 x14_4) < (l0_0.length:Int) then (beaconref08_dists.j4 k4 a1 x7_4 x10_2 x11_2 x13_4 x14_4 (rd x10_2 x14_4) (rd x11_2 x14_4) (!((rd_T40 l0_0 (rd x11_2 x14_4)).f1)) l0_0 l0_1 ((rd_T74 l0_1 x14_4).f0) ((rd_T74 l0_1 x14_4).f1) ((rd_T74 l0_1 x14_4).f2) true) else (none)) else (none)) else (beaconref08_dists.j4 k4 a1 x7_4 x10_2 x11_2 x13_4 x14_4 (rd x10_2 x14_4) (rd x11_2 x14_4) true l0_0 l0_1 ((rd_T74 l0_1 x14_4).f0) ((rd_T74 l0_1 x14_4).f1) ((rd_T74 l0_1 x14_4).f2) true)) = some r:=by rw [← hbq52] at H;exact H
          have Nbq52:=Aside0.mk hbq52
          clear hbq52
          by_cases c53:(bq52 = true)
          rotate_left
          ·replace c53:=Bool.eq_false_iff.mpr c53
           subst c53
           have H1:(beaconref08_dists.j4 k4 a1 x7_4 x10_2 x11_2 x13_4 x14_4 (rd x10_2 x14_4) (rd x11_2 x14_4) true l0_0 l0_1 ((rd_T74 l0_1 x14_4).f0) ((rd_T74 l0_1 x14_4).f1) ((rd_T74 l0_1 x14_4).f2) true) = some r:=by rw [if_neg (show ¬ (false = true) by decide)] at H;exact H
           clear H
           have H:=H1
           clear H1
           have H':=Aside0.mk H
           clear H
           have hnb59:=NB211_192.out
           have hnc59:=NB192_211.out
           have hcz60_0:w43.cell? ⟨gb211,0,none⟩ = some (.int .i64 0):=(blk_cell BK211.out 0).trans (by first | rfl | ((try rw [← Nbq13.out]);(try rw [← Nbq48.out]);(try rw [← Nbq52.out]);rfl))
           have hcz60_1:w43.cell? ⟨gb211,1,none⟩ = some (.int .i64 0):=(blk_cell BK211.out 1).trans (by first | rfl | ((try rw [← Nbq13.out]);(try rw [← Nbq48.out]);(try rw [← Nbq52.out]);rfl))
           have hcz60_2:w43.cell? ⟨gb211,2,none⟩ = some (.float .f64 0):=(blk_cell BK211.out 2).trans (by first | rfl | ((try rw [← Nbq13.out]);(try rw [← Nbq48.out]);(try rw [← Nbq52.out]);rfl))
           have hcz60_3:w43.cell? ⟨gb211,3,none⟩ = some (.bool false):=(blk_cell BK211.out 3).trans (by first | rfl | ((try rw [← Nbq13.out]);(try rw [← Nbq48.out]);(try rw [← Nbq52.out]);rfl))
           have hfz60_0:=blk_frozen BK211.out 0
           have hfz60_1:=blk_frozen BK211.out 1
           have hfz60_2:=blk_frozen BK211.out 2
           have hfz60_3:=blk_frozen BK211.out 3
           have hcz61_0:w43.cell? ⟨gb192,0,none⟩ = some (.slice (some ad198) l0_0.length c0_0):=(blk_cell BK192.out 0).trans (by first | rfl | ((try rw [← Nbq13.out]);(try rw [← Nbq48.out]);(try rw [← Nbq52.out]);rfl))
           have hcz61_1:w43.cell? ⟨gb192,1,none⟩ = some (.slice (some ad210) l0_1.length c0_1):=(blk_cell BK192.out 1).trans (by first | rfl | ((try rw [← Nbq13.out]);(try rw [← Nbq48.out]);(try rw [← Nbq52.out]);rfl))
           have hfz61_0:=blk_frozen BK192.out 0
           have hfz61_1:=blk_frozen BK192.out 1
           have p214:0 ≤ ((rd x10_2 x14_4):Int):=of_decide_eq_true (by first | (with_reducible assumption) | assumption)
           have q214:(rd x10_2 x14_4) < (l0_0.length:Int):=of_decide_eq_true (by first | (with_reducible assumption) | assumption)
           obtain ⟨ad214,e214,hx214_0,hx214_1,hx214_2⟩:=at_T40 HR0_0.out (rd x10_2 x14_4) p214 q214
           (try rw [← Nbq13.out] at hx214_1)
           (try rw [← Nbq48.out] at hx214_1)
           (try rw [← Nbq52.out] at hx214_1)
           (try rw [← Nbq13.out] at hx214_2)
           (try rw [← Nbq48.out] at hx214_2)
           (try rw [← Nbq52.out] at hx214_2)
           obtain rfl:ad198 = ad214:=(by injection e214)
           have hn214_0:ad198.block ≠ gb211:=Nat.ne_of_lt (Nat.lt_of_lt_of_le (by have:=World.block_lt_of_cell? _ _ hx214_0;first | rwa [add_block] at this | exact this) GW211.out)
           have hn214_1:ad198.block ≠ gb211:=Nat.ne_of_lt (Nat.lt_of_lt_of_le (by have:=World.block_lt_of_cell? _ _ hx214_0;first | rwa [add_block] at this | exact this) GW211.out)
           have hn214_2:ad198.block ≠ gb211:=Nat.ne_of_lt (Nat.lt_of_lt_of_le (by have:=World.block_lt_of_cell? _ _ hx214_0;first | rwa [add_block] at this | exact this) GW211.out)
           have hn214_3:ad198.block ≠ gb211:=Nat.ne_of_lt (Nat.lt_of_lt_of_le (by have:=World.block_lt_of_cell? _ _ hx214_0;first | rwa [add_block] at this | exact this) GW211.out)
           replace hx214_0:=(HB.out.cell (World.block_lt_of_cell? w _ hx214_0)).trans hx214_0
           replace hx214_1:=(HB.out.cell (World.block_lt_of_cell? w _ hx214_1)).trans hx214_1
           replace hx214_2:=(HB.out.cell (World.block_lt_of_cell? w _ hx214_2)).trans hx214_2
           replace hx214_0:=(cell_far (p:=⟨gb211,0,none⟩) (by first | (rw [add_block];exact hn214_0) | (show (Addr.add _ _).block ≠ _;rw [add_block];exact hn214_0) | exact hn214_0) (.int .i64 ((rd_T74 l0_1 x14_4).f0))).trans hx214_0
           replace hx214_1:=(cell_far (p:=⟨gb211,0,none⟩) (by first | (rw [add_block];exact hn214_0) | (show (Addr.add _ _).block ≠ _;rw [add_block];exact hn214_0) | exact hn214_0) (.int .i64 ((rd_T74 l0_1 x14_4).f0))).trans hx214_1
           replace hx214_2:=(cell_far (p:=⟨gb211,0,none⟩) (by first | (rw [add_block];exact hn214_0) | (show (Addr.add _ _).block ≠ _;rw [add_block];exact hn214_0) | exact hn214_0) (.int .i64 ((rd_T74 l0_1 x14_4).f0))).trans hx214_2
           replace hx214_0:=(cell_far (p:=⟨gb211,1,none⟩) (by first | (rw [add_block];exact hn214_1) | (show (Addr.add _ _).block ≠ _;rw [add_block];exact hn214_1) | exact hn214_1) (.int .i64 ((rd_T74 l0_1 x14_4).f1))).trans hx214_0
           replace hx214_1:=(cell_far (p:=⟨gb211,1,none⟩) (by first | (rw [add_block];exact hn214_1) | (show (Addr.add _ _).block ≠ _;rw [add_block];exact hn214_1) | exact hn214_1) (.int .i64 ((rd_T74 l0_1 x14_4).f1))).trans hx214_1
           replace hx214_2:=(cell_far (p:=⟨gb211,1,none⟩) (by first | (rw [add_block];exact hn214_1) | (show (Addr.add _ _).block ≠ _;rw [add_block];exact hn214_1) | exact hn214_1) (.int .i64 ((rd_T74 l0_1 x14_4).f1))).trans hx214_2
           replace hx214_0:=(cell_far (p:=⟨gb211,2,none⟩) (by first | (rw [add_block];exact hn214_2) | (show (Addr.add _ _).block ≠ _;rw [add_block];exact hn214_2) | exact hn214_2) (.float .f64 ((rd_T74 l0_1 x14_4).f2))).trans hx214_0
           replace hx214_1:=(cell_far (p:=⟨gb211,2,none⟩) (by first | (rw [add_block];exact hn214_2) | (show (Addr.add _ _).block ≠ _;rw [add_block];exact hn214_2) | exact hn214_2) (.float .f64 ((rd_T74 l0_1 x14_4).f2))).trans hx214_1
           replace hx214_2:=(cell_far (p:=⟨gb211,2,none⟩) (by first | (rw [add_block];exact hn214_2) | (show (Addr.add _ _).block ≠ _;rw [add_block];exact hn214_2) | exact hn214_2) (.float .f64 ((rd_T74 l0_1 x14_4).f2))).trans hx214_2
           replace hx214_0:=(cell_far (p:=⟨gb211,3,none⟩) (by first | (rw [add_block];exact hn214_3) | (show (Addr.add _ _).block ≠ _;rw [add_block];exact hn214_3) | exact hn214_3) (.bool (true))).trans hx214_0
           replace hx214_1:=(cell_far (p:=⟨gb211,3,none⟩) (by first | (rw [add_block];exact hn214_3) | (show (Addr.add _ _).block ≠ _;rw [add_block];exact hn214_3) | exact hn214_3) (.bool (true))).trans hx214_1
           replace hx214_2:=(cell_far (p:=⟨gb211,3,none⟩) (by first | (rw [add_block];exact hn214_3) | (show (Addr.add _ _).block ≠ _;rw [add_block];exact hn214_3) | exact hn214_3) (.bool (true))).trans hx214_2
           clear hn214_0
           clear hn214_1
           clear hn214_2
           clear hn214_3
           replace p214:=eq_true p214
           replace q214:=eq_true q214
           go_wp2
           go_meet
           case rel => (try rw [← Nbq13.out]);(try rw [← Nbq48.out]);(try rw [← Nbq52.out]);exact ⟨_,(true),(by first | rfl | (simp;done) | (simp [*];done)),H',⟨by have:=HK1.out;have:=HK2.out;have:=HK3.out;have:=HK4.out;first | omega | exact Nat.le_refl _⟩,⟨by (try simp only [hl7_2]);(try simp only [hl7_3]);(try simp only [hl7_4]);(with_reducible repeat (first | apply Kd.R_alloc | apply Kd.R_drewN | apply Kd.R_drew));exact Kd.R_mono (Kd.R_far (p:=⟨gb211,3,none⟩) (Kd.R_far (p:=⟨gb211,2,none⟩) (Kd.R_far (p:=⟨gb211,1,none⟩) (Kd.R_far (p:=⟨gb211,0,none⟩) (Kd.R_types HO_7.out BK211.out (by decide)) (fun _ hk => hk.2) (.int .i64 ((rd_T74 l0_1 x14_4).f0))) (fun _ hk => hk.2) (.int .i64 ((rd_T74 l0_1 x14_4).f1))) (fun _ hk => hk.2) (.float .f64 ((rd_T74 l0_1 x14_4).f2))) (fun _ hk => hk.2) (.bool (true))) (fun _ hk => trivial)⟩,⟨by (try simp only [hl7_2]);(try simp only [hl7_3]);(try simp only [hl7_4]);(with_reducible repeat (first | apply Kd.R_alloc | apply Kd.R_drewN | apply Kd.R_drew));exact Kd.R_mono (Kd.R_far (p:=⟨gb211,3,none⟩) (Kd.R_far (p:=⟨gb211,2,none⟩) (Kd.R_far (p:=⟨gb211,1,none⟩) (Kd.R_far (p:=⟨gb211,0,none⟩) (Kd.R_types HO_10.out BK211.out (by decide)) (fun _ hk => hk.2) (.int .i64 ((rd_T74 l0_1 x14_4).f0))) (fun _ hk => hk.2) (.int .i64 ((rd_T74 l0_1 x14_4).f1))) (fun _ hk => hk.2) (.float .f64 ((rd_T74 l0_1 x14_4).f2))) (fun _ hk => hk.2) (.bool (true))) (fun _ hk => hk.1)⟩,⟨by (try simp only [hl7_2]);(try simp only [hl7_3]);(try simp only [hl7_4]);(with_reducible repeat (first | apply Kd.R_alloc | apply Kd.R_drewN | apply Kd.R_drew));exact Kd.R_mono (Kd.R_far (p:=⟨gb211,3,none⟩) (Kd.R_far (p:=⟨gb211,2,none⟩) (Kd.R_far (p:=⟨gb211,1,none⟩) (Kd.R_far (p:=⟨gb211,0,none⟩) (Kd.R_types HO_11.out BK211.out (by decide)) (fun _ hk => hk.2) (.int .i64 ((rd_T74 l0_1 x14_4).f0))) (fun _ hk => hk.2) (.int .i64 ((rd_T74 l0_1 x14_4).f1))) (fun _ hk => hk.2) (.float .f64 ((rd_T74 l0_1 x14_4).f2))) (fun _ hk => hk.2) (.bool (true))) (fun _ hk => hk.1)⟩,⟨by (try simp only [hl7_2]);(try simp only [hl7_3]);(try simp only [hl7_4]);(with_reducible repeat (first | refine blk_drewN ?_ _ | refine blk_drew ?_ | refine blk_alloc ?_ _));refine blk_far ?_ NB192_211.out _;(with_reducible repeat (first | refine blk_drewN ?_ _ | refine blk_drew ?_ | refine blk_alloc ?_ _));refine blk_far ?_ NB192_211.out _;(with_reducible repeat (first | refine blk_drewN ?_ _ | refine blk_drew ?_ | refine blk_alloc ?_ _));refine blk_far ?_ NB192_211.out _;(with_reducible repeat (first | refine blk_drewN ?_ _ | refine blk_drew ?_ | refine blk_alloc ?_ _));refine blk_far ?_ NB192_211.out _;(with_reducible repeat (first | refine blk_drewN ?_ _ | refine blk_drew ?_ | refine blk_alloc ?_ _));first | exact BK192.out | ((try rw [← Nbq13.out]);(try rw [← Nbq48.out]);(try rw [← Nbq52.out]);exact BK192.out) | (have hb_:=BK192.out;(try rw [← Nbq13.out] at hb_);(try rw [← Nbq48.out] at hb_);(try rw [← Nbq52.out] at hb_);exact hb_)⟩,⟨by (try simp only [hl7_2]);(try simp only [hl7_3]);(try simp only [hl7_4]);(with_reducible repeat (first | refine blk_drewN ?_ _ | refine blk_drew ?_ | refine blk_alloc ?_ _));refine blk_put (cs:=#[.int .i64 ((rd_T74 l0_1 x14_4).f0),.int .i64 ((rd_T74 l0_1 x14_4).f1),.float .f64 ((rd_T74 l0_1 x14_4).f2),.bool false]) ?_ 3 _ rfl;(with_reducible repeat (first | refine blk_drewN ?_ _ | refine blk_drew ?_ | refine blk_alloc ?_ _));refine blk_put (cs:=#[.int .i64 ((rd_T74 l0_1 x14_4).f0),.int .i64 ((rd_T74 l0_1 x14_4).f1),.float .f64 0,.bool false]) ?_ 2 _ rfl;(with_reducible repeat (first | refine blk_drewN ?_ _ | refine blk_drew ?_ | refine blk_alloc ?_ _));refine blk_put (cs:=#[.int .i64 ((rd_T74 l0_1 x14_4).f0),.int .i64 0,.float .f64 0,.bool false]) ?_ 1 _ rfl;(with_reducible repeat (first | refine blk_drewN ?_ _ | refine blk_drew ?_ | refine blk_alloc ?_ _));refine blk_put (cs:=#[.int .i64 0,.int .i64 0,.float .f64 0,.bool false]) ?_ 0 _ rfl;(with_reducible repeat (first | refine blk_drewN ?_ _ | refine blk_drew ?_ | refine blk_alloc ?_ _));first | exact BK211.out | ((try rw [← Nbq13.out]);(try rw [← Nbq48.out]);(try rw [← Nbq52.out]);exact BK211.out) | (have hb_:=BK211.out;(try rw [← Nbq13.out] at hb_);(try rw [← Nbq48.out] at hb_);(try rw [← Nbq52.out] at hb_);exact hb_)⟩,⟨by repeat (first | (with_reducible first | exact HB.out | apply below_alloc | apply pw_below_drewN | apply below_drew1 | refine below_set ?_ GE192.out | refine below_set ?_ GE211.out) | exact HB.out)⟩⟩
          subst c53
          have H1:(if 0 ≤ (rd x11_2 x14_4) then (if (rd x11_2 x14_4) < (l0_0.length:Int) then (beaconref08_dists.j4 k4 a1 x7_4 x10_2 x11_2 x13_4 x14_4 (rd x10_2 x14_4) (rd x11_2 x14_4) (!((rd_T40 l0_0 (rd x11_2 x14_4)).f1)) l0_0 l0_1 ((rd_T74 l0_1 x14_4).f0) ((rd_T74 l0_1 x14_4).f1) ((rd_T74 l0_1 x14_4).f2) true) else (none)) else (none)) = some r:=by rw [if_pos rfl] at H;exact H
          clear H
          have H:=H1
          clear H1
          by_cases c54:0 ≤ (rd x11_2 x14_4)
          rotate_left
          ·rw [if_neg c54] at H
           exact absurd H (by simp)
          rw [if_pos c54] at H
          have c54b0:decide (0 ≤ (rd x11_2 x14_4)) = true:=decide_eq_true c54
          clear c54
          by_cases c55:(rd x11_2 x14_4) < (l0_0.length:Int)
          rotate_left
          ·rw [if_neg c55] at H
           exact absurd H (by simp)
          rw [if_pos c55] at H
          have c55b0:decide ((rd x11_2 x14_4) < (l0_0.length:Int)) = true:=decide_eq_true c55
          clear c55
          have H':=Aside0.mk H
          clear H
          have hnb56:=NB211_192.out
          have hnc56:=NB192_211.out
          have hcz57_0:w43.cell? ⟨gb211,0,none⟩ = some (.int .i64 0):=(blk_cell BK211.out 0).trans (by first | rfl | ((try rw [← Nbq13.out]);(try rw [← Nbq48.out]);(try rw [← Nbq52.out]);rfl))
          have hcz57_1:w43.cell? ⟨gb211,1,none⟩ = some (.int .i64 0):=(blk_cell BK211.out 1).trans (by first | rfl | ((try rw [← Nbq13.out]);(try rw [← Nbq48.out]);(try rw [← Nbq52.out]);rfl))
          have hcz57_2:w43.cell? ⟨gb211,2,none⟩ = some (.float .f64 0):=(blk_cell BK211.out 2).trans (by first | rfl | ((try rw [← Nbq13.out]);(try rw [← Nbq48.out]);(try rw [← Nbq52.out]);rfl))
          have hcz57_3:w43.cell? ⟨gb211,3,none⟩ = some (.bool false):=(blk_cell BK211.out 3).trans (by first | rfl | ((try rw [← Nbq13.out]);(try rw [← Nbq48.out]);(try rw [← Nbq52.out]);rfl))
          have hfz57_0:=blk_frozen BK211.out 0
          have hfz57_1:=blk_frozen BK211.out 1
          have hfz57_2:=blk_frozen BK211.out 2
          have hfz57_3:=blk_frozen BK211.out 3
          have hcz58_0:w43.cell? ⟨gb192,0,none⟩ = some (.slice (some ad198) l0_0.length c0_0):=(blk_cell BK192.out 0).trans (by first | rfl | ((try rw [← Nbq13.out]);(try rw [← Nbq48.out]);(try rw [← Nbq52.out]);rfl))
          have hcz58_1:w43.cell? ⟨gb192,1,none⟩ = some (.slice (some ad210) l0_1.length c0_1):=(blk_cell BK192.out 1).trans (by first | rfl | ((try rw [← Nbq13.out]);(try rw [← Nbq48.out]);(try rw [← Nbq52.out]);rfl))
          have hfz58_0:=blk_frozen BK192.out 0
          have hfz58_1:=blk_frozen BK192.out 1
          have p214:0 ≤ ((rd x10_2 x14_4):Int):=of_decide_eq_true (by first | (with_reducible assumption) | assumption)
          have q214:(rd x10_2 x14_4) < (l0_0.length:Int):=of_decide_eq_true (by first | (with_reducible assumption) | assumption)
          obtain ⟨ad214,e214,hx214_0,hx214_1,hx214_2⟩:=at_T40 HR0_0.out (rd x10_2 x14_4) p214 q214
          (try rw [← Nbq13.out] at hx214_1)
          (try rw [← Nbq48.out] at hx214_1)
          (try rw [← Nbq52.out] at hx214_1)
          (try rw [← Nbq13.out] at hx214_2)
          (try rw [← Nbq48.out] at hx214_2)
          (try rw [← Nbq52.out] at hx214_2)
          obtain rfl:ad198 = ad214:=(by injection e214)
          have hn214_0:ad198.block ≠ gb211:=Nat.ne_of_lt (Nat.lt_of_lt_of_le (by have:=World.block_lt_of_cell? _ _ hx214_0;first | rwa [add_block] at this | exact this) GW211.out)
          have hn214_1:ad198.block ≠ gb211:=Nat.ne_of_lt (Nat.lt_of_lt_of_le (by have:=World.block_lt_of_cell? _ _ hx214_0;first | rwa [add_block] at this | exact this) GW211.out)
          have hn214_2:ad198.block ≠ gb211:=Nat.ne_of_lt (Nat.lt_of_lt_of_le (by have:=World.block_lt_of_cell? _ _ hx214_0;first | rwa [add_block] at this | exact this) GW211.out)
          have hn214_3:ad198.block ≠ gb211:=Nat.ne_of_lt (Nat.lt_of_lt_of_le (by have:=World.block_lt_of_cell? _ _ hx214_0;first | rwa [add_block] at this | exact this) GW211.out)
          replace hx214_0:=(HB.out.cell (World.block_lt_of_cell? w _ hx214_0)).trans hx214_0
          replace hx214_1:=(HB.out.cell (World.block_lt_of_cell? w _ hx214_1)).trans hx214_1
          replace hx214_2:=(HB.out.cell (World.block_lt_of_cell? w _ hx214_2)).trans hx214_2
          replace hx214_0:=(cell_far (p:=⟨gb211,0,none⟩) (by first | (rw [add_block];exact hn214_0) | (show (Addr.add _ _).block ≠ _;rw [add_block];exact hn214_0) | exact hn214_0) (.int .i64 ((rd_T74 l0_1 x14_4).f0))).trans hx214_0
          replace hx214_1:=(cell_far (p:=⟨gb211,0,none⟩) (by first | (rw [add_block];exact hn214_0) | (show (Addr.add _ _).block ≠ _;rw [add_block];exact hn214_0) | exact hn214_0) (.int .i64 ((rd_T74 l0_1 x14_4).f0))).trans hx214_1
          replace hx214_2:=(cell_far (p:=⟨gb211,0,none⟩) (by first | (rw [add_block];exact hn214_0) | (show (Addr.add _ _).block ≠ _;rw [add_block];exact hn214_0) | exact hn214_0) (.int .i64 ((rd_T74 l0_1 x14_4).f0))).trans hx214_2
          replace hx214_0:=(cell_far (p:=⟨gb211,1,none⟩) (by first | (rw [add_block];exact hn214_1) | (show (Addr.add _ _).block ≠ _;rw [add_block];exact hn214_1) | exact hn214_1) (.int .i64 ((rd_T74 l0_1 x14_4).f1))).trans hx214_0
          replace hx214_1:=(cell_far (p:=⟨gb211,1,none⟩) (by first | (rw [add_block];exact hn214_1) | (show (Addr.add _ _).block ≠ _;rw [add_block];exact hn214_1) | exact hn214_1) (.int .i64 ((rd_T74 l0_1 x14_4).f1))).trans hx214_1
          replace hx214_2:=(cell_far (p:=⟨gb211,1,none⟩) (by first | (rw [add_block];exact hn214_1) | (show (Addr.add _ _).block ≠ _;rw [add_block];exact hn214_1) | exact hn214_1) (.int .i64 ((rd_T74 l0_1 x14_4).f1))).trans hx214_2
          replace hx214_0:=(cell_far (p:=⟨gb211,2,none⟩) (by first | (rw [add_block];exact hn214_2) | (show (Addr.add _ _).block ≠ _;rw [add_block];exact hn214_2) | exact hn214_2) (.float .f64 ((rd_T74 l0_1 x14_4).f2))).trans hx214_0
          replace hx214_1:=(cell_far (p:=⟨gb211,2,none⟩) (by first | (rw [add_block];exact hn214_2) | (show (Addr.add _ _).block ≠ _;rw [add_block];exact hn214_2) | exact hn214_2) (.float .f64 ((rd_T74 l0_1 x14_4).f2))).trans hx214_1
          replace hx214_2:=(cell_far (p:=⟨gb211,2,none⟩) (by first | (rw [add_block];exact hn214_2) | (show (Addr.add _ _).block ≠ _;rw [add_block];exact hn214_2) | exact hn214_2) (.float .f64 ((rd_T74 l0_1 x14_4).f2))).trans hx214_2
          replace hx214_0:=(cell_far (p:=⟨gb211,3,none⟩) (by first | (rw [add_block];exact hn214_3) | (show (Addr.add _ _).block ≠ _;rw [add_block];exact hn214_3) | exact hn214_3) (.bool (true))).trans hx214_0
          replace hx214_1:=(cell_far (p:=⟨gb211,3,none⟩) (by first | (rw [add_block];exact hn214_3) | (show (Addr.add _ _).block ≠ _;rw [add_block];exact hn214_3) | exact hn214_3) (.bool (true))).trans hx214_1
          replace hx214_2:=(cell_far (p:=⟨gb211,3,none⟩) (by first | (rw [add_block];exact hn214_3) | (show (Addr.add _ _).block ≠ _;rw [add_block];exact hn214_3) | exact hn214_3) (.bool (true))).trans hx214_2
          clear hn214_0
          clear hn214_1
          clear hn214_2
          clear hn214_3
          replace p214:=eq_true p214
          replace q214:=eq_true q214
          have p215:0 ≤ ((rd x11_2 x14_4):Int):=of_decide_eq_true (by first | (with_reducible assumption) | assumption)
          have q215:(rd x11_2 x14_4) < (l0_0.length:Int):=of_decide_eq_true (by first | (with_reducible assumption) | assumption)
          obtain ⟨ad215,e215,hx215_0,hx215_1,hx215_2⟩:=at_T40 HR0_0.out (rd x11_2 x14_4) p215 q215
          (try rw [← Nbq13.out] at hx215_1)
          (try rw [← Nbq48.out] at hx215_1)
          (try rw [← Nbq52.out] at hx215_1)
          (try rw [← Nbq13.out] at hx215_2)
          (try rw [← Nbq48.out] at hx215_2)
          (try rw [← Nbq52.out] at hx215_2)
          obtain rfl:ad198 = ad215:=(by injection e215)
          have hn215_0:ad198.block ≠ gb211:=Nat.ne_of_lt (Nat.lt_of_lt_of_le (by have:=World.block_lt_of_cell? _ _ hx215_0;first | rwa [add_block] at this | exact this) GW211.out)
          have hn215_1:ad198.block ≠ gb211:=Nat.ne_of_lt (Nat.lt_of_lt_of_le (by have:=World.block_lt_of_cell? _ _ hx215_0;first | rwa [add_block] at this | exact this) GW211.out)
          have hn215_2:ad198.block ≠ gb211:=Nat.ne_of_lt (Nat.lt_of_lt_of_le (by have:=World.block_lt_of_cell? _ _ hx215_0;first | rwa [add_block] at this | exact this) GW211.out)
          have hn215_3:ad198.block ≠ gb211:=Nat.ne_of_lt (Nat.lt_of_lt_of_le (by have:=World.block_lt_of_cell? _ _ hx215_0;first | rwa [add_block] at this | exact this) GW211.out)
          replace hx215_0:=(HB.out.cell (World.block_lt_of_cell? w _ hx215_0)).trans hx215_0
          replace hx215_1:=(HB.out.cell (World.block_lt_of_cell? w _ hx215_1)).trans hx215_1
          replace hx215_2:=(HB.out.cell (World.block_lt_of_cell? w _ hx215_2)).trans hx215_2
          replace hx215_0:=(cell_far (p:=⟨gb211,0,none⟩) (by first | (rw [add_block];exact hn215_0) | (show (Addr.add _ _).block ≠ _;rw [add_block];exact hn215_0) | exact hn215_0) (.int .i64 ((rd_T74 l0_1 x14_4).f0))).trans hx215_0
          replace hx215_1:=(cell_far (p:=⟨gb211,0,none⟩) (by first | (rw [add_block];exact hn215_0) | (show (Addr.add _ _).block ≠ _;rw [add_block];exact hn215_0) | exact hn215_0) (.int .i64 ((rd_T74 l0_1 x14_4).f0))).trans hx215_1
          replace hx215_2:=(cell_far (p:=⟨gb211,0,none⟩) (by first | (rw [add_block];exact hn215_0) | (show (Addr.add _ _).block ≠ _;rw [add_block];exact hn215_0) | exact hn215_0) (.int .i64 ((rd_T74 l0_1 x14_4).f0))).trans hx215_2
          replace hx215_0:=(cell_far (p:=⟨gb211,1,none⟩) (by first | (rw [add_block];exact hn215_1) | (show (Addr.add _ _).block ≠ _;rw [add_block];exact hn215_1) | exact hn215_1) (.int .i64 ((rd_T74 l0_1 x14_4).f1))).trans hx215_0
          replace hx215_1:=(cell_far (p:=⟨gb211,1,none⟩) (by first | (rw [add_block];exact hn215_1) | (show (Addr.add _ _).block ≠ _;rw [add_block];exact hn215_1) | exact hn215_1) (.int .i64 ((rd_T74 l0_1 x14_4).f1))).trans hx215_1
          replace hx215_2:=(cell_far (p:=⟨gb211,1,none⟩) (by first | (rw [add_block];exact hn215_1) | (show (Addr.add _ _).block ≠ _;rw [add_block];exact hn215_1) | exact hn215_1) (.int .i64 ((rd_T74 l0_1 x14_4).f1))).trans hx215_2
          replace hx215_0:=(cell_far (p:=⟨gb211,2,none⟩) (by first | (rw [add_block];exact hn215_2) | (show (Addr.add _ _).block ≠ _;rw [add_block];exact hn215_2) | exact hn215_2) (.float .f64 ((rd_T74 l0_1 x14_4).f2))).trans hx215_0
          replace hx215_1:=(cell_far (p:=⟨gb211,2,none⟩) (by first | (rw [add_block];exact hn215_2) | (show (Addr.add _ _).block ≠ _;rw [add_block];exact hn215_2) | exact hn215_2) (.float .f64 ((rd_T74 l0_1 x14_4).f2))).trans hx215_1
          replace hx215_2:=(cell_far (p:=⟨gb211,2,none⟩) (by first | (rw [add_block];exact hn215_2) | (show (Addr.add _ _).block ≠ _;rw [add_block];exact hn215_2) | exact hn215_2) (.float .f64 ((rd_T74 l0_1 x14_4).f2))).trans hx215_2
          replace hx215_0:=(cell_far (p:=⟨gb211,3,none⟩) (by first | (rw [add_block];exact hn215_3) | (show (Addr.add _ _).block ≠ _;rw [add_block];exact hn215_3) | exact hn215_3) (.bool (true))).trans hx215_0
          replace hx215_1:=(cell_far (p:=⟨gb211,3,none⟩) (by first | (rw [add_block];exact hn215_3) | (show (Addr.add _ _).block ≠ _;rw [add_block];exact hn215_3) | exact hn215_3) (.bool (true))).trans hx215_1
          replace hx215_2:=(cell_far (p:=⟨gb211,3,none⟩) (by first | (rw [add_block];exact hn215_3) | (show (Addr.add _ _).block ≠ _;rw [add_block];exact hn215_3) | exact hn215_3) (.bool (true))).trans hx215_2
          clear hn215_0
          clear hn215_1
          clear hn215_2
          clear hn215_3
          replace p215:=eq_true p215
          replace q215:=eq_true q215
          go_wp2
          go_meet
          case rel => (try rw [← Nbq13.out]);(try rw [← Nbq48.out]);(try rw [← Nbq52.out]);exact ⟨_,(!((rd_T40 l0_0 (rd x11_2 x14_4)).f1)),(by first | rfl | (simp;done) | (simp [*];done)),H',⟨by have:=HK1.out;have:=HK2.out;have:=HK3.out;have:=HK4.out;first | omega | exact Nat.le_refl _⟩,⟨by (try simp only [hl7_2]);(try simp only [hl7_3]);(try simp only [hl7_4]);(with_reducible repeat (first | apply Kd.R_alloc | apply Kd.R_drewN | apply Kd.R_drew));exact Kd.R_mono (Kd.R_far (p:=⟨gb211,3,none⟩) (Kd.R_far (p:=⟨gb211,2,none⟩) (Kd.R_far (p:=⟨gb211,1,none⟩) (Kd.R_far (p:=⟨gb211,0,none⟩) (Kd.R_types HO_7.out BK211.out (by decide)) (fun _ hk => hk.2) (.int .i64 ((rd_T74 l0_1 x14_4).f0))) (fun _ hk => hk.2) (.int .i64 ((rd_T74 l0_1 x14_4).f1))) (fun _ hk => hk.2) (.float .f64 ((rd_T74 l0_1 x14_4).f2))) (fun _ hk => hk.2) (.bool (true))) (fun _ hk => trivial)⟩,⟨by (try simp only [hl7_2]);(try simp only [hl7_3]);(try simp only [hl7_4]);(with_reducible repeat (first | apply Kd.R_alloc | apply Kd.R_drewN | apply Kd.R_drew));exact Kd.R_mono (Kd.R_far (p:=⟨gb211,3,none⟩) (Kd.R_far (p:=⟨gb211,2,none⟩) (Kd.R_far (p:=⟨gb211,1,none⟩) (Kd.R_far (p:=⟨gb211,0,none⟩) (Kd.R_types HO_10.out BK211.out (by decide)) (fun _ hk => hk.2) (.int .i64 ((rd_T74 l0_1 x14_4).f0))) (fun _ hk => hk.2) (.int .i64 ((rd_T74 l0_1 x14_4).f1))) (fun _ hk => hk.2) (.float .f64 ((rd_T74 l0_1 x14_4).f2))) (fun _ hk => hk.2) (.bool (true))) (fun _ hk => hk.1)⟩,⟨by (try simp only [hl7_2]);(try simp only [hl7_3]);(try simp only [hl7_4]);(with_reducible repeat (first | apply Kd.R_alloc | apply Kd.R_drewN | apply Kd.R_drew));exact Kd.R_mono (Kd.R_far (p:=⟨gb211,3,none⟩) (Kd.R_far (p:=⟨gb211,2,none⟩) (Kd.R_far (p:=⟨gb211,1,none⟩) (Kd.R_far (p:=⟨gb211,0,none⟩) (Kd.R_types HO_11.out BK211.out (by decide)) (fun _ hk => hk.2) (.int .i64 ((rd_T74 l0_1 x14_4).f0))) (fun _ hk => hk.2) (.int .i64 ((rd_T74 l0_1 x14_4).f1))) (fun _ hk => hk.2) (.float .f64 ((rd_T74 l0_1 x14_4).f2))) (fun _ hk => hk.2) (.bool (true))) (fun _ hk => hk.1)⟩,⟨by (try simp only [hl7_2]);(try simp only [hl7_3]);(try simp only [hl7_4]);(with_reducible repeat (first | refine blk_drewN ?_ _ | refine blk_drew ?_ | refine blk_alloc ?_ _));refine blk_far ?_ NB192_211.out _;(with_reducible repeat (first | refine blk_drewN ?_ _ | refine blk_drew ?_ | refine blk_alloc ?_ _));refine blk_far ?_ NB192_211.out _;(with_reducible repeat (first | refine blk_drewN ?_ _ | refine blk_drew ?_ | refine blk_alloc ?_ _));refine blk_far ?_ NB192_211.out _;(with_reducible repeat (first | refine blk_drewN ?_ _ | refine blk_drew ?_ | refine blk_alloc ?_ _));refine blk_far ?_ NB192_211.out _;(with_reducible repeat (first | refine blk_drewN ?_ _ | refine blk_drew ?_ | refine blk_alloc ?_ _));first | exact BK192.out | ((try rw [← Nbq13.out]);(try rw [← Nbq48.out]);(try rw [← Nbq52.out]);exact BK192.out) | (have hb_:=BK192.out;(try rw [← Nbq13.out] at hb_);(try rw [← Nbq48.out] at hb_);(try rw [← Nbq52.out] at hb_);exact hb_)⟩,⟨by (try simp only [hl7_2]);(try simp only [hl7_3]);(try simp only [hl7_4]);(with_reducible repeat (first | refine blk_drewN ?_ _ | refine blk_drew ?_ | refine blk_alloc ?_ _));refine blk_put (cs:=#[.int .i64 ((rd_T74 l0_1 x14_4).f0),.int .i64 ((rd_T74 l0_1 x14_4).f1),.float .f64 ((rd_T74 l0_1 x14_4).f2),.bool false]) ?_ 3 _ rfl;(with_reducible repeat (first | refine blk_drewN ?_ _ | refine blk_drew ?_ | refine blk_alloc ?_ _));refine blk_put (cs:=#[.int .i64 ((rd_T74 l0_1 x14_4).f0),.int .i64 ((rd_T74 l0_1 x14_4).f1),.float .f64 0,.bool false]) ?_ 2 _ rfl;(with_reducible repeat (first | refine blk_drewN ?_ _ | refine blk_drew ?_ | refine blk_alloc ?_ _));refine blk_put (cs:=#[.int .i64 ((rd_T74 l0_1 x14_4).f0),.int .i64 0,.float .f64 0,.bool false]) ?_ 1 _ rfl;(with_reducible repeat (first | refine blk_drewN ?_ _ | refine blk_drew ?_ | refine blk_alloc ?_ _));refine blk_put (cs:=#[.int .i64 0,.int .i64 0,.float .f64 0,.bool false]) ?_ 0 _ rfl;(with_reducible repeat (first | refine blk_drewN ?_ _ | refine blk_drew ?_ | refine blk_alloc ?_ _));first | exact BK211.out | ((try rw [← Nbq13.out]);(try rw [← Nbq48.out]);(try rw [← Nbq52.out]);exact BK211.out) | (have hb_:=BK211.out;(try rw [← Nbq13.out] at hb_);(try rw [← Nbq48.out] at hb_);(try rw [← Nbq52.out] at hb_);exact hb_)⟩,⟨by repeat (first | (with_reducible first | exact HB.out | apply below_alloc | apply pw_below_drewN | apply below_drew1 | refine below_set ?_ GE192.out | refine below_set ?_ GE211.out) | exact HB.out)⟩⟩
         case rest =>
          clear HC41
          obtain ⟨kq,x115_40,rfl,HA,HJ40,HO_7,HO_10,HO_11,BK192,BK211,HB⟩:=hcut
          cases kq with
          | zero => exact absurd HA.out (by simp [beaconref08_dists.j4])
          | succ kj40 =>
           have H:=HA.out
           clear HA
           simp only [beaconref08_dists.j4] at H
           by_cases c64:x115_40 = true
           ·subst c64
            have H1:(beaconref08_dists.l3 kj40 a1 x7_4 x10_2 x11_2 x13_4 (wrap64 (x14_4 + 1)) l0_0 l0_1) = some r:=by rw [if_pos rfl] at H;exact H
            clear H
            have H:=H1
            clear H1
            have H':=Aside0.mk H
            clear H
            go_wp2
            (try simp only [← hl7_4])
            go_roundg kj40
            case measure => have:=HK1.out;have:=HK2.out;have:=HK3.out;have:=HK4.out;have:=HJ40.out;omega
            case rel => (try rw [← Nbq13.out]);exact ⟨(x7_4),(x13_4),(wrap64 (x14_4 + 1)),(by first | rfl | (simp;done) | (simp [*];done)),(by first | rfl | (simp;done) | (simp [*];done)),H',⟨by have:=HK1.out;have:=HK2.out;have:=HK3.out;have:=HK4.out;have:=HJ40.out;omega⟩,⟨by (try simp only [hl7_2]);(try simp only [hl7_3]);(try simp only [hl7_4]);(with_reducible repeat (first | apply Kd.R_alloc | apply Kd.R_drewN | apply Kd.R_drew));exact HO_7.out⟩,⟨by (try simp only [hl7_2]);(try simp only [hl7_3]);(try simp only [hl7_4]);(with_reducible repeat (first | apply Kd.R_alloc | apply Kd.R_drewN | apply Kd.R_drew));exact HO_10.out⟩,⟨by (try simp only [hl7_2]);(try simp only [hl7_3]);(try simp only [hl7_4]);(with_reducible repeat (first | apply Kd.R_alloc | apply Kd.R_drewN | apply Kd.R_drew));exact HO_11.out⟩,⟨by (try simp only [hl7_2]);(try simp only [hl7_3]);(try simp only [hl7_4]);(with_reducible repeat (first | refine blk_drewN ?_ _ | refine blk_drew ?_ | refine blk_alloc ?_ _));first | exact BK192.out | ((try rw [← Nbq13.out]);exact BK192.out) | (have hb_:=BK192.out;(try rw [← Nbq13.out] at hb_);exact hb_)⟩,⟨by repeat (first | (with_reducible first | exact HB.out | apply below_alloc | apply pw_below_drewN | apply below_drew1 | refine below_set ?_ GE192.out | refine below_set ?_ GE211.out) | exact HB.out)⟩⟩
           replace c64:=Bool.eq_false_iff.mpr c64
           subst c64
           have H1:(if 0 ≤ (rd x10_2 x14_4) then (if (rd x10_2 x14_4) < (x7_4.length:Int) then ((beaconref01_Add.f ((rd_T74 l0_1 x14_4).f2) (rdOf (0:Nat) x7_4 (rd x10_2 x14_4)) a1).bind fun t217 => (if 0 ≤ (rd x11_2 x14_4) then (if (rd x11_2 x14_4) < (x7_4.length:Int) then (if (FloatKind.f64.format.order t217 (rdOf (0:Nat) x7_4 (rd x11_2 x14_4)) == some .lt) = true then (beaconref08_dists.j5 kj40 a1 (x7_4.set ((rd x11_2 x14_4):Int).toNat t217) x10_2 x11_2 true x14_4 (rd x10_2 x14_4) (rd x11_2 x14_4) l0_0 l0_1 ((rd_T74 l0_1 x14_4).f0) ((rd_T74 l0_1 x14_4).f1) ((rd_T74 l0_1 x14_4).f2) ((rd_T74 l0_1 x14_4).f3)) else (beaconref08_dists.j5 kj40 a1 x7_4 x10_2 x11_2 x13_4 x14_4 (rd x10_2 x14_4) (rd x11_2 x14_4) l0_0 l0_1 ((rd_T74 l0_1 x14_4).f0) ((rd_T74 l0_1 x14_4).f1) ((rd_T74 l0_1 x14_4).f2) ((rd_T74 l0_1 x14_4).f3))) else (none)) else (none))) else (none)) else (none)) = some r:=by rw [if_neg (show ¬ (false = true) by decide)] at H;exact H
           clear H
           have H:=H1
           clear H1
           by_cases c65:0 ≤ (rd x10_2 x14_4)
           rotate_left
           ·rw [if_neg c65] at H
            exact absurd H (by simp)
           rw [if_pos c65] at H
           have c65b0:decide (0 ≤ (rd x10_2 x14_4)) = true:=decide_eq_true c65
           clear c65
           by_cases c66:(rd x10_2 x14_4) < (x7_4.length:Int)
           rotate_left
           ·rw [if_neg c66] at H
            exact absurd H (by simp)
           rw [if_pos c66] at H
           have c66b0:decide ((rd x10_2 x14_4) < (x7_4.length:Int)) = true:=decide_eq_true c66
           clear c66
           replace H:=Option.bind_eq_some_iff.mp H
           obtain ⟨t217,A670,H⟩:=H
           replace H:(if 0 ≤ (rd x11_2 x14_4) then (if (rd x11_2 x14_4) < (x7_4.length:Int) then (if (FloatKind.f64.format.order t217 (rdOf (0:Nat) x7_4 (rd x11_2 x14_4)) == some .lt) = true then (beaconref08_dists.j5 kj40 a1 (x7_4.set ((rd x11_2 x14_4):Int).toNat t217) x10_2 x11_2 true x14_4 (rd x10_2 x14_4) (rd x11_2 x14_4) l0_0 l0_1 ((rd_T74 l0_1 x14_4).f0) ((rd_T74 l0_1 x14_4).f1) ((rd_T74 l0_1 x14_4).f2) ((rd_T74 l0_1 x14_4).f3)) else (beaconref08_dists.j5 kj40 a1 x7_4 x10_2 x11_2 x13_4 x14_4 (rd x10_2 x14_4) (rd x11_2 x14_4) l0_0 l0_1 ((rd_T74 l0_1 x14_4).f0) ((rd_T74 l0_1 x14_4).f1) ((rd_T74 l0_1 x14_4).f2) ((rd_T74 l0_1 x14_4).f3))) else (none)) else (none)) = some r:=H
           have A67:=Aside0.mk A670
           clear A670
           by_cases c68:0 ≤ (rd x11_2 x14_4)
           rotate_left
           ·rw [if_neg c68] at H
            exact absurd H (by simp)
           rw [if_pos c68] at H
           have c68b0:decide (0 ≤ (rd x11_2 x14_4)) = true:=decide_eq_true c68
           clear c68
           by_cases c69:(rd x11_2 x14_4) < (x7_4.length:Int)
           rotate_left
           ·rw [if_neg c69] at H
            exact absurd H (by simp)
           rw [if_pos c69] at H
           have c69b0:decide ((rd x11_2 x14_4) < (x7_4.length:Int)) = true:=decide_eq_true c69
           clear c69
           have HC70:=Aside0.mk H
           clear H
           try go_wp2
           have n0_:=Aside0.mk (Kd.R_drew HO_7.out)
           have n1_:=Aside0.mk (Kd.R_drew HO_10.out)
           have n2_:=Aside0.mk (Kd.R_drew HO_11.out)
           have n3_:=Aside0.mk (blk_drew BK192.out)
           have n4_:=Aside0.mk (blk_drew BK211.out)
           have n5_:=Aside0.mk (below_drew1 HB.out)
           clear HO_7
           clear HO_10
           clear HO_11
           clear BK192
           clear BK211
           clear HB
           have HO_7:=n0_
           have HO_10:=n1_
           have HO_11:=n2_
           have BK192:=n3_
           have BK211:=n4_
           have HB:=n5_
           clear n0_ n1_ n2_ n3_ n4_ n5_
           have p216:0 ≤ ((rd x10_2 x14_4):Int):=of_decide_eq_true (by first | (with_reducible assumption) | assumption)
           have q216:(rd x10_2 x14_4) < (x7_4.length:Int):=of_decide_eq_true (by first | (with_reducible assumption) | assumption)
           obtain ⟨ad216,e216,hx216_0⟩:=Kd.at_float (Kd.R_reads' HO_7.out).2.2 (rd x10_2 x14_4) p216 q216
           obtain rfl:(⟨go16,0,none⟩:Addr) = ad216:=(by injection e216)
           (first | simp only [add_plain] at hx216_0 | simp only [add_at] at hx216_0 | simp only [Addr.add,Nat.zero_add] at hx216_0 | skip)
           replace p216:=eq_true p216
           replace q216:=eq_true q216
           refine start_ (n:=9) (S:=fun w' => w'.cell? ⟨gb211,0,none⟩ = some (.int .i64 ((rd_T74 l0_1 x14_4).f0)) ∧ w'.cell? ⟨gb211,1,none⟩ = some (.int .i64 ((rd_T74 l0_1 x14_4).f1)) ∧ w'.cell? ⟨gb211,2,none⟩ = some (.float .f64 ((rd_T74 l0_1 x14_4).f2)) ∧ w'.cell? ⟨gb211,3,none⟩ = some (.bool ((rd_T74 l0_1 x14_4).f3)) ∧ w'.cell? ⟨go16,((rd x10_2 x14_4)).toNat,none⟩ = some (.float .f64 (rdOf (0:Nat) x7_4 (rd x10_2 x14_4)))) (ds:=[]) #[false,false,false,false,false,false,false,false,false] (by kernel_rfl) rfl rfl ⟨(blk_cell BK211.out 0).trans (by first | rfl | ((try rw [← Nbq13.out]);rfl)),(blk_cell BK211.out 1).trans (by first | rfl | ((try rw [← Nbq13.out]);rfl)),(blk_cell BK211.out 2).trans (by first | rfl | ((try rw [← Nbq13.out]);rfl)),(blk_cell BK211.out 3).trans (by first | rfl | ((try rw [← Nbq13.out]);rfl)),hx216_0⟩ (fun hHeld => ?_);refine with_tabW beaconref08_dists.tab26 beaconref08_dists.bits26 (fun HT_ HW_ => ?_)
           generalize wc.drew = w71 at HO_7 HO_10 HO_11 BK192 BK211 HB hx216_0 hHeld ⊢
           refine pure_ (i:=0) (N:=some 116) (v:=?_) (a':=?_) #[true,false,false,false,false,false,false,false,false] rfl rfl (any_of HT_.out (by kernel_rfl)) (fun _ _ _ h => h) (Or.inl ⟨by rfl,?_⟩) ?_ ?_
           rotate_left
           ·intro w'
            go_simp
            with_reducible rfl
           rotate_left
           ·simp only [Act.put,List.setIfInBounds_toArray,List.set_cons_zero,List.set_cons_succ,i64_w,i32_w]
            rfl
           refine pure_ (i:=2) (N:=some 118) (v:=?_) (a':=?_) #[true,false,true,false,false,false,false,false,false] rfl rfl (any_of HT_.out (by kernel_rfl)) (fun _ _ _ h => h) (Or.inl ⟨by rfl,?_⟩) ?_ ?_
           rotate_left
           ·intro w'
            go_simp
            with_reducible rfl
           rotate_left
           ·simp only [Act.put,List.setIfInBounds_toArray,List.set_cons_zero,List.set_cons_succ,i64_w,i32_w]
            rfl
           refine pure_ (i:=3) (N:=some 119) (v:=?_) (a':=?_) #[true,false,true,true,false,false,false,false,false] rfl rfl (any_of HT_.out (by kernel_rfl)) (fun _ _ _ h => h) (Or.inl ⟨by rfl,?_⟩) ?_ ?_
           rotate_left
           ·intro w'
            go_simp
            with_reducible rfl
           rotate_left
           ·simp only [Act.put,List.setIfInBounds_toArray,List.set_cons_zero,List.set_cons_succ,i64_w,i32_w]
            rfl
           refine pure_ (i:=4) (N:=some 120) (v:=?_) (a':=?_) #[true,false,true,true,true,false,false,false,false] rfl rfl (any_of HT_.out (by kernel_rfl)) (fun _ _ _ h => h) (Or.inl ⟨by rfl,?_⟩) ?_ ?_
           rotate_left
           ·intro w'
            go_simp
            with_reducible rfl
           rotate_left
           ·simp only [Act.put,List.setIfInBounds_toArray,List.set_cons_zero,List.set_cons_succ,i64_w,i32_w]
            rfl
           refine pure_ (i:=6) (N:=some 122) (v:=?_) (a':=?_) #[true,false,true,true,true,false,true,false,false] rfl rfl (any_of HT_.out (by kernel_rfl)) (fun _ _ _ h => h) (Or.inl ⟨by rfl,?_⟩) ?_ ?_
           rotate_left
           ·intro w'
            go_simp
            with_reducible rfl
           rotate_left
           ·simp only [Act.put,List.setIfInBounds_toArray,List.set_cons_zero,List.set_cons_succ,i64_w,i32_w]
            rfl
           refine take_ (i:=1) (N:=some 117) (v:=?_) (a':=?_) #[true,true,true,true,true,false,true,false,false] rfl rfl (take_ofW HT_.out HW_.out (by kernel_rfl)) (fun _ _ _ h => h) (Or.inl ⟨by rfl,?_⟩) hHeld ?_ ?_
           rotate_left
           ·rintro w' ⟨s0,s1,s2,s3,s4⟩
            go_simp
            with_reducible rfl
           rotate_left
           ·simp only [Act.put,List.setIfInBounds_toArray,List.set_cons_zero,List.set_cons_succ,i64_w,i32_w]
            rfl
           refine take_ (i:=5) (N:=some 121) (v:=?_) (a':=?_) #[true,true,true,true,true,true,true,false,false] rfl rfl (take_ofW HT_.out HW_.out (by kernel_rfl)) (fun _ _ _ h => h) (Or.inl ⟨by rfl,?_⟩) hHeld ?_ ?_
           rotate_left
           ·rintro w' ⟨s0,s1,s2,s3,s4⟩
            go_simp
            with_reducible rfl
           rotate_left
           ·simp only [Act.put,List.setIfInBounds_toArray,List.set_cons_zero,List.set_cons_succ,i64_w,i32_w]
            rfl
           refine one_ (i:=7) (N:=some 123) #[true,true,true,true,true,true,true,true,false] rfl rfl (one_of HT_.out (by kernel_rfl)) (by decide) (fun K hK => ?_)
           refine goes_ Try.func54 (by kernel_rfl) rfl #[.float .f64 ((rd_T74 l0_1 x14_4).f2),.float .f64 (rdOf (0:Nat) x7_4 (rd x10_2 x14_4)),.float .f64 a1] (by rfl) rfl rfl (by (try simp only [List.map_toArray,List.map_cons,List.map_nil]);first | done | rfl | (simp only [List.length_drop,List.length_take];rfl)) ?_
           with_reducible refine (beaconref01_Add.calls ((rd_T74 l0_1 x14_4).f2) (rdOf (0:Nat) x7_4 (rd x10_2 x14_4)) a1 t217 _ A67.out).mono ?_
           rintro e w' ⟨rfl,⟨nd,rfl⟩⟩
           refine ⟨_,rfl,?_⟩
           refine hK.out _ _ ⟨(blk_cell BK211.out 0).trans (by first | rfl | ((try rw [← Nbq13.out]);rfl)),(blk_cell BK211.out 1).trans (by first | rfl | ((try rw [← Nbq13.out]);rfl)),(blk_cell BK211.out 2).trans (by first | rfl | ((try rw [← Nbq13.out]);rfl)),(blk_cell BK211.out 3).trans (by first | rfl | ((try rw [← Nbq13.out]);rfl)),hHeld.2.2.2.2⟩ (fun hHeld => ?_)
           clear hK K
           refine norm_ (a':=?_) ?_ ?_
           rotate_left
           ·show Act.put _ (some 123) _ = _
            simp only [Act.put,List.setIfInBounds_toArray,List.set_cons_zero,List.set_cons_succ,i64_w,i32_w]
            rfl
           refine pure_ (i:=8) (N:=some 18) (v:=?_) (a':=?_) #[true,true,true,true,true,true,true,true,true] rfl rfl (any_of HT_.out (by kernel_rfl)) (fun _ _ _ h => h) (Or.inl ⟨by rfl,?_⟩) ?_ ?_
           rotate_left
           ·intro w'
            go_simp
            with_reducible rfl
           rotate_left
           ·simp only [Act.put,List.setIfInBounds_toArray,List.set_cons_zero,List.set_cons_succ,i64_w,i32_w]
            rfl
           refine done_ (done_of HT_.out (by kernel_rfl)) ?_
           (try (rw [drewN_self w71];generalize hq_:World.drewN w71 _ = w71;have n0_:Aside0 (Kd.R (Kd.int .i64) 3 w71 w.heap.size (fun k_ => some k_ ≠ (.slice (some ad213) x11_2.length co47:Value).ownBlock) (.slice (some ad212) x10_2.length co46) x10_2):=⟨by rw [← hq_];exact (by (with_reducible repeat (first | apply Kd.R_alloc | apply Kd.R_drewN | apply Kd.R_drew));exact HO_10.out)⟩;have n1_:Aside0 (Kd.R (Kd.int .i64) 3 w71 w.heap.size (fun k_ => some k_ ≠ (.slice (some ad212) x10_2.length co46:Value).ownBlock) (.slice (some ad213) x11_2.length co47) x11_2):=⟨by rw [← hq_];exact (by (with_reducible repeat (first | apply Kd.R_alloc | apply Kd.R_drewN | apply Kd.R_drew));exact HO_11.out)⟩;have n2_:Aside0 (Kd.R Kd.float 26 w71 w.heap.size (fun _ => True) (.slice (some ⟨go16,0,none⟩) x7_4.length co16) x7_4):=⟨by rw [← hq_];exact (by (with_reducible repeat (first | apply Kd.R_alloc | apply Kd.R_drewN | apply Kd.R_drew));exact HO_7.out)⟩;have n3_:Aside0 (w71.heap[gb192]? = some (.cells #[.slice (some ad198) l0_0.length c0_0,.slice (some ad210) l0_1.length c0_1] 25 (0,0))):=⟨by rw [← hq_];exact (by (with_reducible repeat (first | refine blk_drewN ?_ _ | refine blk_drew ?_ | refine blk_alloc ?_ _));first | exact BK192.out | ((try rw [← Nbq13.out]);exact BK192.out) | (have hb_:=BK192.out;(try rw [← Nbq13.out] at hb_);exact hb_))⟩;have n4_:Aside0 (w71.heap[gb211]? = some (.cells #[.int .i64 ((rd_T74 l0_1 x14_4).f0),.int .i64 ((rd_T74 l0_1 x14_4).f1),.float .f64 ((rd_T74 l0_1 x14_4).f2),.bool ((rd_T74 l0_1 x14_4).f3)] 74 (0,0))):=⟨by rw [← hq_];exact (by (with_reducible repeat (first | refine blk_drewN ?_ _ | refine blk_drew ?_ | refine blk_alloc ?_ _));first | exact BK211.out | ((try rw [← Nbq13.out]);exact BK211.out) | (have hb_:=BK211.out;(try rw [← Nbq13.out] at hb_);exact hb_))⟩;have n5_:Aside0 (Below w.heap.size w w71):=⟨by rw [← hq_];exact (by repeat (first | (with_reducible first | exact HB.out | apply below_alloc | apply pw_below_drewN | apply below_drew1 | refine below_set ?_ GE192.out | refine below_set ?_ GE211.out) | exact HB.out))⟩;clear HO_10 HO_11 HO_7 BK192 BK211 HB hq_;have HO_10:=n0_;have HO_11:=n1_;have HO_7:=n2_;have BK192:=n3_;have BK211:=n4_;have HB:=n5_;clear n0_ n1_ n2_ n3_ n4_ n5_))
           have p218:0 ≤ ((rd x11_2 x14_4):Int):=of_decide_eq_true (by first | (with_reducible assumption) | assumption)
           have q218:(rd x11_2 x14_4) < (x7_4.length:Int):=of_decide_eq_true (by first | (with_reducible assumption) | assumption)
           obtain ⟨ad218,e218,hx218_0⟩:=Kd.at_float (Kd.R_reads' HO_7.out).2.2 (rd x11_2 x14_4) p218 q218
           obtain rfl:(⟨go16,0,none⟩:Addr) = ad218:=(by injection e218)
           (first | simp only [add_plain] at hx218_0 | simp only [add_at] at hx218_0 | simp only [Addr.add,Nat.zero_add] at hx218_0 | skip)
           replace p218:=eq_true p218
           replace q218:=eq_true q218
           go_upto_if 129 with (fail)
           go_cut [13] (fun v13 wc => ∃ (kq:Nat) (x7_69:List Nat) (x13_69:Bool),v13 = .bool x13_69 ∧ Aside0 (beaconref08_dists.j5 kq a1 x7_69 x10_2 x11_2 x13_69 x14_4 (rd x10_2 x14_4) (rd x11_2 x14_4) l0_0 l0_1 ((rd_T74 l0_1 x14_4).f0) ((rd_T74 l0_1 x14_4).f1) ((rd_T74 l0_1 x14_4).f2) ((rd_T74 l0_1 x14_4).f3) = some r) ∧ Aside0 (kq ≤ kj40) ∧ Aside0 (Kd.R Kd.float 26 wc w.heap.size (fun _ => True) (.slice (some ⟨go16,0,none⟩) x7_4.length co16) x7_69) ∧ Aside0 (Kd.R (Kd.int .i64) 3 wc w.heap.size (fun k_ => some k_ ≠ ((.slice (some ad213) x11_2.length co47):Value).ownBlock) (.slice (some ad212) x10_2.length co46) x10_2) ∧ Aside0 (Kd.R (Kd.int .i64) 3 wc w.heap.size (fun k_ => some k_ ≠ ((.slice (some ad212) x10_2.length co46):Value).ownBlock) (.slice (some ad213) x11_2.length co47) x11_2) ∧ Aside0 (wc.heap[gb192]? = some (.cells #[(.slice (some ad198) l0_0.length c0_0),(.slice (some ad210) l0_1.length c0_1)] 25 (0,0))) ∧ Aside0 (wc.heap[gb211]? = some (.cells #[.int .i64 ((rd_T74 l0_1 x14_4).f0),.int .i64 ((rd_T74 l0_1 x14_4).f1),.float .f64 ((rd_T74 l0_1 x14_4).f2),.bool ((rd_T74 l0_1 x14_4).f3)] 74 (0,0))) ∧ Aside0 (Below w.heap.size w wc))
           case first =>
            have H:=HC70.out
            clear HC70
            by_cases c72:(FloatKind.f64.format.order t217 (rdOf (0:Nat) x7_4 (rd x11_2 x14_4)) == some .lt) = true
            ·rw [if_pos c72] at H
             have c72b0:(FloatKind.f64.format.order t217 (rdOf (0:Nat) x7_4 (rd x11_2 x14_4)) == some .lt) = true:=c72
             (try (have c72b1:decide (FloatKind.f64.format.order t217 (rdOf (0:Nat) x7_4 (rd x11_2 x14_4)) = some .lt) = true:=by simpa using c72))
             (try (have c72b2:(FloatKind.f64.format.order t217 (rdOf (0:Nat) x7_4 (rd x11_2 x14_4)) == some .lt) = true:=by simpa using c72))
             clear c72
             (first | rw [c72b0] | (simp only [i64_w,i32_w];rw [c72b0]) | skip)
             obtain ⟨y219,hy219⟩:∃ y_:List Nat,y_ = (x7_4.set ((rd x11_2 x14_4):Int).toNat t217):=⟨_,rfl⟩
             replace H:(beaconref08_dists.j5 kj40 a1 y219 x10_2 x11_2 true x14_4 (rd x10_2 x14_4) (rd x11_2 x14_4) l0_0 l0_1 ((rd_T74 l0_1 x14_4).f0) ((rd_T74 l0_1 x14_4).f1) ((rd_T74 l0_1 x14_4).f2) ((rd_T74 l0_1 x14_4).f3)) = some r:=by first | (rw [hy219];with_reducible exact H) | (have H2_:=(Option.bind_some _ _).symm.trans H;rw [hy219];with_reducible exact H2_) | (have H2_:=(Option.bind_some _ _).symm.trans H;with_reducible exact H2_) | with_reducible exact H | (rw [hy219];exact H) | exact H
             have Ny219:=Aside0.mk hy219
             clear hy219
             have H':=Aside0.mk H
             clear H
             have p73:0 ≤ ((rd x11_2 x14_4):Int):=of_decide_eq_true (by first | (with_reducible assumption) | assumption)
             have q73:((rd x11_2 x14_4):Int) < ((x7_4.length:Int):Int):=of_decide_eq_true (by first | (with_reducible assumption) | assumption)
             obtain ⟨hx73_0,hf73_0⟩:=Kd.R_celln (0:Nat) HO_7.out ((rd x11_2 x14_4):Int) p73 q73
             replace p73:=eq_true p73
             replace q73:=eq_true q73
             have HP74:=Kd.R_putg HO_7.out ((rd x11_2 x14_4):Int) t217
             go_wp2_with (first | ((with_reducible refine gate_store (t:=26) (p:=133) rfl ?_);refine store_event (t:=26) (p:=133) (v:=?vo_w75) (w1:=(w71.setCell ⟨go16,((rd x11_2 x14_4):Int).toNat,none⟩ (.float .f64 t217))) ?hg ?ho ?hn ?hr ?_;(case ho => rfl);(case hg => rfl);(case hn => rfl);(case hr => first | (go_simp;done) | (go_simp;rfl));intro w75 hw;have hg:w71.grownBy w75 (some go16):=(by rw [hw];exact HP74.2);have hp_:Kd.R Kd.float 26 w75 w.heap.size (fun _ => True) (.slice (some ⟨go16,0,none⟩) x7_4.length co16) y219:=(by rw [hw,Ny219.out];exact HP74.1);clear HP74;have n0_:=Aside0.mk (hp_);have n1_:=Aside0.mk (Kd.R_over' (v:=(.slice (some ⟨go16,0,none⟩) x7_4.length co16)) (by (with_reducible repeat (first | apply Kd.R_alloc | apply Kd.R_drewN | apply Kd.R_drew));exact HO_10.out) (Kd.R_typed HO_7.out) (by decide) hg);have n2_:=Aside0.mk (Kd.R_over' (v:=(.slice (some ⟨go16,0,none⟩) x7_4.length co16)) (by (with_reducible repeat (first | apply Kd.R_alloc | apply Kd.R_drewN | apply Kd.R_drew));exact HO_11.out) (Kd.R_typed HO_7.out) (by decide) hg);have n3_:=Aside0.mk (blk_grown (g:=gb192) (o:=.cells #[.slice (some ad198) l0_0.length c0_0,.slice (some ad210) l0_1.length c0_1] 25 (0,0)) (by (with_reducible repeat (first | refine blk_drewN ?_ _ | refine blk_drew ?_ | refine blk_alloc ?_ _));first | exact BK192.out | ((try rw [← Nbq13.out]);exact BK192.out) | (have hb_:=BK192.out;(try rw [← Nbq13.out] at hb_);exact hb_)) hg (Kd.R_ne HO_7.out BK192.out (by decide)));have n4_:=Aside0.mk (blk_grown (g:=gb211) (o:=.cells #[.int .i64 ((rd_T74 l0_1 x14_4).f0),.int .i64 ((rd_T74 l0_1 x14_4).f1),.float .f64 ((rd_T74 l0_1 x14_4).f2),.bool ((rd_T74 l0_1 x14_4).f3)] 74 (0,0)) (by (with_reducible repeat (first | refine blk_drewN ?_ _ | refine blk_drew ?_ | refine blk_alloc ?_ _));first | exact BK211.out | ((try rw [← Nbq13.out]);exact BK211.out) | (have hb_:=BK211.out;(try rw [← Nbq13.out] at hb_);exact hb_)) hg (Kd.R_ne HO_7.out BK211.out (by decide)));have n5_:=Aside0.mk ((by rw [hw];exact below_set (HB.out) GB16.out:Below w.heap.size w w75));clear HO_7;clear HO_10;clear HO_11;clear BK192;clear BK211;clear HB;have HO_7:=n0_;have HO_10:=n1_;have HO_11:=n2_;have BK192:=n3_;have BK211:=n4_;have HB:=n5_;clear n0_ n1_ n2_ n3_ n4_ n5_;clear hg hw hp_))
             go_meet
             case rel => (try rw [← Nbq13.out]);exact ⟨_,(y219),(true),(by first | rfl | (simp;done) | (simp [*];done)),H',⟨by have:=HK1.out;have:=HK2.out;have:=HK3.out;have:=HK4.out;have:=HJ40.out;first | omega | exact Nat.le_refl _⟩,⟨by (try simp only [hl7_2]);(try simp only [hl7_3]);(try simp only [hl7_4]);(with_reducible repeat (first | apply Kd.R_alloc | apply Kd.R_drewN | apply Kd.R_drew));exact HO_7.out⟩,⟨by (try simp only [hl7_2]);(try simp only [hl7_3]);(try simp only [hl7_4]);(with_reducible repeat (first | apply Kd.R_alloc | apply Kd.R_drewN | apply Kd.R_drew));exact HO_10.out⟩,⟨by (try simp only [hl7_2]);(try simp only [hl7_3]);(try simp only [hl7_4]);(with_reducible repeat (first | apply Kd.R_alloc | apply Kd.R_drewN | apply Kd.R_drew));exact HO_11.out⟩,⟨by (try simp only [hl7_2]);(try simp only [hl7_3]);(try simp only [hl7_4]);(with_reducible repeat (first | refine blk_drewN ?_ _ | refine blk_drew ?_ | refine blk_alloc ?_ _));first | exact BK192.out | ((try rw [← Nbq13.out]);exact BK192.out) | (have hb_:=BK192.out;(try rw [← Nbq13.out] at hb_);exact hb_)⟩,⟨by (try simp only [hl7_2]);(try simp only [hl7_3]);(try simp only [hl7_4]);(with_reducible repeat (first | refine blk_drewN ?_ _ | refine blk_drew ?_ | refine blk_alloc ?_ _));first | exact BK211.out | ((try rw [← Nbq13.out]);exact BK211.out) | (have hb_:=BK211.out;(try rw [← Nbq13.out] at hb_);exact hb_)⟩,⟨by repeat (first | (with_reducible first | exact HB.out | apply below_alloc | apply pw_below_drewN | apply below_drew1 | refine below_set ?_ GE192.out | refine below_set ?_ GE211.out) | exact HB.out)⟩⟩
            rw [if_neg c72] at H
            have c72b0:(FloatKind.f64.format.order t217 (rdOf (0:Nat) x7_4 (rd x11_2 x14_4)) == some .lt) = false:=by simpa using c72
            (try (have c72b1:decide (FloatKind.f64.format.order t217 (rdOf (0:Nat) x7_4 (rd x11_2 x14_4)) = some .lt) = false:=by simpa using c72))
            (try (have c72b2:(FloatKind.f64.format.order t217 (rdOf (0:Nat) x7_4 (rd x11_2 x14_4)) == some .lt) = false:=by simpa using c72))
            (try (have c72b3:¬ (FloatKind.f64.format.order t217 (rdOf (0:Nat) x7_4 (rd x11_2 x14_4)) = some .lt):=by simpa using c72))
            clear c72
            (first | rw [c72b0] | (simp only [i64_w,i32_w];rw [c72b0]) | skip)
            have H':=Aside0.mk H
            clear H
            go_wp2
            go_meet
            case rel => (try rw [← Nbq13.out]);exact ⟨_,(x7_4),(x13_4),(by first | rfl | (simp;done) | (simp [*];done)),H',⟨by have:=HK1.out;have:=HK2.out;have:=HK3.out;have:=HK4.out;have:=HJ40.out;first | omega | exact Nat.le_refl _⟩,⟨by (try simp only [hl7_2]);(try simp only [hl7_3]);(try simp only [hl7_4]);(with_reducible repeat (first | apply Kd.R_alloc | apply Kd.R_drewN | apply Kd.R_drew));exact HO_7.out⟩,⟨by (try simp only [hl7_2]);(try simp only [hl7_3]);(try simp only [hl7_4]);(with_reducible repeat (first | apply Kd.R_alloc | apply Kd.R_drewN | apply Kd.R_drew));exact HO_10.out⟩,⟨by (try simp only [hl7_2]);(try simp only [hl7_3]);(try simp only [hl7_4]);(with_reducible repeat (first | apply Kd.R_alloc | apply Kd.R_drewN | apply Kd.R_drew));exact HO_11.out⟩,⟨by (try simp only [hl7_2]);(try simp only [hl7_3]);(try simp only [hl7_4]);(with_reducible repeat (first | refine blk_drewN ?_ _ | refine blk_drew ?_ | refine blk_alloc ?_ _));first | exact BK192.out | ((try rw [← Nbq13.out]);exact BK192.out) | (have hb_:=BK192.out;(try rw [← Nbq13.out] at hb_);exact hb_)⟩,⟨by (try simp only [hl7_2]);(try simp only [hl7_3]);(try simp only [hl7_4]);(with_reducible repeat (first | refine blk_drewN ?_ _ | refine blk_drew ?_ | refine blk_alloc ?_ _));first | exact BK211.out | ((try rw [← Nbq13.out]);exact BK211.out) | (have hb_:=BK211.out;(try rw [← Nbq13.out] at hb_);exact hb_)⟩,⟨by repeat (first | (with_reducible first | exact HB.out | apply below_alloc | apply pw_below_drewN | apply below_drew1 | refine below_set ?_ GE192.out | refine below_set ?_ GE211.out) | exact HB.out)⟩⟩
           case rest =>
            clear HC70
            obtain ⟨kq,x7_69,x13_69,rfl,HA,HJ69,HO_7,HO_10,HO_11,BK192,BK211,HB⟩:=hcut
            have hl7_69:=(Kd.R_reads' HO_7.out).1
            rw [hl7_69] at HO_7
            (try simp only [hl7_69])
            (try simp only [hl7_69] at BK192)
            (try simp only [hl7_69] at BK211)
            (try simp only [hl7_69] at HO_10)
            (try simp only [hl7_69] at HO_11)
            cases kq with
            | zero => exact absurd HA.out (by simp [beaconref08_dists.j5])
            | succ kj69 =>
             have H:=HA.out
             clear HA
             simp only [beaconref08_dists.j5] at H
             by_cases c76:0 ≤ (rd x11_2 x14_4)
             rotate_left
             ·rw [if_neg c76] at H
              exact absurd H (by simp)
             rw [if_pos c76] at H
             have c76b0:decide (0 ≤ (rd x11_2 x14_4)) = true:=decide_eq_true c76
             clear c76
             by_cases c77:(rd x11_2 x14_4) < (x7_69.length:Int)
             rotate_left
             ·rw [if_neg c77] at H
              exact absurd H (by simp)
             rw [if_pos c77] at H
             have c77b0:decide ((rd x11_2 x14_4) < (x7_69.length:Int)) = true:=decide_eq_true c77
             clear c77
             replace H:=Option.bind_eq_some_iff.mp H
             obtain ⟨t221,A780,H⟩:=H
             replace H:(if 0 ≤ (rd x10_2 x14_4) then (if (rd x10_2 x14_4) < (x7_69.length:Int) then (if (FloatKind.f64.format.order t221 (rdOf (0:Nat) x7_69 (rd x10_2 x14_4)) == some .lt) = true then (beaconref08_dists.l3 kj69 a1 (x7_69.set ((rd x10_2 x14_4):Int).toNat t221) x10_2 x11_2 true (wrap64 (x14_4 + 1)) l0_0 l0_1) else (beaconref08_dists.l3 kj69 a1 x7_69 x10_2 x11_2 x13_69 (wrap64 (x14_4 + 1)) l0_0 l0_1)) else (none)) else (none)) = some r:=H
             have A78:=Aside0.mk A780
             clear A780
             by_cases c79:0 ≤ (rd x10_2 x14_4)
             rotate_left
             ·rw [if_neg c79] at H
              exact absurd H (by simp)
             rw [if_pos c79] at H
             have c79b0:decide (0 ≤ (rd x10_2 x14_4)) = true:=decide_eq_true c79
             clear c79
             by_cases c80:(rd x10_2 x14_4) < (x7_69.length:Int)
             rotate_left
             ·rw [if_neg c80] at H
              exact absurd H (by simp)
             rw [if_pos c80] at H
             have c80b0:decide ((rd x10_2 x14_4) < (x7_69.length:Int)) = true:=decide_eq_true c80
             clear c80
             by_cases c81:(FloatKind.f64.format.order t221 (rdOf (0:Nat) x7_69 (rd x10_2 x14_4)) == some .lt) = true
             ·rw [if_pos c81] at H
              have c81b0:(FloatKind.f64.format.order t221 (rdOf (0:Nat) x7_69 (rd x10_2 x14_4)) == some .lt) = true:=c81
              (try (have c81b1:decide (FloatKind.f64.format.order t221 (rdOf (0:Nat) x7_69 (rd x10_2 x14_4)) = some .lt) = true:=by simpa using c81))
              (try (have c81b2:(FloatKind.f64.format.order t221 (rdOf (0:Nat) x7_69 (rd x10_2 x14_4)) == some .lt) = true:=by simpa using c81))
              clear c81
              obtain ⟨y223,hy223⟩:∃ y_:List Nat,y_ = (x7_69.set ((rd x10_2 x14_4):Int).toNat t221):=⟨_,rfl⟩
              replace H:(beaconref08_dists.l3 kj69 a1 y223 x10_2 x11_2 true (wrap64 (x14_4 + 1)) l0_0 l0_1) = some r:=by first | (rw [hy223];with_reducible exact H) | (have H2_:=(Option.bind_some _ _).symm.trans H;rw [hy223];with_reducible exact H2_) | (have H2_:=(Option.bind_some _ _).symm.trans H;with_reducible exact H2_) | with_reducible exact H | (rw [hy223];exact H) | exact H
              have Ny223:=Aside0.mk hy223
              clear hy223
              have H':=Aside0.mk H
              clear H
              try go_wp2
              have n0_:=Aside0.mk (Kd.R_drew HO_7.out)
              have n1_:=Aside0.mk (Kd.R_drew HO_10.out)
              have n2_:=Aside0.mk (Kd.R_drew HO_11.out)
              have n3_:=Aside0.mk (blk_drew BK192.out)
              have n4_:=Aside0.mk (blk_drew BK211.out)
              have n5_:=Aside0.mk (below_drew1 HB.out)
              clear HO_7
              clear HO_10
              clear HO_11
              clear BK192
              clear BK211
              clear HB
              have HO_7:=n0_
              have HO_10:=n1_
              have HO_11:=n2_
              have BK192:=n3_
              have BK211:=n4_
              have HB:=n5_
              clear n0_ n1_ n2_ n3_ n4_ n5_
              have p220:0 ≤ ((rd x11_2 x14_4):Int):=of_decide_eq_true (by first | (with_reducible assumption) | assumption)
              have q220:(rd x11_2 x14_4) < (x7_69.length:Int):=of_decide_eq_true (by first | (with_reducible assumption) | assumption)
              obtain ⟨ad220,e220,hx220_0⟩:=Kd.at_float (Kd.R_reads' HO_7.out).2.2 (rd x11_2 x14_4) p220 q220
              obtain rfl:(⟨go16,0,none⟩:Addr) = ad220:=(by injection e220)
              (first | simp only [add_plain] at hx220_0 | simp only [add_at] at hx220_0 | simp only [Addr.add,Nat.zero_add] at hx220_0 | skip)
              replace p220:=eq_true p220
              replace q220:=eq_true q220
              refine start_ (n:=9) (S:=fun w' => w'.cell? ⟨gb211,0,none⟩ = some (.int .i64 ((rd_T74 l0_1 x14_4).f0)) ∧ w'.cell? ⟨gb211,1,none⟩ = some (.int .i64 ((rd_T74 l0_1 x14_4).f1)) ∧ w'.cell? ⟨gb211,2,none⟩ = some (.float .f64 ((rd_T74 l0_1 x14_4).f2)) ∧ w'.cell? ⟨gb211,3,none⟩ = some (.bool ((rd_T74 l0_1 x14_4).f3)) ∧ w'.cell? ⟨go16,((rd x11_2 x14_4)).toNat,none⟩ = some (.float .f64 (rdOf (0:Nat) x7_69 (rd x11_2 x14_4)))) (ds:=[]) #[false,false,false,false,false,false,false,false,false] (by kernel_rfl) rfl rfl ⟨(blk_cell BK211.out 0).trans (by first | rfl | ((try rw [← Nbq13.out]);rfl)),(blk_cell BK211.out 1).trans (by first | rfl | ((try rw [← Nbq13.out]);rfl)),(blk_cell BK211.out 2).trans (by first | rfl | ((try rw [← Nbq13.out]);rfl)),(blk_cell BK211.out 3).trans (by first | rfl | ((try rw [← Nbq13.out]);rfl)),hx220_0⟩ (fun hHeld => ?_);refine with_tabW beaconref08_dists.tab30 beaconref08_dists.bits30 (fun HT_ HW_ => ?_)
              generalize wc.drew = w83 at HO_7 HO_10 HO_11 BK192 BK211 HB hx220_0 hHeld ⊢
              refine pure_ (i:=0) (N:=some 134) (v:=?_) (a':=?_) #[true,false,false,false,false,false,false,false,false] rfl rfl (any_of HT_.out (by kernel_rfl)) (fun _ _ _ h => h) (Or.inl ⟨by rfl,?_⟩) ?_ ?_
              rotate_left
              ·intro w'
               go_simp
               with_reducible rfl
              rotate_left
              ·simp only [Act.put,List.setIfInBounds_toArray,List.set_cons_zero,List.set_cons_succ,i64_w,i32_w]
               rfl
              refine pure_ (i:=2) (N:=some 136) (v:=?_) (a':=?_) #[true,false,true,false,false,false,false,false,false] rfl rfl (any_of HT_.out (by kernel_rfl)) (fun _ _ _ h => h) (Or.inl ⟨by rfl,?_⟩) ?_ ?_
              rotate_left
              ·intro w'
               go_simp
               with_reducible rfl
              rotate_left
              ·simp only [Act.put,List.setIfInBounds_toArray,List.set_cons_zero,List.set_cons_succ,i64_w,i32_w]
               rfl
              refine pure_ (i:=3) (N:=some 137) (v:=?_) (a':=?_) #[true,false,true,true,false,false,false,false,false] rfl rfl (any_of HT_.out (by kernel_rfl)) (fun _ _ _ h => h) (Or.inl ⟨by rfl,?_⟩) ?_ ?_
              rotate_left
              ·intro w'
               go_simp
               with_reducible rfl
              rotate_left
              ·simp only [Act.put,List.setIfInBounds_toArray,List.set_cons_zero,List.set_cons_succ,i64_w,i32_w]
               rfl
              refine pure_ (i:=4) (N:=some 138) (v:=?_) (a':=?_) #[true,false,true,true,true,false,false,false,false] rfl rfl (any_of HT_.out (by kernel_rfl)) (fun _ _ _ h => h) (Or.inl ⟨by rfl,?_⟩) ?_ ?_
              rotate_left
              ·intro w'
               go_simp
               with_reducible rfl
              rotate_left
              ·simp only [Act.put,List.setIfInBounds_toArray,List.set_cons_zero,List.set_cons_succ,i64_w,i32_w]
               rfl
              refine pure_ (i:=6) (N:=some 140) (v:=?_) (a':=?_) #[true,false,true,true,true,false,true,false,false] rfl rfl (any_of HT_.out (by kernel_rfl)) (fun _ _ _ h => h) (Or.inl ⟨by rfl,?_⟩) ?_ ?_
              rotate_left
              ·intro w'
               go_simp
               with_reducible rfl
              rotate_left
              ·simp only [Act.put,List.setIfInBounds_toArray,List.set_cons_zero,List.set_cons_succ,i64_w,i32_w]
               rfl
              refine take_ (i:=1) (N:=some 135) (v:=?_) (a':=?_) #[true,true,true,true,true,false,true,false,false] rfl rfl (take_ofW HT_.out HW_.out (by kernel_rfl)) (fun _ _ _ h => h) (Or.inl ⟨by rfl,?_⟩) hHeld ?_ ?_
              rotate_left
              ·rintro w' ⟨s0,s1,s2,s3,s4⟩
               go_simp
               with_reducible rfl
              rotate_left
              ·simp only [Act.put,List.setIfInBounds_toArray,List.set_cons_zero,List.set_cons_succ,i64_w,i32_w]
               rfl
              refine take_ (i:=5) (N:=some 139) (v:=?_) (a':=?_) #[true,true,true,true,true,true,true,false,false] rfl rfl (take_ofW HT_.out HW_.out (by kernel_rfl)) (fun _ _ _ h => h) (Or.inl ⟨by rfl,?_⟩) hHeld ?_ ?_
              rotate_left
              ·rintro w' ⟨s0,s1,s2,s3,s4⟩
               go_simp
               with_reducible rfl
              rotate_left
              ·simp only [Act.put,List.setIfInBounds_toArray,List.set_cons_zero,List.set_cons_succ,i64_w,i32_w]
               rfl
              refine one_ (i:=7) (N:=some 141) #[true,true,true,true,true,true,true,true,false] rfl rfl (one_of HT_.out (by kernel_rfl)) (by decide) (fun K hK => ?_)
              refine goes_ Try.func54 (by kernel_rfl) rfl #[.float .f64 ((rd_T74 l0_1 x14_4).f2),.float .f64 (rdOf (0:Nat) x7_69 (rd x11_2 x14_4)),.float .f64 a1] (by rfl) rfl rfl (by (try simp only [List.map_toArray,List.map_cons,List.map_nil]);first | done | rfl | (simp only [List.length_drop,List.length_take];rfl)) ?_
              with_reducible refine (beaconref01_Add.calls ((rd_T74 l0_1 x14_4).f2) (rdOf (0:Nat) x7_69 (rd x11_2 x14_4)) a1 t221 _ A78.out).mono ?_
              rintro e w' ⟨rfl,⟨nd,rfl⟩⟩
              refine ⟨_,rfl,?_⟩
              refine hK.out _ _ ⟨(blk_cell BK211.out 0).trans (by first | rfl | ((try rw [← Nbq13.out]);rfl)),(blk_cell BK211.out 1).trans (by first | rfl | ((try rw [← Nbq13.out]);rfl)),(blk_cell BK211.out 2).trans (by first | rfl | ((try rw [← Nbq13.out]);rfl)),(blk_cell BK211.out 3).trans (by first | rfl | ((try rw [← Nbq13.out]);rfl)),hHeld.2.2.2.2⟩ (fun hHeld => ?_)
              clear hK K
              refine norm_ (a':=?_) ?_ ?_
              rotate_left
              ·show Act.put _ (some 141) _ = _
               simp only [Act.put,List.setIfInBounds_toArray,List.set_cons_zero,List.set_cons_succ,i64_w,i32_w]
               rfl
              refine pure_ (i:=8) (N:=some 19) (v:=?_) (a':=?_) #[true,true,true,true,true,true,true,true,true] rfl rfl (any_of HT_.out (by kernel_rfl)) (fun _ _ _ h => h) (Or.inl ⟨by rfl,?_⟩) ?_ ?_
              rotate_left
              ·intro w'
               go_simp
               with_reducible rfl
              rotate_left
              ·simp only [Act.put,List.setIfInBounds_toArray,List.set_cons_zero,List.set_cons_succ,i64_w,i32_w]
               rfl
              refine done_ (done_of HT_.out (by kernel_rfl)) ?_
              (try (rw [drewN_self w83];generalize hq_:World.drewN w83 _ = w83;have n0_:Aside0 (Kd.R (Kd.int .i64) 3 w83 w.heap.size (fun k_ => some k_ ≠ (.slice (some ad213) x11_2.length co47:Value).ownBlock) (.slice (some ad212) x10_2.length co46) x10_2):=⟨by rw [← hq_];exact (by (with_reducible repeat (first | apply Kd.R_alloc | apply Kd.R_drewN | apply Kd.R_drew));exact HO_10.out)⟩;have n1_:Aside0 (Kd.R (Kd.int .i64) 3 w83 w.heap.size (fun k_ => some k_ ≠ (.slice (some ad212) x10_2.length co46:Value).ownBlock) (.slice (some ad213) x11_2.length co47) x11_2):=⟨by rw [← hq_];exact (by (with_reducible repeat (first | apply Kd.R_alloc | apply Kd.R_drewN | apply Kd.R_drew));exact HO_11.out)⟩;have n2_:Aside0 (Kd.R Kd.float 26 w83 w.heap.size (fun _ => True) (.slice (some ⟨go16,0,none⟩) x7_69.length co16) x7_69):=⟨by rw [← hq_];exact (by (with_reducible repeat (first | apply Kd.R_alloc | apply Kd.R_drewN | apply Kd.R_drew));exact HO_7.out)⟩;have n3_:Aside0 (w83.heap[gb192]? = some (.cells #[.slice (some ad198) l0_0.length c0_0,.slice (some ad210) l0_1.length c0_1] 25 (0,0))):=⟨by rw [← hq_];exact (by (with_reducible repeat (first | refine blk_drewN ?_ _ | refine blk_drew ?_ | refine blk_alloc ?_ _));first | exact BK192.out | ((try rw [← Nbq13.out]);exact BK192.out) | (have hb_:=BK192.out;(try rw [← Nbq13.out] at hb_);exact hb_))⟩;have n4_:Aside0 (w83.heap[gb211]? = some (.cells #[.int .i64 ((rd_T74 l0_1 x14_4).f0),.int .i64 ((rd_T74 l0_1 x14_4).f1),.float .f64 ((rd_T74 l0_1 x14_4).f2),.bool ((rd_T74 l0_1 x14_4).f3)] 74 (0,0))):=⟨by rw [← hq_];exact (by (with_reducible repeat (first | refine blk_drewN ?_ _ | refine blk_drew ?_ | refine blk_alloc ?_ _));first | exact BK211.out | ((try rw [← Nbq13.out]);exact BK211.out) | (have hb_:=BK211.out;(try rw [← Nbq13.out] at hb_);exact hb_))⟩;have n5_:Aside0 (Below w.heap.size w w83):=⟨by rw [← hq_];exact (by repeat (first | (with_reducible first | exact HB.out | apply below_alloc | apply pw_below_drewN | apply below_drew1 | refine below_set ?_ GE192.out | refine below_set ?_ GE211.out) | exact HB.out))⟩;clear HO_10 HO_11 HO_7 BK192 BK211 HB hq_;have HO_10:=n0_;have HO_11:=n1_;have HO_7:=n2_;have BK192:=n3_;have BK211:=n4_;have HB:=n5_;clear n0_ n1_ n2_ n3_ n4_ n5_))
              have p222:0 ≤ ((rd x10_2 x14_4):Int):=of_decide_eq_true (by first | (with_reducible assumption) | assumption)
              have q222:(rd x10_2 x14_4) < (x7_69.length:Int):=of_decide_eq_true (by first | (with_reducible assumption) | assumption)
              obtain ⟨ad222,e222,hx222_0⟩:=Kd.at_float (Kd.R_reads' HO_7.out).2.2 (rd x10_2 x14_4) p222 q222
              obtain rfl:(⟨go16,0,none⟩:Addr) = ad222:=(by injection e222)
              (first | simp only [add_plain] at hx222_0 | simp only [add_at] at hx222_0 | simp only [Addr.add,Nat.zero_add] at hx222_0 | skip)
              replace p222:=eq_true p222
              replace q222:=eq_true q222
              have p82:0 ≤ ((rd x10_2 x14_4):Int):=of_decide_eq_true (by first | (with_reducible assumption) | assumption)
              have q82:((rd x10_2 x14_4):Int) < ((x7_69.length:Int):Int):=of_decide_eq_true (by first | (with_reducible assumption) | assumption)
              obtain ⟨hx82_0,hf82_0⟩:=Kd.R_celln (0:Nat) HO_7.out ((rd x10_2 x14_4):Int) p82 q82
              replace p82:=eq_true p82
              replace q82:=eq_true q82
              obtain ⟨hy84_,hz84_⟩:=Kd.R_celln (0:Nat) HO_7.out ((rd x10_2 x14_4):Int) (of_decide_eq_true (by first | (with_reducible assumption) | assumption)) (of_decide_eq_true (by first | (with_reducible assumption) | assumption))
              have HP84:=Kd.R_putg HO_7.out ((rd x10_2 x14_4):Int) t221
              try go_wp2_with (first | ((with_reducible refine gate_store (t:=26) (p:=151) rfl ?_);refine store_event (t:=26) (p:=151) (v:=?vo_w85) (w1:=(w83.setCell ⟨go16,((rd x10_2 x14_4):Int).toNat,none⟩ (.float .f64 t221))) ?hg ?ho ?hn ?hr ?_;(case ho => rfl);(case hg => rfl);(case hn => rfl);(case hr => first | (go_simp;done) | (go_simp;rfl));intro w85 hw;have hg:w83.grownBy w85 (some go16):=(by rw [hw];exact HP84.2);have hp_:Kd.R Kd.float 26 w85 w.heap.size (fun _ => True) (.slice (some ⟨go16,0,none⟩) x7_69.length co16) y223:=(by rw [hw,Ny223.out];exact HP84.1);clear HP84;have n0_:=Aside0.mk (hp_);have n1_:=Aside0.mk (Kd.R_over' (v:=(.slice (some ⟨go16,0,none⟩) x7_69.length co16)) (by (with_reducible repeat (first | apply Kd.R_alloc | apply Kd.R_drewN | apply Kd.R_drew));exact HO_10.out) (Kd.R_typed HO_7.out) (by decide) hg);have n2_:=Aside0.mk (Kd.R_over' (v:=(.slice (some ⟨go16,0,none⟩) x7_69.length co16)) (by (with_reducible repeat (first | apply Kd.R_alloc | apply Kd.R_drewN | apply Kd.R_drew));exact HO_11.out) (Kd.R_typed HO_7.out) (by decide) hg);have n3_:=Aside0.mk (blk_grown (g:=gb192) (o:=.cells #[.slice (some ad198) l0_0.length c0_0,.slice (some ad210) l0_1.length c0_1] 25 (0,0)) (by (with_reducible repeat (first | refine blk_drewN ?_ _ | refine blk_drew ?_ | refine blk_alloc ?_ _));first | exact BK192.out | ((try rw [← Nbq13.out]);exact BK192.out) | (have hb_:=BK192.out;(try rw [← Nbq13.out] at hb_);exact hb_)) hg (Kd.R_ne HO_7.out BK192.out (by decide)));have n4_:=Aside0.mk (blk_grown (g:=gb211) (o:=.cells #[.int .i64 ((rd_T74 l0_1 x14_4).f0),.int .i64 ((rd_T74 l0_1 x14_4).f1),.float .f64 ((rd_T74 l0_1 x14_4).f2),.bool ((rd_T74 l0_1 x14_4).f3)] 74 (0,0)) (by (with_reducible repeat (first | refine blk_drewN ?_ _ | refine blk_drew ?_ | refine blk_alloc ?_ _));first | exact BK211.out | ((try rw [← Nbq13.out]);exact BK211.out) | (have hb_:=BK211.out;(try rw [← Nbq13.out] at hb_);exact hb_)) hg (Kd.R_ne HO_7.out BK211.out (by decide)));have n5_:=Aside0.mk ((by rw [hw];exact below_set (HB.out) GB16.out:Below w.heap.size w w85));clear HO_7;clear HO_10;clear HO_11;clear BK192;clear BK211;clear HB;have HO_7:=n0_;have HO_10:=n1_;have HO_11:=n2_;have BK192:=n3_;have BK211:=n4_;have HB:=n5_;clear n0_ n1_ n2_ n3_ n4_ n5_;clear hg hw hp_))
              (try simp only [← hl7_4,← hl7_69])
              go_roundg kj69
              case measure => have:=HK1.out;have:=HK2.out;have:=HK3.out;have:=HK4.out;have:=HJ40.out;have:=HJ69.out;omega
              case rel => (try rw [← Nbq13.out]);exact ⟨(y223),(true),(wrap64 (x14_4 + 1)),(by first | rfl | (simp;done) | (simp [*];done)),(by first | rfl | (simp;done) | (simp [*];done)),H',⟨by have:=HK1.out;have:=HK2.out;have:=HK3.out;have:=HK4.out;have:=HJ40.out;have:=HJ69.out;omega⟩,⟨by (try simp only [hl7_2]);(try simp only [hl7_3]);(try simp only [hl7_4]);(try simp only [hl7_69]);(with_reducible repeat (first | apply Kd.R_alloc | apply Kd.R_drewN | apply Kd.R_drew));exact HO_7.out⟩,⟨by (try simp only [hl7_2]);(try simp only [hl7_3]);(try simp only [hl7_4]);(try simp only [hl7_69]);(with_reducible repeat (first | apply Kd.R_alloc | apply Kd.R_drewN | apply Kd.R_drew));exact HO_10.out⟩,⟨by (try simp only [hl7_2]);(try simp only [hl7_3]);(try simp only [hl7_4]);(try simp only [hl7_69]);(with_reducible repeat (first | apply Kd.R_alloc | apply Kd.R_drewN | apply Kd.R_drew));exact HO_11.out⟩,⟨by (try simp only [hl7_2]);(try simp only [hl7_3]);(try simp only [hl7_4]);(try simp only [hl7_69]);(with_reducible repeat (first | refine blk_drewN ?_ _ | refine blk_drew ?_ | refine blk_alloc ?_ _));first | exact BK192.out | ((try rw [← Nbq13.out]);exact BK192.out) | (have hb_:=BK192.out;(try rw [← Nbq13.out] at hb_);exact hb_)⟩,⟨by repeat (first | (with_reducible first | exact HB.out | apply below_alloc | apply pw_below_drewN | apply below_drew1 | refine below_set ?_ GE192.out | refine below_set ?_ GE211.out) | exact HB.out)⟩⟩
             rw [if_neg c81] at H
             have c81b0:(FloatKind.f64.format.order t221 (rdOf (0:Nat) x7_69 (rd x10_2 x14_4)) == some .lt) = false:=by simpa using c81
             (try (have c81b1:decide (FloatKind.f64.format.order t221 (rdOf (0:Nat) x7_69 (rd x10_2 x14_4)) = some .lt) = false:=by simpa using c81))
             (try (have c81b2:(FloatKind.f64.format.order t221 (rdOf (0:Nat) x7_69 (rd x10_2 x14_4)) == some .lt) = false:=by simpa using c81))
             (try (have c81b3:¬ (FloatKind.f64.format.order t221 (rdOf (0:Nat) x7_69 (rd x10_2 x14_4)) = some .lt):=by simpa using c81))
             clear c81
             have H':=Aside0.mk H
             clear H
             try go_wp2
             have n0_:=Aside0.mk (Kd.R_drew HO_7.out)
             have n1_:=Aside0.mk (Kd.R_drew HO_10.out)
             have n2_:=Aside0.mk (Kd.R_drew HO_11.out)
             have n3_:=Aside0.mk (blk_drew BK192.out)
             have n4_:=Aside0.mk (blk_drew BK211.out)
             have n5_:=Aside0.mk (below_drew1 HB.out)
             clear HO_7
             clear HO_10
             clear HO_11
             clear BK192
             clear BK211
             clear HB
             have HO_7:=n0_
             have HO_10:=n1_
             have HO_11:=n2_
             have BK192:=n3_
             have BK211:=n4_
             have HB:=n5_
             clear n0_ n1_ n2_ n3_ n4_ n5_
             have p220:0 ≤ ((rd x11_2 x14_4):Int):=of_decide_eq_true (by first | (with_reducible assumption) | assumption)
             have q220:(rd x11_2 x14_4) < (x7_69.length:Int):=of_decide_eq_true (by first | (with_reducible assumption) | assumption)
             obtain ⟨ad220,e220,hx220_0⟩:=Kd.at_float (Kd.R_reads' HO_7.out).2.2 (rd x11_2 x14_4) p220 q220
             obtain rfl:(⟨go16,0,none⟩:Addr) = ad220:=(by injection e220)
             (first | simp only [add_plain] at hx220_0 | simp only [add_at] at hx220_0 | simp only [Addr.add,Nat.zero_add] at hx220_0 | skip)
             replace p220:=eq_true p220
             replace q220:=eq_true q220
             refine start_ (n:=9) (S:=fun w' => w'.cell? ⟨gb211,0,none⟩ = some (.int .i64 ((rd_T74 l0_1 x14_4).f0)) ∧ w'.cell? ⟨gb211,1,none⟩ = some (.int .i64 ((rd_T74 l0_1 x14_4).f1)) ∧ w'.cell? ⟨gb211,2,none⟩ = some (.float .f64 ((rd_T74 l0_1 x14_4).f2)) ∧ w'.cell? ⟨gb211,3,none⟩ = some (.bool ((rd_T74 l0_1 x14_4).f3)) ∧ w'.cell? ⟨go16,((rd x11_2 x14_4)).toNat,none⟩ = some (.float .f64 (rdOf (0:Nat) x7_69 (rd x11_2 x14_4)))) (ds:=[]) #[false,false,false,false,false,false,false,false,false] (by kernel_rfl) rfl rfl ⟨(blk_cell BK211.out 0).trans (by first | rfl | ((try rw [← Nbq13.out]);rfl)),(blk_cell BK211.out 1).trans (by first | rfl | ((try rw [← Nbq13.out]);rfl)),(blk_cell BK211.out 2).trans (by first | rfl | ((try rw [← Nbq13.out]);rfl)),(blk_cell BK211.out 3).trans (by first | rfl | ((try rw [← Nbq13.out]);rfl)),hx220_0⟩ (fun hHeld => ?_);refine with_tabW beaconref08_dists.tab30 beaconref08_dists.bits30 (fun HT_ HW_ => ?_)
             generalize wc.drew = w86 at HO_7 HO_10 HO_11 BK192 BK211 HB hx220_0 hHeld ⊢
             refine pure_ (i:=0) (N:=some 134) (v:=?_) (a':=?_) #[true,false,false,false,false,false,false,false,false] rfl rfl (any_of HT_.out (by kernel_rfl)) (fun _ _ _ h => h) (Or.inl ⟨by rfl,?_⟩) ?_ ?_
             rotate_left
             ·intro w'
              go_simp
              with_reducible rfl
             rotate_left
             ·simp only [Act.put,List.setIfInBounds_toArray,List.set_cons_zero,List.set_cons_succ,i64_w,i32_w]
              rfl
             refine pure_ (i:=2) (N:=some 136) (v:=?_) (a':=?_) #[true,false,true,false,false,false,false,false,false] rfl rfl (any_of HT_.out (by kernel_rfl)) (fun _ _ _ h => h) (Or.inl ⟨by rfl,?_⟩) ?_ ?_
             rotate_left
             ·intro w'
              go_simp
              with_reducible rfl
             rotate_left
             ·simp only [Act.put,List.setIfInBounds_toArray,List.set_cons_zero,List.set_cons_succ,i64_w,i32_w]
              rfl
             refine pure_ (i:=3) (N:=some 137) (v:=?_) (a':=?_) #[true,false,true,true,false,false,false,false,false] rfl rfl (any_of HT_.out (by kernel_rfl)) (fun _ _ _ h => h) (Or.inl ⟨by rfl,?_⟩) ?_ ?_
             rotate_left
             ·intro w'
              go_simp
              with_reducible rfl
             rotate_left
             ·simp only [Act.put,List.setIfInBounds_toArray,List.set_cons_zero,List.set_cons_succ,i64_w,i32_w]
              rfl
             refine pure_ (i:=4) (N:=some 138) (v:=?_) (a':=?_) #[true,false,true,true,true,false,false,false,false] rfl rfl (any_of HT_.out (by kernel_rfl)) (fun _ _ _ h => h) (Or.inl ⟨by rfl,?_⟩) ?_ ?_
             rotate_left
             ·intro w'
              go_simp
              with_reducible rfl
             rotate_left
             ·simp only [Act.put,List.setIfInBounds_toArray,List.set_cons_zero,List.set_cons_succ,i64_w,i32_w]
              rfl
             refine pure_ (i:=6) (N:=some 140) (v:=?_) (a':=?_) #[true,false,true,true,true,false,true,false,false] rfl rfl (any_of HT_.out (by kernel_rfl)) (fun _ _ _ h => h) (Or.inl ⟨by rfl,?_⟩) ?_ ?_
             rotate_left
             ·intro w'
              go_simp
              with_reducible rfl
             rotate_left
             ·simp only [Act.put,List.setIfInBounds_toArray,List.set_cons_zero,List.set_cons_succ,i64_w,i32_w]
              rfl
             refine take_ (i:=1) (N:=some 135) (v:=?_) (a':=?_) #[true,true,true,true,true,false,true,false,false] rfl rfl (take_ofW HT_.out HW_.out (by kernel_rfl)) (fun _ _ _ h => h) (Or.inl ⟨by rfl,?_⟩) hHeld ?_ ?_
             rotate_left
             ·rintro w' ⟨s0,s1,s2,s3,s4⟩
              go_simp
              with_reducible rfl
             rotate_left
             ·simp only [Act.put,List.setIfInBounds_toArray,List.set_cons_zero,List.set_cons_succ,i64_w,i32_w]
              rfl
             refine take_ (i:=5) (N:=some 139) (v:=?_) (a':=?_) #[true,true,true,true,true,true,true,false,false] rfl rfl (take_ofW HT_.out HW_.out (by kernel_rfl)) (fun _ _ _ h => h) (Or.inl ⟨by rfl,?_⟩) hHeld ?_ ?_
             rotate_left
             ·rintro w' ⟨s0,s1,s2,s3,s4⟩
              go_simp
              with_reducible rfl
             rotate_left
             ·simp only [Act.put,List.setIfInBounds_toArray,List.set_cons_zero,List.set_cons_succ,i64_w,i32_w]
              rfl
             refine one_ (i:=7) (N:=some 141) #[true,true,true,true,true,true,true,true,false] rfl rfl (one_of HT_.out (by kernel_rfl)) (by decide) (fun K hK => ?_)
             refine goes_ Try.func54 (by kernel_rfl) rfl #[.float .f64 ((rd_T74 l0_1 x14_4).f2),.float .f64 (rdOf (0:Nat) x7_69 (rd x11_2 x14_4)),.float .f64 a1] (by rfl) rfl rfl (by (try simp only [List.map_toArray,List.map_cons,List.map_nil]);first | done | rfl | (simp only [List.length_drop,List.length_take];rfl)) ?_
             with_reducible refine (beaconref01_Add.calls ((rd_T74 l0_1 x14_4).f2) (rdOf (0:Nat) x7_69 (rd x11_2 x14_4)) a1 t221 _ A78.out).mono ?_
             rintro e w' ⟨rfl,⟨nd,rfl⟩⟩
             refine ⟨_,rfl,?_⟩
             refine hK.out _ _ ⟨(blk_cell BK211.out 0).trans (by first | rfl | ((try rw [← Nbq13.out]);rfl)),(blk_cell BK211.out 1).trans (by first | rfl | ((try rw [← Nbq13.out]);rfl)),(blk_cell BK211.out 2).trans (by first | rfl | ((try rw [← Nbq13.out]);rfl)),(blk_cell BK211.out 3).trans (by first | rfl | ((try rw [← Nbq13.out]);rfl)),hHeld.2.2.2.2⟩ (fun hHeld => ?_)
             clear hK K
             refine norm_ (a':=?_) ?_ ?_
             rotate_left
             ·show Act.put _ (some 141) _ = _
              simp only [Act.put,List.setIfInBounds_toArray,List.set_cons_zero,List.set_cons_succ,i64_w,i32_w]
              rfl
             refine pure_ (i:=8) (N:=some 19) (v:=?_) (a':=?_) #[true,true,true,true,true,true,true,true,true] rfl rfl (any_of HT_.out (by kernel_rfl)) (fun _ _ _ h => h) (Or.inl ⟨by rfl,?_⟩) ?_ ?_
             rotate_left
             ·intro w'
              go_simp
              with_reducible rfl
             rotate_left
             ·simp only [Act.put,List.setIfInBounds_toArray,List.set_cons_zero,List.set_cons_succ,i64_w,i32_w]
              rfl
             refine done_ (done_of HT_.out (by kernel_rfl)) ?_
             have p222:0 ≤ ((rd x10_2 x14_4):Int):=of_decide_eq_true (by first | (with_reducible assumption) | assumption)
             have q222:(rd x10_2 x14_4) < (x7_69.length:Int):=of_decide_eq_true (by first | (with_reducible assumption) | assumption)
             obtain ⟨ad222,e222,hx222_0⟩:=Kd.at_float (Kd.R_reads' HO_7.out).2.2 (rd x10_2 x14_4) p222 q222
             obtain rfl:(⟨go16,0,none⟩:Addr) = ad222:=(by injection e222)
             (first | simp only [add_plain] at hx222_0 | simp only [add_at] at hx222_0 | simp only [Addr.add,Nat.zero_add] at hx222_0 | skip)
             replace p222:=eq_true p222
             replace q222:=eq_true q222
             try go_wp2
             (try simp only [← hl7_4,← hl7_69])
             go_roundg kj69
             case measure => have:=HK1.out;have:=HK2.out;have:=HK3.out;have:=HK4.out;have:=HJ40.out;have:=HJ69.out;omega
             case rel => (try rw [← Nbq13.out]);exact ⟨(x7_69),(x13_69),(wrap64 (x14_4 + 1)),(by first | rfl | (simp;done) | (simp [*];done)),(by first | rfl | (simp;done) | (simp [*];done)),H',⟨by have:=HK1.out;have:=HK2.out;have:=HK3.out;have:=HK4.out;have:=HJ40.out;have:=HJ69.out;omega⟩,⟨by (try simp only [hl7_2]);(try simp only [hl7_3]);(try simp only [hl7_4]);(try simp only [hl7_69]);(with_reducible repeat (first | apply Kd.R_alloc | apply Kd.R_drewN | apply Kd.R_drew));exact HO_7.out⟩,⟨by (try simp only [hl7_2]);(try simp only [hl7_3]);(try simp only [hl7_4]);(try simp only [hl7_69]);(with_reducible repeat (first | apply Kd.R_alloc | apply Kd.R_drewN | apply Kd.R_drew));exact HO_10.out⟩,⟨by (try simp only [hl7_2]);(try simp only [hl7_3]);(try simp only [hl7_4]);(try simp only [hl7_69]);(with_reducible repeat (first | apply Kd.R_alloc | apply Kd.R_drewN | apply Kd.R_drew));exact HO_11.out⟩,⟨by (try simp only [hl7_2]);(try simp only [hl7_3]);(try simp only [hl7_4]);(try simp only [hl7_69]);(with_reducible repeat (first | refine blk_drewN ?_ _ | refine blk_drew ?_ | refine blk_alloc ?_ _));first | exact BK192.out | ((try rw [← Nbq13.out]);exact BK192.out) | (have hb_:=BK192.out;(try rw [← Nbq13.out] at hb_);exact hb_)⟩,⟨by repeat (first | (with_reducible first | exact HB.out | apply below_alloc | apply pw_below_drewN | apply below_drew1 | refine below_set ?_ GE192.out | refine below_set ?_ GE211.out) | exact HB.out)⟩⟩
end Go.Proofs.Ytmdkcecbklgihaa.PA
