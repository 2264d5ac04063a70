/- Printed by a program of this session (wip/tools/patch_print.py and pr.py, over the kit's print): each Go function as a plain Lean function, and that the Go code comes to just its answers. Conditions: those that each theorem names. -/
import Derived.Test.YtjcnmpkaiopihaaZbMn
import Derived.Test.YtjcnmpkaiopihaaZbPAz
import Derived.Test.YtjcnmpkaiopihaaZbPAx5
import Derived.Test.YtjcnmpkaiopihaaZbPAx6
import Derived.Test.YtjcnmpkaiopihaaZbPAx26
import Derived.Test.YtjcnmpkaiopihaaZbHd
namespace Go.Proofs.Ytjcnmpkaiopihaa.PA
open Go.RowKit Go.Proofs.YtjcnmpkaiopihaaW.PrintWords Go.Proofs.YtjcnmpkaiopihaaW.PrintLast Go.Proofs.YtjcnmpkaiopihaaW.PrintMore
attribute [local go_sem] max2_int min2_int max_two min_two max_three min_three max_four min_four
set_option linter.unusedVariables false
set_option linter.unusedSimpArgs false
mutual
def beaconref16_Balls.j0:Nat → Int → List (S54) → Nat → Int → Option ((List (S58)) × Int)
 | 0,_,_,_,_ => none
 | k + 1,x0,x1,x2,x8 => if x8 = 0 then (beaconref16_Balls.l0 k x0 x1 x2 ([]:List (S58)) 0) else (some (([]:List (S58)),x8))
def beaconref16_Balls.l0:Nat → Int → List (S54) → Nat → List (S58) → Int → Option ((List (S58)) × Int)
 | 0,_,_,_,_,_ => none
 | k + 1,x0,x1,x2,x9,x10 => if x10 < (x1.length:Int) then (beaconref16_Balls.l1 k x0 x1 x2 x9 x10 0) else (beaconref16_Balls.l3 k x9 0)
def beaconref16_Balls.l1:Nat → Int → List (S54) → Nat → List (S58) → Int → Int → Option ((List (S58)) × Int)
 | 0,_,_,_,_,_,_ => none
 | k + 1,x0,x1,x2,x9,x10,x11 => if 0 ≤ x10 then (if x10 < (x1.length:Int) then (if x11 < (((rd_T54 x1 x10).f2).length:Int) then (if 0 ≤ x11 then ((beaconref16_counted.f x0 ((rd_T54 x1 x10).f0) ((rd_T54 x1 x10).f1) ((rd_T54 x1 x10).f2) ((rd_T56 ((rd_T54 x1 x10).f2) x11).f0) ((rd_T56 ((rd_T54 x1 x10).f2) x11).f1) ((rd_T56 ((rd_T54 x1 x10).f2) x11).f2) ((rd_T56 ((rd_T54 x1 x10).f2) x11).f3) ((rd_T56 ((rd_T54 x1 x10).f2) x11).f4) x2).bind fun bt403 => (if bt403.2.2.2.2.2.2 = true then (beaconref16_Balls.l2 k x0 x1 x2 x9 x10 x11 0 bt403.1 bt403.2.1 bt403.2.2.1 bt403.2.2.2.1 bt403.2.2.2.2.1 bt403.2.2.2.2.2.1) else (beaconref16_Balls.l1 k x0 x1 x2 x9 x10 (wrap64 (x11 + 1))))) else (none)) else (beaconref16_Balls.l0 k x0 x1 x2 x9 (wrap64 (x10 + 1)))) else (none)) else (none)
def beaconref16_Balls.j4:Nat → Int → List (S54) → Nat → List (S58) → Int → Int → Int → Int → Int → Nat → Int → Nat → Int → Option ((List (S58)) × Int)
 | 0,_,_,_,_,_,_,_,_,_,_,_,_,_ => none
 | k + 1,x0,x1,x2,x9,x10,x11,x14,x411000,x411001,x411002,x411003,x411004,x411005 => if x14 = (x9.length:Int) then (if x9.length < 2932031007402 then (beaconref16_Balls.l1 k x0 x1 x2 (x9 ++ [(⟨x411000,x411001,x411002,x411003,x411004,x411005⟩:S58)]) x10 (wrap64 (x11 + 1))) else (none)) else (if 0 ≤ x14 then (if x14 < (x9.length:Int) then (if (FloatKind.f64.format.order x411002 ((rd_T58 x9 x14).f2) == some .lt) = true then (beaconref16_Balls.l1 k x0 x1 x2 (x9.set (x14:Int).toNat (⟨x411000,x411001,x411002,x411003,x411004,x411005⟩:S58)) x10 (wrap64 (x11 + 1))) else (beaconref16_Balls.l1 k x0 x1 x2 x9 x10 (wrap64 (x11 + 1)))) else (none)) else (none))
def beaconref16_Balls.l2:Nat → Int → List (S54) → Nat → List (S58) → Int → Int → Int → Int → Int → Nat → Int → Nat → Int → Option ((List (S58)) × Int)
 | 0,_,_,_,_,_,_,_,_,_,_,_,_,_ => none
 | k + 1,x0,x1,x2,x9,x10,x11,x14,x411000,x411001,x411002,x411003,x411004,x411005 => if x14 < (x9.length:Int) then (if 0 ≤ x14 then (if ((rd_T58 x9 x14).f0) = x411000 then (beaconref16_Balls.j4 k x0 x1 x2 x9 x10 x11 x14 x411000 x411001 x411002 x411003 x411004 x411005) else (beaconref16_Balls.l2 k x0 x1 x2 x9 x10 x11 (wrap64 (x14 + 1)) x411000 x411001 x411002 x411003 x411004 x411005)) else (none)) else (beaconref16_Balls.j4 k x0 x1 x2 x9 x10 x11 x14 x411000 x411001 x411002 x411003 x411004 x411005)
def beaconref16_Balls.l3:Nat → List (S58) → Int → Option ((List (S58)) × Int)
 | 0,_,_ => none
 | k + 1,x9,x15 => if x15 < (x9.length:Int) then (beaconref16_Balls.l4 k x9 x15 x15) else (some (x9,0))
def beaconref16_Balls.l4:Nat → List (S58) → Int → Int → Option ((List (S58)) × Int)
 | 0,_,_,_ => none
 | k + 1,x9,x15,x16 => if x16 > 0 then (if 0 ≤ x16 then (if x16 < (x9.length:Int) then (if 0 ≤ (wrap64 (x16 - 1)) then (if (wrap64 (x16 - 1)) < (x9.length:Int) then ((beaconref16_ahead.f ((rd_T58 x9 x16).f0) ((rd_T58 x9 x16).f1) ((rd_T58 x9 x16).f2) ((rd_T58 x9 x16).f3) ((rd_T58 x9 x16).f4) ((rd_T58 x9 x16).f5) ((rd_T58 x9 (wrap64 (x16 - 1))).f0) ((rd_T58 x9 (wrap64 (x16 - 1))).f1) ((rd_T58 x9 (wrap64 (x16 - 1))).f2) ((rd_T58 x9 (wrap64 (x16 - 1))).f3) ((rd_T58 x9 (wrap64 (x16 - 1))).f4) ((rd_T58 x9 (wrap64 (x16 - 1))).f5)).bind fun t419 => (if t419 = true then (beaconref16_Balls.l4 k ((x9.set (x16:Int).toNat (⟨(rd_T58 x9 (wrap64 (x16 - 1))).f0,(rd_T58 x9 (wrap64 (x16 - 1))).f1,(rd_T58 x9 (wrap64 (x16 - 1))).f2,(rd_T58 x9 (wrap64 (x16 - 1))).f3,(rd_T58 x9 (wrap64 (x16 - 1))).f4,(rd_T58 x9 (wrap64 (x16 - 1))).f5⟩:S58)).set ((wrap64 (x16 - 1)):Int).toNat (⟨(rd_T58 x9 x16).f0,(rd_T58 x9 x16).f1,(rd_T58 x9 x16).f2,(rd_T58 x9 x16).f3,(rd_T58 x9 x16).f4,(rd_T58 x9 x16).f5⟩:S58)) x15 (wrap64 (x16 - 1))) else (beaconref16_Balls.l3 k x9 (wrap64 (x15 + 1))))) else (none)) else (none)) else (none)) else (none)) else (beaconref16_Balls.l3 k x9 (wrap64 (x15 + 1)))
end
def beaconref16_Balls.f (k:Nat) (a0:Int) (l1:List (S54)) (a2:Nat):Option ((List (S58)) × Int):=(beaconref15_Check.f k a0 l1).bind fun t397 => (if t397 = 0 then ((beaconref01_Limit.f a2).bind fun t398 => (beaconref16_Balls.j0 k a0 l1 a2 t398)) else (beaconref16_Balls.j0 k a0 l1 a2 t397))
def beaconref16_Balls.T13:Bool × List (List Nat × List Nat):=(true,[([],[]),([],[]),([],[]),([1,2],[1,2]),([3],[3]),([],[]),([],[]),([5,6],[5,6]),([7],[7]),([8],[8]),([],[]),([9,10],[9,10]),([11],[11]),([],[]),([0,4,12,13],[0,4,12,13]),([14],[14]),([15],[15]),([15],[15]),([],[]),([18,16,14,0,1,2,3,4,5,6,7,8,9,10,11,12,13,14,15,16,18],[16,18]),([17,19,0,1,2,3,4,5,6,7,8,9,10,11,12,13,14,15,16,17,18,19],[17])])
def beaconref16_Balls.B13:List Nat:=[0,0,0,6,14,0,0,96,224,480,0,2016,4064,0,16383,32767,65535,65535,0,393215,1048575]
theorem beaconref16_Balls.tab13:rtab .any (opsOf Try.f10 13) = beaconref16_Balls.T13:=by kernel_rfl
theorem beaconref16_Balls.bits13:waitsOk beaconref16_Balls.T13.2 beaconref16_Balls.B13 = true:=by kernel_rfl
def beaconref16_Balls.T16:Bool × List (List Nat × List Nat):=(true,[([],[]),([],[]),([1],[1]),([0,2],[0,2]),([3],[3]),([4],[4]),([4],[4]),([5,6,4],[4,5,6]),([7,4],[4,7]),([8,4],[4,8]),([4],[4]),([10,4],[4,10]),([9,11,4],[4,9,11]),([4,12],[4,12])])
def beaconref16_Balls.B16:List Nat:=[0,0,2,7,15,31,31,127,255,511,31,1055,4095,8191]
theorem beaconref16_Balls.tab16:rtab .any (opsOf Try.f10 16) = beaconref16_Balls.T16:=by kernel_rfl
theorem beaconref16_Balls.bits16:waitsOk beaconref16_Balls.T16.2 beaconref16_Balls.B16 = true:=by kernel_rfl
def beaconref16_Balls.T20:Bool × List (List Nat × List Nat):=(true,[([],[]),([0],[0]),([],[]),([],[]),([2,3],[2,3]),([4],[4]),([5],[5]),([1,6],[1,6])])
def beaconref16_Balls.B20:List Nat:=[0,1,0,0,12,28,60,127]
theorem beaconref16_Balls.tab20:rtab .any (opsOf Try.f10 20) = beaconref16_Balls.T20:=by kernel_rfl
theorem beaconref16_Balls.bits20:waitsOk beaconref16_Balls.T20.2 beaconref16_Balls.B20 = true:=by kernel_rfl
def beaconref16_Balls.T26:Bool × List (List Nat × List Nat):=(true,[([],[]),([0],[0]),([1],[1]),([2],[2]),([2],[2]),([3,4,2],[2,3,4]),([5,2],[2,5]),([2],[2]),([2],[2]),([8,2],[2,8]),([7,9,2],[2,7,9]),([10,2],[2,10]),([6,11,2,2],[2,6,11]),([2,12],[2,12])])
def beaconref16_Balls.B26:List Nat:=[0,1,3,7,7,31,63,7,7,263,903,1927,4095,8191]
theorem beaconref16_Balls.tab26:rtab .any (opsOf Try.f10 26) = beaconref16_Balls.T26:=by kernel_rfl
theorem beaconref16_Balls.bits26:waitsOk beaconref16_Balls.T26.2 beaconref16_Balls.B26 = true:=by kernel_rfl
def beaconref16_Balls.T28:Bool × List (List Nat × List Nat):=(true,[([],[]),([],[]),([],[]),([],[]),([3],[3]),([],[]),([],[]),([6],[6]),([5,7],[5,7]),([8],[8]),([],[]),([],[]),([10,11],[10,11]),([12],[12]),([0,1,0,1,5,6,7,8,9,13],[0,1]),([14,9,0,1,5,6,7,8,9,13],[9,14]),([2,4,0,1,2,3,4,5,6,7,8,9,10,11,12,13,14,15],[2,4]),([16,13,15,0,1,2,3,4,5,6,7,8,9,10,11,12,13,14,15],[13,16])])
def beaconref16_Balls.B28:List Nat:=[0,0,0,0,8,0,0,64,224,480,0,0,3072,7168,16355,32739,65535,131071]
theorem beaconref16_Balls.tab28:rtab .any (opsOf Try.f10 28) = beaconref16_Balls.T28:=by kernel_rfl
theorem beaconref16_Balls.bits28:waitsOk beaconref16_Balls.T28.2 beaconref16_Balls.B28 = true:=by kernel_rfl
set_option maxHeartbeats 8000000 in
set_option maxRecDepth 100000 in
theorem beaconref16_Balls.calls (k:Nat) (a0:Int) (A1:Option Addr) (c1:Nat) (l1:List (S54)) (a2:Nat) (r1:List (S58)) (r2:Int) (w:World) (hr1:Kd.C k54 w A1 l1.length l1) (hc1:l1.length ≤ c1) (h:beaconref16_Balls.f k a0 l1 a2 = some (r1,r2)) :
  Calls Try.prog 10 #[.int .i64 a0,.slice A1 l1.length c1,.float .f64 a2] w fun e w' => ∃ v0_:Value,e = .returned (.tuple #[v0_,.int .i64 r2]) ∧ Kd.R k58 58 w' w.heap.size (fun _ => True) v0_ r1 ∧ Below w.heap.size w w':=by
 have hu54:=Try.underlying54
 have hu56:=Try.underlying56
 have hu58:=Try.underlying58
 have HR1:=Aside0.mk hr1
 have HC1:=Aside0.mk hc1
 clear hr1 hc1
 have HB:=Aside0.mk (Below.refl w.heap.size w)
 have H:((beaconref15_Check.f k a0 l1).bind fun t397 => (if t397 = 0 then ((beaconref01_Limit.f a2).bind fun t398 => (beaconref16_Balls.j0 k a0 l1 a2 t398)) else (beaconref16_Balls.j0 k a0 l1 a2 t397))) = some (r1,r2):=h
 clear h
 replace H:=Option.bind_eq_some_iff.mp H
 obtain ⟨t397,A40,H⟩:=H
 replace H:(if t397 = 0 then ((beaconref01_Limit.f a2).bind fun t398 => (beaconref16_Balls.j0 k a0 l1 a2 t398)) else (beaconref16_Balls.j0 k a0 l1 a2 t397)) = some (r1,r2):=H
 have A4:=Aside0.mk A40
 clear A40
 have HC5:=Aside0.mk H
 clear H
 go_enter Try.func10,Try.ntmps10
 go_upto_if 21 with (first | ((with_reducible refine gate_callee (f:=18) rfl ?_);refine goesL_ (some 19) rfl rfl Try.func18 (by kernel_rfl) rfl #[.int .i64 a0,.slice A1 l1.length c1] rfl (by (try simp only [List.map_toArray,List.map_cons,List.map_nil]);first | done | rfl | (simp only [List.length_drop,List.length_take];rfl)) ?_;(with_reducible refine (beaconref15_Check.calls k a0 _ _ l1 t397 _ ?side1 ?side2 A4.out).mono ?_);(case side1 => repeat (first | exact HR1.out | (with_reducible refine Kd.C_alloc ?_ _) | (with_reducible refine Kd.C_drewN ?_ _) | (with_reducible refine Kd.C_drew ?_)));(case side2 => exact HC1.out);rintro e w6 ⟨rfl,hb⟩;refine ⟨_,rfl,?_⟩;have n0_:=Aside0.mk (below_step (by repeat (first | (with_reducible first | exact HB.out | apply below_alloc | apply pw_below_drewN | apply below_drew1) | exact HB.out)) hb);clear HB;have HB:=n0_;clear n0_;(try clear hb);(try clear hb2);(try clear hk);(try clear hi)))
 (try simp only [Act.put,List.setIfInBounds_toArray,List.set_cons_zero,List.set_cons_succ])
 go_cut [8] (fun v8 wc => ∃ (kq:Nat) (x8_4:Int),v8 = .int .i64 x8_4 ∧ Aside0 (beaconref16_Balls.j0 kq a0 l1 a2 x8_4 = some (r1,r2)) ∧ Aside0 (kq ≤ k) ∧ Aside0 (Below w.heap.size w wc))
 case first =>
  have H:=HC5.out
  clear HC5
  by_cases c7:t397 = 0
  ·rw [if_pos c7] at H
   have c7b0:(t397 == 0) = true:=beq_iff_eq.mpr c7
   have c7b1:(t397 != 0) = false:=bne_eq_false_iff_eq.mpr c7
   clear c7
   (first | rw [c7b0] | (simp only [i64_w,i32_w];rw [c7b0]) | skip)
   replace H:=Option.bind_eq_some_iff.mp H
   obtain ⟨t398,A80,H⟩:=H
   replace H:(beaconref16_Balls.j0 k a0 l1 a2 t398) = some (r1,r2):=H
   have A8:=Aside0.mk A80
   clear A80
   have H':=Aside0.mk H
   clear H
   go_wp2_with (first | ((with_reducible refine gate_callee (f:=36) rfl ?_);refine goesL_ (some 23) rfl rfl Try.func36 (by kernel_rfl) rfl #[.float .f64 a2] rfl (by (try simp only [List.map_toArray,List.map_cons,List.map_nil]);first | done | rfl | (simp only [List.length_drop,List.length_take];rfl)) ?_;(with_reducible refine (beaconref01_Limit.calls a2 t398 _ A8.out).mono ?_);rintro e w' ⟨rfl,⟨nd,rfl⟩⟩;refine ⟨_,rfl,?_⟩))
   go_meet
   case rel => exact ⟨_,(t398),(by first | rfl | (simp;done) | (simp [*];done)),H',⟨by first | omega | exact Nat.le_refl _⟩,⟨by repeat (first | (with_reducible first | exact HB.out | apply below_alloc | apply pw_below_drewN | apply below_drew1) | exact HB.out)⟩⟩
  rw [if_neg c7] at H
  have c7b0:(t397 == 0) = false:=beq_eq_false_iff_ne.mpr c7
  have c7b1:(t397 != 0) = true:=bne_iff_ne.mpr c7
  (first | rw [c7b0] | (simp only [i64_w,i32_w];rw [c7b0]) | skip)
  have H':=Aside0.mk H
  clear H
  go_wp2
  go_meet
  case rel => exact ⟨_,(t397),(by first | rfl | (simp;done) | (simp [*];done)),H',⟨by first | omega | exact Nat.le_refl _⟩,⟨by repeat (first | (with_reducible first | exact HB.out | apply below_alloc | apply pw_below_drewN | apply below_drew1) | exact HB.out)⟩⟩
 case rest =>
  clear HC5
  obtain ⟨kq,x8_4,rfl,HA,HJ4,HB⟩:=hcut
  cases kq with
  | zero => exact absurd HA.out (by simp [beaconref16_Balls.j0])
  | succ kj4 =>
   have H:=HA.out
   clear HA
   simp only [beaconref16_Balls.j0] at H
   by_cases c9:x8_4 = 0
   rotate_left
   ·rw [if_neg c9] at H
    have c9b0:(x8_4 == 0) = false:=beq_eq_false_iff_ne.mpr c9
    have c9b1:(x8_4 != 0) = true:=bne_iff_ne.mpr c9
    simp only [Option.some.injEq,Prod.mk.injEq] at H
    obtain ⟨rfl,rfl⟩:=H
    go_wp2
    go_ret2
    exact ⟨_,by first | rfl | (simp [errW_none,errW_some] <;> rfl) | (simp [*,errW_none,errW_some] <;> rfl),by first | exact Kd.R_nil _ _ _ _ _ | exact Kd.N_nil _ _ _ _ _ | exact Kd.V_nil _ _ _ _ _ | exact Kd.Q_nil _ _ _ _ _ | exact Kd.S_nil _ _ _ _ _,by repeat (first | (with_reducible first | exact HB.out | apply below_alloc | apply pw_below_drewN | apply below_drew1) | exact HB.out)⟩
   rw [if_pos c9] at H
   have c9b0:(x8_4 == 0) = true:=beq_iff_eq.mpr c9
   have c9b1:(x8_4 != 0) = false:=bne_eq_false_iff_eq.mpr c9
   clear c9
   have H':=Aside0.mk H
   clear H
   go_wp2
   go_loopg [9,10] kj4 (fun kq v9 v10 w' => ∃ (x9_2:List (S58)) (x10_2:Int),v10 = .int .i64 x10_2 ∧ Aside0 (beaconref16_Balls.l0 kq a0 l1 a2 x9_2 x10_2 = some (r1,r2)) ∧ Aside0 (kq ≤ kj4) ∧ Aside0 (Kd.R k58 58 w' w.heap.size (fun _ => True) v9 x9_2) ∧ Aside0 (Below w.heap.size w w'))
   case atStart => exact ⟨(([]:List (S58))),(0),(by first | rfl | (simp;done) | (simp [*];done)),H',⟨Nat.le_refl _⟩,⟨by first | exact Kd.R_nil _ _ _ _ _ | exact Kd.N_nil _ _ _ _ _ | exact Kd.V_nil _ _ _ _ _ | exact Kd.Q_nil _ _ _ _ _ | exact Kd.S_nil _ _ _ _ _⟩,⟨by repeat (first | (with_reducible first | exact HB.out | apply below_alloc | apply pw_below_drewN | apply below_drew1) | exact HB.out)⟩⟩
   case round =>
    clear H'
    obtain ⟨x9_2,x10_2,rfl,HA,HK2,HO_9,HB⟩:=hrel
    cases gk with
    | zero => exact absurd HA.out (by simp [beaconref16_Balls.l0])
    | succ k2 =>
     have H:=HA.out
     clear HA
     simp only [beaconref16_Balls.l0] at H
     by_cases c10:x10_2 < (l1.length:Int)
     rotate_left
     ·rw [if_neg c10] at H
      have c10b0:decide (x10_2 < (l1.length:Int)) = false:=decide_eq_false c10
      clear c10
      have H':=Aside0.mk H
      clear H
      go_wp2
      go_loopg [15] k2 (fun kq v15 w' => ∃ (x9_3:List (S58)) (x15_3:Int),v15 = .int .i64 x15_3 ∧ Aside0 (beaconref16_Balls.l3 kq x9_3 x15_3 = some (r1,r2)) ∧ Aside0 (kq ≤ k2) ∧ Aside0 (Kd.R k58 58 w' w.heap.size (fun _ => True) u9 x9_3) ∧ Aside0 (Below w.heap.size w w'))
      case atStart => exact ⟨(x9_2),(0),(by first | rfl | (simp;done) | (simp [*];done)),H',⟨Nat.le_refl _⟩,⟨by (with_reducible repeat (first | apply Kd.R_alloc | apply Kd.R_drewN | apply Kd.R_drew));exact HO_9.out⟩,⟨by repeat (first | (with_reducible first | exact HB.out | apply below_alloc | apply pw_below_drewN | apply below_drew1) | exact HB.out)⟩⟩
      case round =>
       clear H'
       obtain ⟨x9_3,x15_3,rfl,HA,HK3,HO_9,HB⟩:=hrel
       cases gk with
       | zero => exact absurd HA.out (by simp [beaconref16_Balls.l3])
       | succ k3 =>
        have H:=HA.out
        clear HA
        simp only [beaconref16_Balls.l3] at H
        by_cases c63:x15_3 < (x9_3.length:Int)
        rotate_left
        ·rw [if_neg c63] at H
         have c63b0:decide (x15_3 < (x9_3.length:Int)) = false:=decide_eq_false c63
         clear c63
         simp only [Option.some.injEq,Prod.mk.injEq] at H
         obtain ⟨rfl,rfl⟩:=H
         obtain ⟨Ao83,co83,eo83⟩:=Kd.R_slice HO_9.out
         subst eo83
         go_wp2
         go_ret2
         exact ⟨_,by first | rfl | (simp [errW_none,errW_some] <;> rfl) | (simp [*,errW_none,errW_some] <;> rfl),by (with_reducible repeat (first | apply Kd.R_alloc | apply Kd.R_drewN | apply Kd.R_drew));exact HO_9.out,by repeat (first | (with_reducible first | exact HB.out | apply below_alloc | apply pw_below_drewN | apply below_drew1) | exact HB.out)⟩
        rw [if_pos c63] at H
        have c63b0:decide (x15_3 < (x9_3.length:Int)) = true:=decide_eq_true c63
        clear c63
        have H':=Aside0.mk H
        clear H
        obtain ⟨Ao64,co64,eo64⟩:=Kd.R_slice HO_9.out
        subst eo64
        go_wp2
        go_loopg [16] k3 (fun kq v16 w' => ∃ (x9_4:List (S58)) (x16_4:Int),v16 = .int .i64 x16_4 ∧ Aside0 (beaconref16_Balls.l4 kq x9_4 x15_3 x16_4 = some (r1,r2)) ∧ Aside0 (kq ≤ k3) ∧ Aside0 (Kd.R k58 58 w' w.heap.size (fun _ => True) (.slice Ao64 x9_3.length co64) x9_4) ∧ Aside0 (Below w.heap.size w w'))
        case atStart => exact ⟨(x9_3),(x15_3),(by first | rfl | (simp;done) | (simp [*];done)),H',⟨Nat.le_refl _⟩,⟨by (with_reducible repeat (first | apply Kd.R_alloc | apply Kd.R_drewN | apply Kd.R_drew));exact HO_9.out⟩,⟨by repeat (first | (with_reducible first | exact HB.out | apply below_alloc | apply pw_below_drewN | apply below_drew1) | exact HB.out)⟩⟩
        case round =>
         clear H'
         obtain ⟨x9_4,x16_4,rfl,HA,HK4,HO_9,HB⟩:=hrel
         have hl9_4:=(Kd.R_reads' HO_9.out).1
         rw [hl9_4] at HO_9
         (try simp only [hl9_4])
         cases gk with
         | zero => exact absurd HA.out (by simp [beaconref16_Balls.l4])
         | succ k4 =>
          have H:=HA.out
          clear HA
          simp only [beaconref16_Balls.l4] at H
          by_cases c65:x16_4 > 0
          rotate_left
          ·rw [if_neg c65] at H
           have c65b0:decide (0 < x16_4) = false:=decide_eq_false c65
           clear c65
           have H':=Aside0.mk H
           clear H
           try go_wp2
           have n0_:=Aside0.mk (Kd.R_drew HO_9.out)
           have n1_:=Aside0.mk (below_drew1 HB.out)
           clear HO_9
           clear HB
           have HO_9:=n0_
           have HB:=n1_
           clear n0_ n1_
           refine start_ (n:=14) (S:=fun w' => True) (ds:=[]) #[false,false,false,false,false,false,false,false,false,false,false,false,false,false] (by kernel_rfl) rfl rfl trivial (fun hHeld => ?_);refine with_tabW beaconref16_Balls.tab26 beaconref16_Balls.bits26 (fun HT_ HW_ => ?_)
           generalize wr.drew = w82 at HO_9 HB hHeld ⊢
           refine manyT_ (fuel:=0) (a':=?_) ((0,0) :: (1,0) :: (2,0) :: (3,1) :: (4,1) :: (5,1) :: (6,1) :: (7,1) :: (8,1) :: (9,1) :: (10,1) :: (11,1) :: (12,1) :: (13,0) :: []) #[true,true,true,true,true,true,true,true,true,true,true,true,true,true] rfl HT_ (by kernel_rfl) (fun _ _ _ _ _ h => h) (fun h => absurd h (by decide)) ?_ ?_
           rotate_left
           ·repeat (first | exact Chain.nil _ | (apply Chain.on;rfl;rfl;(focus intro w';go_simp;with_reducible rfl);(focus simp only [Act.put,List.setIfInBounds_toArray,List.set_cons_zero,List.set_cons_succ,i64_w,i32_w];rfl)) | (apply Chain.off;rfl;rfl;(focus simp only [Act.put,List.setIfInBounds_toArray,List.set_cons_zero,List.set_cons_succ,i64_w,i32_w];rfl)))
           refine done_ (done_of HT_.out (by kernel_rfl)) ?_
           try go_wp2
           (try simp only [← hl9_4])
           go_roundg k4
           case measure => have:=HJ4.out;have:=HK2.out;have:=HK3.out;have:=HK4.out;omega
           case rel => exact ⟨(x9_4),(wrap64 (x15_3 + 1)),(by first | rfl | (simp;done) | (simp [*];done)),H',⟨by have:=HJ4.out;have:=HK2.out;have:=HK3.out;have:=HK4.out;omega⟩,⟨by (try simp only [hl9_4]);(with_reducible repeat (first | apply Kd.R_alloc | apply Kd.R_drewN | apply Kd.R_drew));exact HO_9.out⟩,⟨by repeat (first | (with_reducible first | exact HB.out | apply below_alloc | apply pw_below_drewN | apply below_drew1) | exact HB.out)⟩⟩
          rw [if_pos c65] at H
          have c65b0:decide (0 < x16_4) = true:=decide_eq_true c65
          clear c65
          by_cases c66:0 ≤ x16_4
          rotate_left
          ·rw [if_neg c66] at H
           exact absurd H (by simp)
          rw [if_pos c66] at H
          have c66b0:decide (0 ≤ x16_4) = true:=decide_eq_true c66
          clear c66
          by_cases c67:x16_4 < (x9_4.length:Int)
          rotate_left
          ·rw [if_neg c67] at H
           exact absurd H (by simp)
          rw [if_pos c67] at H
          have c67b0:decide (x16_4 < (x9_4.length:Int)) = true:=decide_eq_true c67
          clear c67
          obtain ⟨ji68,hji68⟩:∃ j_:Int,(wrap64 (x16_4 - 1)) = j_:=⟨_,rfl⟩
          replace H:(if 0 ≤ (ji68) then (if (ji68) < (x9_4.length:Int) then ((beaconref16_ahead.f ((rd_T58 x9_4 x16_4).f0) ((rd_T58 x9_4 x16_4).f1) ((rd_T58 x9_4 x16_4).f2) ((rd_T58 x9_4 x16_4).f3) ((rd_T58 x9_4 x16_4).f4) ((rd_T58 x9_4 x16_4).f5) ((rd_T58 x9_4 (ji68)).f0) ((rd_T58 x9_4 (ji68)).f1) ((rd_T58 x9_4 (ji68)).f2) ((rd_T58 x9_4 (ji68)).f3) ((rd_T58 x9_4 (ji68)).f4) ((rd_T58 x9_4 (ji68)).f5)).bind fun t419 => (if t419 = true then (beaconref16_Balls.l4 k4 ((x9_4.set (x16_4:Int).toNat (⟨(rd_T58 x9_4 (ji68)).f0,(rd_T58 x9_4 (ji68)).f1,(rd_T58 x9_4 (ji68)).f2,(rd_T58 x9_4 (ji68)).f3,(rd_T58 x9_4 (ji68)).f4,(rd_T58 x9_4 (ji68)).f5⟩:S58)).set ((ji68):Int).toNat (⟨(rd_T58 x9_4 x16_4).f0,(rd_T58 x9_4 x16_4).f1,(rd_T58 x9_4 x16_4).f2,(rd_T58 x9_4 x16_4).f3,(rd_T58 x9_4 x16_4).f4,(rd_T58 x9_4 x16_4).f5⟩:S58)) x15_3 ji68) else (beaconref16_Balls.l3 k4 x9_4 (wrap64 (x15_3 + 1))))) else (none)) else (none)) = some (r1,r2):=by first | (rw [hji68] at H;exact H) | (simp only [hji68] at H ⊢;exact H)
          have hji68w:(IntKind.i64.wrap (x16_4 - 1)) = ji68:=(i64_w _).trans hji68
          by_cases c69:0 ≤ (ji68)
          rotate_left
          ·rw [if_neg c69] at H
           exact absurd H (by simp)
          rw [if_pos c69] at H
          have c69b0:decide (0 ≤ (ji68)) = true:=decide_eq_true c69
          clear c69
          by_cases c70:(ji68) < (x9_4.length:Int)
          rotate_left
          ·rw [if_neg c70] at H
           exact absurd H (by simp)
          rw [if_pos c70] at H
          have c70b0:decide ((ji68) < (x9_4.length:Int)) = true:=decide_eq_true c70
          clear c70
          replace H:=Option.bind_eq_some_iff.mp H
          obtain ⟨t419,A710,H⟩:=H
          replace H:(if t419 = true then (beaconref16_Balls.l4 k4 ((x9_4.set (x16_4:Int).toNat (⟨(rd_T58 x9_4 (ji68)).f0,(rd_T58 x9_4 (ji68)).f1,(rd_T58 x9_4 (ji68)).f2,(rd_T58 x9_4 (ji68)).f3,(rd_T58 x9_4 (ji68)).f4,(rd_T58 x9_4 (ji68)).f5⟩:S58)).set ((ji68):Int).toNat (⟨(rd_T58 x9_4 x16_4).f0,(rd_T58 x9_4 x16_4).f1,(rd_T58 x9_4 x16_4).f2,(rd_T58 x9_4 x16_4).f3,(rd_T58 x9_4 x16_4).f4,(rd_T58 x9_4 x16_4).f5⟩:S58)) x15_3 ji68) else (beaconref16_Balls.l3 k4 x9_4 (wrap64 (x15_3 + 1)))) = some (r1,r2):=H
          have A71:=Aside0.mk A710
          clear A710
          by_cases c72:t419 = true
          rotate_left
          ·replace c72:=Bool.eq_false_iff.mpr c72
           subst c72
           have H1:(beaconref16_Balls.l3 k4 x9_4 (wrap64 (x15_3 + 1))) = some (r1,r2):=by rw [if_neg (show ¬ (false = true) by decide)] at H;exact H
           clear H
           have H:=H1
           clear H1
           have H':=Aside0.mk H
           clear H
           try go_wp2
           have n0_:=Aside0.mk (Kd.R_drew HO_9.out)
           have n1_:=Aside0.mk (below_drew1 HB.out)
           clear HO_9
           clear HB
           have HO_9:=n0_
           have HB:=n1_
           clear n0_ n1_
           have p417:0 ≤ (x16_4:Int):=of_decide_eq_true (by first | (with_reducible assumption) | assumption)
           have q417:x16_4 < (x9_4.length:Int):=of_decide_eq_true (by first | (with_reducible assumption) | assumption)
           obtain ⟨ad417,e417,hx417_0,hx417_1,hx417_2,hx417_3,hx417_4,hx417_5⟩:=at_T58 (Kd.R_reads' HO_9.out).2.2 x16_4 p417 q417
           cases e417
           replace p417:=eq_true p417
           replace q417:=eq_true q417
           have p418:0 ≤ ((ji68):Int):=of_decide_eq_true (by first | (with_reducible assumption) | assumption)
           have q418:(ji68) < (x9_4.length:Int):=of_decide_eq_true (by first | (with_reducible assumption) | assumption)
           obtain ⟨ad418,e418,hx418_0,hx418_1,hx418_2,hx418_3,hx418_4,hx418_5⟩:=at_T58 (Kd.R_reads' HO_9.out).2.2 (ji68) p418 q418
           obtain rfl:ad417 = ad418:=(by injection e418)
           replace p418:=eq_true p418
           replace q418:=eq_true q418
           refine start_ (n:=14) (S:=fun w' => w'.cell? (ad417.add ((x16_4).toNat * 6)) = some (.int .i64 ((rd_T58 x9_4 x16_4).f0)) ∧ w'.cell? ⟨(ad417.add ((x16_4).toNat * 6)).block,(ad417.add ((x16_4).toNat * 6)).off + 1,none⟩ = some (.int .i64 ((rd_T58 x9_4 x16_4).f1)) ∧ w'.cell? ⟨(ad417.add ((x16_4).toNat * 6)).block,(ad417.add ((x16_4).toNat * 6)).off + 2,none⟩ = some (.float .f64 ((rd_T58 x9_4 x16_4).f2)) ∧ w'.cell? ⟨(ad417.add ((x16_4).toNat * 6)).block,(ad417.add ((x16_4).toNat * 6)).off + 3,none⟩ = some (.int .i64 ((rd_T58 x9_4 x16_4).f3)) ∧ w'.cell? ⟨(ad417.add ((x16_4).toNat * 6)).block,(ad417.add ((x16_4).toNat * 6)).off + 4,none⟩ = some (.float .f64 ((rd_T58 x9_4 x16_4).f4)) ∧ w'.cell? ⟨(ad417.add ((x16_4).toNat * 6)).block,(ad417.add ((x16_4).toNat * 6)).off + 5,none⟩ = some (.int .i64 ((rd_T58 x9_4 x16_4).f5)) ∧ w'.cell? (ad417.add (((ji68)).toNat * 6)) = some (.int .i64 ((rd_T58 x9_4 (ji68)).f0)) ∧ w'.cell? ⟨(ad417.add (((ji68)).toNat * 6)).block,(ad417.add (((ji68)).toNat * 6)).off + 1,none⟩ = some (.int .i64 ((rd_T58 x9_4 (ji68)).f1)) ∧ w'.cell? ⟨(ad417.add (((ji68)).toNat * 6)).block,(ad417.add (((ji68)).toNat * 6)).off + 2,none⟩ = some (.float .f64 ((rd_T58 x9_4 (ji68)).f2)) ∧ w'.cell? ⟨(ad417.add (((ji68)).toNat * 6)).block,(ad417.add (((ji68)).toNat * 6)).off + 3,none⟩ = some (.int .i64 ((rd_T58 x9_4 (ji68)).f3)) ∧ w'.cell? ⟨(ad417.add (((ji68)).toNat * 6)).block,(ad417.add (((ji68)).toNat * 6)).off + 4,none⟩ = some (.float .f64 ((rd_T58 x9_4 (ji68)).f4)) ∧ w'.cell? ⟨(ad417.add (((ji68)).toNat * 6)).block,(ad417.add (((ji68)).toNat * 6)).off + 5,none⟩ = some (.int .i64 ((rd_T58 x9_4 (ji68)).f5))) (ds:=[]) #[false,false,false,false,false,false,false,false,false,false,false,false,false,false] (by kernel_rfl) rfl rfl ⟨hx417_0,hx417_1,hx417_2,hx417_3,hx417_4,hx417_5,hx418_0,hx418_1,hx418_2,hx418_3,hx418_4,hx418_5⟩ (fun hHeld => ?_);refine with_tabW beaconref16_Balls.tab26 beaconref16_Balls.bits26 (fun HT_ HW_ => ?_)
           generalize wr.drew = w80 at HO_9 HB hx417_0 hx417_1 hx417_2 hx417_3 hx417_4 hx417_5 hx418_0 hx418_1 hx418_2 hx418_3 hx418_4 hx418_5 hHeld ⊢
           refine manyW_ (fuel:=2) (a':=?_) ((0,0) :: (1,0) :: (2,0) :: (3,0) :: (4,0) :: (5,0) :: (7,0) :: (8,0) :: (9,0) :: (10,0) :: (6,2) :: (11,2) :: []) #[true,true,true,true,true,true,true,true,true,true,true,true,false,false] rfl HT_ HW_ (by kernel_rfl) (fun _ _ _ _ _ h => h) (fun _ => hHeld) ?_ ?_
           rotate_left
           ·repeat (first | exact Chain.nil _ | (apply Chain.on;rfl;rfl;(focus intro w';go_simp;with_reducible rfl);(focus simp only [Act.put,List.setIfInBounds_toArray,List.set_cons_zero,List.set_cons_succ,i64_w,i32_w];rfl)) | (apply Chain.take;rfl;rfl;(focus rintro w' ⟨s0,s1,s2,s3,s4,s5,s6,s7,s8,s9,s10,s11⟩;go_simp;with_reducible rfl);(focus simp only [Act.put,List.setIfInBounds_toArray,List.set_cons_zero,List.set_cons_succ,i64_w,i32_w];rfl)))
           refine one_ (i:=12) (N:=some 118) #[true,true,true,true,true,true,true,true,true,true,true,true,true,false] rfl rfl (one_of HT_.out (by kernel_rfl)) (by decide) (fun K hK => ?_)
           refine goes_ Try.func38 (by kernel_rfl) rfl #[.agg #[.int .i64 ((rd_T58 x9_4 x16_4).f0),.int .i64 ((rd_T58 x9_4 x16_4).f1),.float .f64 ((rd_T58 x9_4 x16_4).f2),.int .i64 ((rd_T58 x9_4 x16_4).f3),.float .f64 ((rd_T58 x9_4 x16_4).f4),.int .i64 ((rd_T58 x9_4 x16_4).f5)],.agg #[.int .i64 ((rd_T58 x9_4 (ji68)).f0),.int .i64 ((rd_T58 x9_4 (ji68)).f1),.float .f64 ((rd_T58 x9_4 (ji68)).f2),.int .i64 ((rd_T58 x9_4 (ji68)).f3),.float .f64 ((rd_T58 x9_4 (ji68)).f4),.int .i64 ((rd_T58 x9_4 (ji68)).f5)]] (by rfl) rfl rfl (by (try simp only [List.map_toArray,List.map_cons,List.map_nil]);first | done | (simp only [hji68];rfl) | rfl | (simp only [List.length_drop,List.length_take];rfl)) ?_
           with_reducible refine (beaconref16_ahead.calls ((rd_T58 x9_4 x16_4).f0) ((rd_T58 x9_4 x16_4).f1) ((rd_T58 x9_4 x16_4).f2) ((rd_T58 x9_4 x16_4).f3) ((rd_T58 x9_4 x16_4).f4) ((rd_T58 x9_4 x16_4).f5) ((rd_T58 x9_4 (ji68)).f0) ((rd_T58 x9_4 (ji68)).f1) ((rd_T58 x9_4 (ji68)).f2) ((rd_T58 x9_4 (ji68)).f3) ((rd_T58 x9_4 (ji68)).f4) ((rd_T58 x9_4 (ji68)).f5) false _ A71.out).mono ?_
           rintro e w81 ⟨rfl,hb⟩
           have HS0_:=(hb.cell (World.block_lt_of_cell? _ _ (hHeld.1))).trans (hHeld.1)
           have HS1_:=(hb.cell (World.block_lt_of_cell? _ _ (hHeld.2.1))).trans (hHeld.2.1)
           have HS2_:=(hb.cell (World.block_lt_of_cell? _ _ (hHeld.2.2.1))).trans (hHeld.2.2.1)
           have HS3_:=(hb.cell (World.block_lt_of_cell? _ _ (hHeld.2.2.2.1))).trans (hHeld.2.2.2.1)
           have HS4_:=(hb.cell (World.block_lt_of_cell? _ _ (hHeld.2.2.2.2.1))).trans (hHeld.2.2.2.2.1)
           have HS5_:=(hb.cell (World.block_lt_of_cell? _ _ (hHeld.2.2.2.2.2.1))).trans (hHeld.2.2.2.2.2.1)
           have HS6_:=(hb.cell (World.block_lt_of_cell? _ _ (hHeld.2.2.2.2.2.2.1))).trans (hHeld.2.2.2.2.2.2.1)
           have HS7_:=(hb.cell (World.block_lt_of_cell? _ _ (hHeld.2.2.2.2.2.2.2.1))).trans (hHeld.2.2.2.2.2.2.2.1)
           have HS8_:=(hb.cell (World.block_lt_of_cell? _ _ (hHeld.2.2.2.2.2.2.2.2.1))).trans (hHeld.2.2.2.2.2.2.2.2.1)
           have HS9_:=(hb.cell (World.block_lt_of_cell? _ _ (hHeld.2.2.2.2.2.2.2.2.2.1))).trans (hHeld.2.2.2.2.2.2.2.2.2.1)
           have HS10_:=(hb.cell (World.block_lt_of_cell? _ _ (hHeld.2.2.2.2.2.2.2.2.2.2.1))).trans (hHeld.2.2.2.2.2.2.2.2.2.2.1)
           have HS11_:=(hb.cell (World.block_lt_of_cell? _ _ (hHeld.2.2.2.2.2.2.2.2.2.2.2))).trans (hHeld.2.2.2.2.2.2.2.2.2.2.2)
           refine ⟨_,rfl,?_⟩
           have n0_:=Aside0.mk (Kd.R_below (by (with_reducible repeat (first | apply Kd.R_alloc | apply Kd.R_drewN | apply Kd.R_drew));exact HO_9.out) hb)
           have n1_:=Aside0.mk (below_step (by repeat (first | (with_reducible first | exact HB.out | apply below_alloc | apply pw_below_drewN | apply below_drew1) | exact HB.out)) hb)
           clear HO_9
           clear HB
           have HO_9:=n0_
           have HB:=n1_
           clear n0_ n1_
           (try clear hb)
           (try clear hb2)
           (try clear hk)
           (try clear hi)
           refine hK.out _ _ ⟨HS0_,HS1_,HS2_,HS3_,HS4_,HS5_,HS6_,HS7_,HS8_,HS9_,HS10_,HS11_⟩ (fun hHeld => ?_)
           clear hK K
           refine norm_ (a':=?_) ?_ ?_
           rotate_left
           ·show Act.put _ (some 118) _ = _
            simp only [Act.put,List.setIfInBounds_toArray,List.set_cons_zero,List.set_cons_succ,i64_w,i32_w]
            rfl
           refine manyT_ (fuel:=0) (a':=?_) ((13,0) :: []) #[true,true,true,true,true,true,true,true,true,true,true,true,true,true] rfl HT_ (by kernel_rfl) (fun _ _ _ _ _ h => h) (fun h => absurd h (by decide)) ?_ ?_
           rotate_left
           ·repeat (first | exact Chain.nil _ | (apply Chain.on;rfl;rfl;(focus intro w';go_simp;with_reducible rfl);(focus simp only [Act.put,List.setIfInBounds_toArray,List.set_cons_zero,List.set_cons_succ,i64_w,i32_w];rfl)))
           refine done_ (done_of HT_.out (by kernel_rfl)) ?_
           try go_wp2
           (try simp only [← hl9_4])
           go_roundg k4
           case measure => have:=HJ4.out;have:=HK2.out;have:=HK3.out;have:=HK4.out;omega
           case rel => exact ⟨(x9_4),(wrap64 (x15_3 + 1)),(by first | rfl | (simp;done) | (simp [*];done)),H',⟨by have:=HJ4.out;have:=HK2.out;have:=HK3.out;have:=HK4.out;omega⟩,⟨by (try simp only [hl9_4]);(with_reducible repeat (first | apply Kd.R_alloc | apply Kd.R_drewN | apply Kd.R_drew));exact HO_9.out⟩,⟨by repeat (first | (with_reducible first | exact HB.out | apply below_alloc | apply pw_below_drewN | apply below_drew1) | exact HB.out)⟩⟩
          subst c72
          have H1:(beaconref16_Balls.l4 k4 ((x9_4.set (x16_4:Int).toNat (⟨(rd_T58 x9_4 (ji68)).f0,(rd_T58 x9_4 (ji68)).f1,(rd_T58 x9_4 (ji68)).f2,(rd_T58 x9_4 (ji68)).f3,(rd_T58 x9_4 (ji68)).f4,(rd_T58 x9_4 (ji68)).f5⟩:S58)).set ((ji68):Int).toNat (⟨(rd_T58 x9_4 x16_4).f0,(rd_T58 x9_4 x16_4).f1,(rd_T58 x9_4 x16_4).f2,(rd_T58 x9_4 x16_4).f3,(rd_T58 x9_4 x16_4).f4,(rd_T58 x9_4 x16_4).f5⟩:S58)) x15_3 ji68) = some (r1,r2):=by rw [if_pos rfl] at H;exact H
          clear H
          have H:=H1
          clear H1
          obtain ⟨y422,hy422⟩:∃ y_:List (S58),y_ = (x9_4.set (x16_4:Int).toNat (⟨(rd_T58 x9_4 (ji68)).f0,(rd_T58 x9_4 (ji68)).f1,(rd_T58 x9_4 (ji68)).f2,(rd_T58 x9_4 (ji68)).f3,(rd_T58 x9_4 (ji68)).f4,(rd_T58 x9_4 (ji68)).f5⟩:S58)):=⟨_,rfl⟩
          replace H:(beaconref16_Balls.l4 k4 (y422.set ((ji68):Int).toNat (⟨(rd_T58 x9_4 x16_4).f0,(rd_T58 x9_4 x16_4).f1,(rd_T58 x9_4 x16_4).f2,(rd_T58 x9_4 x16_4).f3,(rd_T58 x9_4 x16_4).f4,(rd_T58 x9_4 x16_4).f5⟩:S58)) x15_3 ji68) = some (r1,r2):=by first | (rw [hy422];with_reducible exact H) | (have H2_:=(Option.bind_some _ _).symm.trans H;rw [hy422];with_reducible exact H2_) | (have H2_:=(Option.bind_some _ _).symm.trans H;with_reducible exact H2_) | with_reducible exact H | (rw [hy422];exact H) | exact H
          have Ny422:=Aside0.mk hy422
          clear hy422
          obtain ⟨y423,hy423⟩:∃ y_:List (S58),y_ = (y422.set ((ji68):Int).toNat (⟨(rd_T58 x9_4 x16_4).f0,(rd_T58 x9_4 x16_4).f1,(rd_T58 x9_4 x16_4).f2,(rd_T58 x9_4 x16_4).f3,(rd_T58 x9_4 x16_4).f4,(rd_T58 x9_4 x16_4).f5⟩:S58)):=⟨_,rfl⟩
          replace H:(beaconref16_Balls.l4 k4 y423 x15_3 ji68) = some (r1,r2):=by first | (rw [hy423];with_reducible exact H) | (have H2_:=(Option.bind_some _ _).symm.trans H;rw [hy423];with_reducible exact H2_) | (have H2_:=(Option.bind_some _ _).symm.trans H;with_reducible exact H2_) | with_reducible exact H | (rw [hy423];exact H) | exact H
          have Ny423:=Aside0.mk hy423
          clear hy423
          have H':=Aside0.mk H
          clear H
          try go_wp2
          have n0_:=Aside0.mk (Kd.R_drew HO_9.out)
          have n1_:=Aside0.mk (below_drew1 HB.out)
          clear HO_9
          clear HB
          have HO_9:=n0_
          have HB:=n1_
          clear n0_ n1_
          have p417:0 ≤ (x16_4:Int):=of_decide_eq_true (by first | (with_reducible assumption) | assumption)
          have q417:x16_4 < (x9_4.length:Int):=of_decide_eq_true (by first | (with_reducible assumption) | assumption)
          obtain ⟨ad417,e417,hx417_0,hx417_1,hx417_2,hx417_3,hx417_4,hx417_5⟩:=at_T58 (Kd.R_reads' HO_9.out).2.2 x16_4 p417 q417
          cases e417
          replace p417:=eq_true p417
          replace q417:=eq_true q417
          have p418:0 ≤ ((ji68):Int):=of_decide_eq_true (by first | (with_reducible assumption) | assumption)
          have q418:(ji68) < (x9_4.length:Int):=of_decide_eq_true (by first | (with_reducible assumption) | assumption)
          obtain ⟨ad418,e418,hx418_0,hx418_1,hx418_2,hx418_3,hx418_4,hx418_5⟩:=at_T58 (Kd.R_reads' HO_9.out).2.2 (ji68) p418 q418
          obtain rfl:ad417 = ad418:=(by injection e418)
          replace p418:=eq_true p418
          replace q418:=eq_true q418
          refine start_ (n:=14) (S:=fun w' => w'.cell? (ad417.add ((x16_4).toNat * 6)) = some (.int .i64 ((rd_T58 x9_4 x16_4).f0)) ∧ w'.cell? ⟨(ad417.add ((x16_4).toNat * 6)).block,(ad417.add ((x16_4).toNat * 6)).off + 1,none⟩ = some (.int .i64 ((rd_T58 x9_4 x16_4).f1)) ∧ w'.cell? ⟨(ad417.add ((x16_4).toNat * 6)).block,(ad417.add ((x16_4).toNat * 6)).off + 2,none⟩ = some (.float .f64 ((rd_T58 x9_4 x16_4).f2)) ∧ w'.cell? ⟨(ad417.add ((x16_4).toNat * 6)).block,(ad417.add ((x16_4).toNat * 6)).off + 3,none⟩ = some (.int .i64 ((rd_T58 x9_4 x16_4).f3)) ∧ w'.cell? ⟨(ad417.add ((x16_4).toNat * 6)).block,(ad417.add ((x16_4).toNat * 6)).off + 4,none⟩ = some (.float .f64 ((rd_T58 x9_4 x16_4).f4)) ∧ w'.cell? ⟨(ad417.add ((x16_4).toNat * 6)).block,(ad417.add ((x16_4).toNat * 6)).off + 5,none⟩ = some (.int .i64 ((rd_T58 x9_4 x16_4).f5)) ∧ w'.cell? (ad417.add (((ji68)).toNat * 6)) = some (.int .i64 ((rd_T58 x9_4 (ji68)).f0)) ∧ w'.cell? ⟨(ad417.add (((ji68)).toNat * 6)).block,(ad417.add (((ji68)).toNat * 6)).off + 1,none⟩ = some (.int .i64 ((rd_T58 x9_4 (ji68)).f1)) ∧ w'.cell? ⟨(ad417.add (((ji68)).toNat * 6)).block,(ad417.add (((ji68)).toNat * 6)).off + 2,none⟩ = some (.float .f64 ((rd_T58 x9_4 (ji68)).f2)) ∧ w'.cell? ⟨(ad417.add (((ji68)).toNat * 6)).block,(ad417.add (((ji68)).toNat * 6)).off + 3,none⟩ = some (.int .i64 ((rd_T58 x9_4 (ji68)).f3)) ∧ w'.cell? ⟨(ad417.add (((ji68)).toNat * 6)).block,(ad417.add (((ji68)).toNat * 6)).off + 4,none⟩ = some (.float .f64 ((rd_T58 x9_4 (ji68)).f4)) ∧ w'.cell? ⟨(ad417.add (((ji68)).toNat * 6)).block,(ad417.add (((ji68)).toNat * 6)).off + 5,none⟩ = some (.int .i64 ((rd_T58 x9_4 (ji68)).f5))) (ds:=[]) #[false,false,false,false,false,false,false,false,false,false,false,false,false,false] (by kernel_rfl) rfl rfl ⟨hx417_0,hx417_1,hx417_2,hx417_3,hx417_4,hx417_5,hx418_0,hx418_1,hx418_2,hx418_3,hx418_4,hx418_5⟩ (fun hHeld => ?_);refine with_tabW beaconref16_Balls.tab26 beaconref16_Balls.bits26 (fun HT_ HW_ => ?_)
          generalize wr.drew = w75 at HO_9 HB hx417_0 hx417_1 hx417_2 hx417_3 hx417_4 hx417_5 hx418_0 hx418_1 hx418_2 hx418_3 hx418_4 hx418_5 hHeld ⊢
          refine manyW_ (fuel:=2) (a':=?_) ((0,0) :: (1,0) :: (2,0) :: (3,0) :: (4,0) :: (5,0) :: (7,0) :: (8,0) :: (9,0) :: (10,0) :: (6,2) :: (11,2) :: []) #[true,true,true,true,true,true,true,true,true,true,true,true,false,false] rfl HT_ HW_ (by kernel_rfl) (fun _ _ _ _ _ h => h) (fun _ => hHeld) ?_ ?_
          rotate_left
          ·repeat (first | exact Chain.nil _ | (apply Chain.on;rfl;rfl;(focus intro w';go_simp;with_reducible rfl);(focus simp only [Act.put,List.setIfInBounds_toArray,List.set_cons_zero,List.set_cons_succ,i64_w,i32_w];rfl)) | (apply Chain.take;rfl;rfl;(focus rintro w' ⟨s0,s1,s2,s3,s4,s5,s6,s7,s8,s9,s10,s11⟩;go_simp;with_reducible rfl);(focus simp only [Act.put,List.setIfInBounds_toArray,List.set_cons_zero,List.set_cons_succ,i64_w,i32_w];rfl)))
          refine one_ (i:=12) (N:=some 118) #[true,true,true,true,true,true,true,true,true,true,true,true,true,false] rfl rfl (one_of HT_.out (by kernel_rfl)) (by decide) (fun K hK => ?_)
          refine goes_ Try.func38 (by kernel_rfl) rfl #[.agg #[.int .i64 ((rd_T58 x9_4 x16_4).f0),.int .i64 ((rd_T58 x9_4 x16_4).f1),.float .f64 ((rd_T58 x9_4 x16_4).f2),.int .i64 ((rd_T58 x9_4 x16_4).f3),.float .f64 ((rd_T58 x9_4 x16_4).f4),.int .i64 ((rd_T58 x9_4 x16_4).f5)],.agg #[.int .i64 ((rd_T58 x9_4 (ji68)).f0),.int .i64 ((rd_T58 x9_4 (ji68)).f1),.float .f64 ((rd_T58 x9_4 (ji68)).f2),.int .i64 ((rd_T58 x9_4 (ji68)).f3),.float .f64 ((rd_T58 x9_4 (ji68)).f4),.int .i64 ((rd_T58 x9_4 (ji68)).f5)]] (by rfl) rfl rfl (by (try simp only [List.map_toArray,List.map_cons,List.map_nil]);first | done | (simp only [hji68];rfl) | rfl | (simp only [List.length_drop,List.length_take];rfl)) ?_
          with_reducible refine (beaconref16_ahead.calls ((rd_T58 x9_4 x16_4).f0) ((rd_T58 x9_4 x16_4).f1) ((rd_T58 x9_4 x16_4).f2) ((rd_T58 x9_4 x16_4).f3) ((rd_T58 x9_4 x16_4).f4) ((rd_T58 x9_4 x16_4).f5) ((rd_T58 x9_4 (ji68)).f0) ((rd_T58 x9_4 (ji68)).f1) ((rd_T58 x9_4 (ji68)).f2) ((rd_T58 x9_4 (ji68)).f3) ((rd_T58 x9_4 (ji68)).f4) ((rd_T58 x9_4 (ji68)).f5) true _ A71.out).mono ?_
          rintro e w76 ⟨rfl,hb⟩
          have HS0_:=(hb.cell (World.block_lt_of_cell? _ _ (hHeld.1))).trans (hHeld.1)
          have HS1_:=(hb.cell (World.block_lt_of_cell? _ _ (hHeld.2.1))).trans (hHeld.2.1)
          have HS2_:=(hb.cell (World.block_lt_of_cell? _ _ (hHeld.2.2.1))).trans (hHeld.2.2.1)
          have HS3_:=(hb.cell (World.block_lt_of_cell? _ _ (hHeld.2.2.2.1))).trans (hHeld.2.2.2.1)
          have HS4_:=(hb.cell (World.block_lt_of_cell? _ _ (hHeld.2.2.2.2.1))).trans (hHeld.2.2.2.2.1)
          have HS5_:=(hb.cell (World.block_lt_of_cell? _ _ (hHeld.2.2.2.2.2.1))).trans (hHeld.2.2.2.2.2.1)
          have HS6_:=(hb.cell (World.block_lt_of_cell? _ _ (hHeld.2.2.2.2.2.2.1))).trans (hHeld.2.2.2.2.2.2.1)
          have HS7_:=(hb.cell (World.block_lt_of_cell? _ _ (hHeld.2.2.2.2.2.2.2.1))).trans (hHeld.2.2.2.2.2.2.2.1)
          have HS8_:=(hb.cell (World.block_lt_of_cell? _ _ (hHeld.2.2.2.2.2.2.2.2.1))).trans (hHeld.2.2.2.2.2.2.2.2.1)
          have HS9_:=(hb.cell (World.block_lt_of_cell? _ _ (hHeld.2.2.2.2.2.2.2.2.2.1))).trans (hHeld.2.2.2.2.2.2.2.2.2.1)
          have HS10_:=(hb.cell (World.block_lt_of_cell? _ _ (hHeld.2.2.2.2.2.2.2.2.2.2.1))).trans (hHeld.2.2.2.2.2.2.2.2.2.2.1)
          have HS11_:=(hb.cell (World.block_lt_of_cell? _ _ (hHeld.2.2.2.2.2.2.2.2.2.2.2))).trans (hHeld.2.2.2.2.2.2.2.2.2.2.2)
          refine ⟨_,rfl,?_⟩
          have n0_:=Aside0.mk (Kd.R_below (by (with_reducible repeat (first | apply Kd.R_alloc | apply Kd.R_drewN | apply Kd.R_drew));exact HO_9.out) hb)
          have n1_:=Aside0.mk (below_step (by repeat (first | (with_reducible first | exact HB.out | apply below_alloc | apply pw_below_drewN | apply below_drew1) | exact HB.out)) hb)
          clear HO_9
          clear HB
          have HO_9:=n0_
          have HB:=n1_
          clear n0_ n1_
          (try clear hb)
          (try clear hb2)
          (try clear hk)
          (try clear hi)
          refine hK.out _ _ ⟨HS0_,HS1_,HS2_,HS3_,HS4_,HS5_,HS6_,HS7_,HS8_,HS9_,HS10_,HS11_⟩ (fun hHeld => ?_)
          clear hK K
          refine norm_ (a':=?_) ?_ ?_
          rotate_left
          ·show Act.put _ (some 118) _ = _
           simp only [Act.put,List.setIfInBounds_toArray,List.set_cons_zero,List.set_cons_succ,i64_w,i32_w]
           rfl
          refine manyT_ (fuel:=0) (a':=?_) ((13,0) :: []) #[true,true,true,true,true,true,true,true,true,true,true,true,true,true] rfl HT_ (by kernel_rfl) (fun _ _ _ _ _ h => h) (fun h => absurd h (by decide)) ?_ ?_
          rotate_left
          ·repeat (first | exact Chain.nil _ | (apply Chain.on;rfl;rfl;(focus intro w';go_simp;with_reducible rfl);(focus simp only [Act.put,List.setIfInBounds_toArray,List.set_cons_zero,List.set_cons_succ,i64_w,i32_w];rfl)))
          refine done_ (done_of HT_.out (by kernel_rfl)) ?_
          try go_wp2
          have n0_:=Aside0.mk (Kd.R_drew HO_9.out)
          have n1_:=Aside0.mk (below_drew1 HB.out)
          clear HO_9
          clear HB
          have HO_9:=n0_
          have HB:=n1_
          clear n0_ n1_
          have p420:0 ≤ ((ji68):Int):=of_decide_eq_true (by first | (with_reducible assumption) | assumption)
          have q420:(ji68) < (x9_4.length:Int):=of_decide_eq_true (by first | (with_reducible assumption) | assumption)
          obtain ⟨ad420,e420,hx420_0,hx420_1,hx420_2,hx420_3,hx420_4,hx420_5⟩:=at_T58 (Kd.R_reads' HO_9.out).2.2 (ji68) p420 q420
          obtain rfl:ad417 = ad420:=(by injection e420)
          replace p420:=eq_true p420
          replace q420:=eq_true q420
          have p421:0 ≤ (x16_4:Int):=of_decide_eq_true (by first | (with_reducible assumption) | assumption)
          have q421:x16_4 < (x9_4.length:Int):=of_decide_eq_true (by first | (with_reducible assumption) | assumption)
          obtain ⟨ad421,e421,hx421_0,hx421_1,hx421_2,hx421_3,hx421_4,hx421_5⟩:=at_T58 (Kd.R_reads' HO_9.out).2.2 x16_4 p421 q421
          obtain rfl:ad417 = ad421:=(by injection e421)
          replace p421:=eq_true p421
          replace q421:=eq_true q421
          have p73:0 ≤ (x16_4:Int):=of_decide_eq_true (by first | (with_reducible assumption) | assumption)
          have q73:(x16_4:Int) < ((x9_4.length:Int):Int):=of_decide_eq_true (by first | (with_reducible assumption) | assumption)
          obtain ⟨go73,co73,eo73,gb73,gl73,cl73,HG73⟩:=Kd.R_form HO_9.out (by omega)
          (first | cases eo73 | (injection eo73 with ea_ en_ ec_;(first | subst ea_ | (injection ea_ with ea_;subst ea_));subst ec_;clear en_))
          have GB73:=Aside0.mk gb73
          have GG73:=Aside0.mk HG73
          clear gb73 gl73 HG73
          (first | simp only [add_plain] at hx417_0 | skip)
          (first | simp only [add_plain] at hx417_1 | skip)
          (first | simp only [add_plain] at hx417_2 | skip)
          (first | simp only [add_plain] at hx417_3 | skip)
          (first | simp only [add_plain] at hx417_4 | skip)
          (first | simp only [add_plain] at hx417_5 | skip)
          (first | simp only [add_plain] at hx418_0 | skip)
          (first | simp only [add_plain] at hx418_1 | skip)
          (first | simp only [add_plain] at hx418_2 | skip)
          (first | simp only [add_plain] at hx418_3 | skip)
          (first | simp only [add_plain] at hx418_4 | skip)
          (first | simp only [add_plain] at hx418_5 | skip)
          (first | simp only [add_plain] at hx420_0 | skip)
          (first | simp only [add_plain] at hx420_1 | skip)
          (first | simp only [add_plain] at hx420_2 | skip)
          (first | simp only [add_plain] at hx420_3 | skip)
          (first | simp only [add_plain] at hx420_4 | skip)
          (first | simp only [add_plain] at hx420_5 | skip)
          (first | simp only [add_plain] at hx421_0 | skip)
          (first | simp only [add_plain] at hx421_1 | skip)
          (first | simp only [add_plain] at hx421_2 | skip)
          (first | simp only [add_plain] at hx421_3 | skip)
          (first | simp only [add_plain] at hx421_4 | skip)
          (first | simp only [add_plain] at hx421_5 | skip)
          obtain ⟨ce73,hcl73,hM73,hcc73,hfr73⟩:=Kd.R_elem HO_9.out z58 (x16_4:Int) p73 q73
          obtain rfl:=k58_openM hM73
          have hx73_0:World.cell? _ ⟨go73,(x16_4:Int).toNat * 6,none⟩ = some (.int .i64 ((rd_T58 x9_4 x16_4).f0)):=hcc73 0 _ rfl
          have hx73_1:World.cell? _ ⟨go73,(x16_4:Int).toNat * 6 + 1,none⟩ = some (.int .i64 ((rd_T58 x9_4 x16_4).f1)):=hcc73 1 _ rfl
          have hx73_2:World.cell? _ ⟨go73,(x16_4:Int).toNat * 6 + 2,none⟩ = some (.float .f64 ((rd_T58 x9_4 x16_4).f2)):=hcc73 2 _ rfl
          have hx73_3:World.cell? _ ⟨go73,(x16_4:Int).toNat * 6 + 3,none⟩ = some (.int .i64 ((rd_T58 x9_4 x16_4).f3)):=hcc73 3 _ rfl
          have hx73_4:World.cell? _ ⟨go73,(x16_4:Int).toNat * 6 + 4,none⟩ = some (.float .f64 ((rd_T58 x9_4 x16_4).f4)):=hcc73 4 _ rfl
          have hx73_5:World.cell? _ ⟨go73,(x16_4:Int).toNat * 6 + 5,none⟩ = some (.int .i64 ((rd_T58 x9_4 x16_4).f5)):=hcc73 5 _ rfl
          have hf73_0:World.frozen? _ ⟨go73,(x16_4:Int).toNat * 6,none⟩ = false:=hfr73 0
          have hf73_1:World.frozen? _ ⟨go73,(x16_4:Int).toNat * 6 + 1,none⟩ = false:=hfr73 1
          have hf73_2:World.frozen? _ ⟨go73,(x16_4:Int).toNat * 6 + 2,none⟩ = false:=hfr73 2
          have hf73_3:World.frozen? _ ⟨go73,(x16_4:Int).toNat * 6 + 3,none⟩ = false:=hfr73 3
          have hf73_4:World.frozen? _ ⟨go73,(x16_4:Int).toNat * 6 + 4,none⟩ = false:=hfr73 4
          have hf73_5:World.frozen? _ ⟨go73,(x16_4:Int).toNat * 6 + 5,none⟩ = false:=hfr73 5
          clear hcl73 hcc73 hfr73 hM73
          replace p73:=eq_true p73
          replace q73:=eq_true q73
          obtain ⟨ce78,hcl78,hM78,hcc78,hfr78⟩:=Kd.R_elem HO_9.out z58 (x16_4:Int) (of_decide_eq_true (by first | (with_reducible assumption) | assumption)) (by have h_:(x16_4:Int) < ((x9_4.length:Int):Int):=of_decide_eq_true (by first | (with_reducible assumption) | assumption);first | exact h_ | (have e_:=(Kd.R_reads' HO_9.out).1;omega) | simpa using h_)
          obtain rfl:=k58_openM hM78
          have HP78:=(Kd.R_seg HO_9.out (x16_4:Int) (of_decide_eq_true (by first | (with_reducible assumption) | assumption)) (by have h_:(x16_4:Int) < ((x9_4.length:Int):Int):=of_decide_eq_true (by first | (with_reducible assumption) | assumption);first | exact h_ | (have e_:=(Kd.R_reads' HO_9.out).1;omega) | simpa using h_) (seg:=[.int .i64 ((rd_T58 x9_4 (ji68)).f0),.int .i64 ((rd_T58 x9_4 (ji68)).f1),.float .f64 ((rd_T58 x9_4 (ji68)).f2),.int .i64 ((rd_T58 x9_4 (ji68)).f3),.float .f64 ((rd_T58 x9_4 (ji68)).f4),.int .i64 ((rd_T58 x9_4 (ji68)).f5)]) (j:=0) hcl78 hcc78 (show 6 ≤ 6 from by decide) (x':=(⟨(rd_T58 x9_4 (ji68)).f0,(rd_T58 x9_4 (ji68)).f1,(rd_T58 x9_4 (ji68)).f2,(rd_T58 x9_4 (ji68)).f3,(rd_T58 x9_4 (ji68)).f4,(rd_T58 x9_4 (ji68)).f5⟩:S58)) (k58_mkM _ _ _ (⟨(rd_T58 x9_4 (ji68)).f0,(rd_T58 x9_4 (ji68)).f1,(rd_T58 x9_4 (ji68)).f2,(rd_T58 x9_4 (ji68)).f3,(rd_T58 x9_4 (ji68)).f4,(rd_T58 x9_4 (ji68)).f5⟩:S58) ) (fun _ hk => hk)).1
          rw [← Ny422.out] at HP78
          have HQ78:=Aside0.mk HP78
          clear hcl78 hcc78 hfr78 hM78 HP78
          have p74:0 ≤ ((ji68):Int):=of_decide_eq_true (by first | (with_reducible assumption) | assumption)
          have q74:((ji68):Int) < ((x9_4.length:Int):Int):=of_decide_eq_true (by first | (with_reducible assumption) | assumption)
          obtain ⟨ce74,hcl74,hM74,hcc74,hfr74⟩:=Kd.R_elem HQ78.out z58 ((ji68):Int) p74 q74
          obtain rfl:=k58_openM hM74
          have hx74_0:World.cell? _ ⟨go73,((ji68):Int).toNat * 6,none⟩ = some (.int .i64 ((rd_T58 y422 (ji68)).f0)):=hcc74 0 _ rfl
          have hx74_1:World.cell? _ ⟨go73,((ji68):Int).toNat * 6 + 1,none⟩ = some (.int .i64 ((rd_T58 y422 (ji68)).f1)):=hcc74 1 _ rfl
          have hx74_2:World.cell? _ ⟨go73,((ji68):Int).toNat * 6 + 2,none⟩ = some (.float .f64 ((rd_T58 y422 (ji68)).f2)):=hcc74 2 _ rfl
          have hx74_3:World.cell? _ ⟨go73,((ji68):Int).toNat * 6 + 3,none⟩ = some (.int .i64 ((rd_T58 y422 (ji68)).f3)):=hcc74 3 _ rfl
          have hx74_4:World.cell? _ ⟨go73,((ji68):Int).toNat * 6 + 4,none⟩ = some (.float .f64 ((rd_T58 y422 (ji68)).f4)):=hcc74 4 _ rfl
          have hx74_5:World.cell? _ ⟨go73,((ji68):Int).toNat * 6 + 5,none⟩ = some (.int .i64 ((rd_T58 y422 (ji68)).f5)):=hcc74 5 _ rfl
          have hf74_0:World.frozen? _ ⟨go73,((ji68):Int).toNat * 6,none⟩ = false:=hfr74 0
          have hf74_1:World.frozen? _ ⟨go73,((ji68):Int).toNat * 6 + 1,none⟩ = false:=hfr74 1
          have hf74_2:World.frozen? _ ⟨go73,((ji68):Int).toNat * 6 + 2,none⟩ = false:=hfr74 2
          have hf74_3:World.frozen? _ ⟨go73,((ji68):Int).toNat * 6 + 3,none⟩ = false:=hfr74 3
          have hf74_4:World.frozen? _ ⟨go73,((ji68):Int).toNat * 6 + 4,none⟩ = false:=hfr74 4
          have hf74_5:World.frozen? _ ⟨go73,((ji68):Int).toNat * 6 + 5,none⟩ = false:=hfr74 5
          clear hcl74 hcc74 hfr74 hM74
          replace p74:=eq_true p74
          replace q74:=eq_true q74
          obtain ⟨ce79,hcl79,hM79,hcc79,hfr79⟩:=Kd.R_elem HQ78.out z58 ((ji68):Int) (of_decide_eq_true (by first | (with_reducible assumption) | assumption)) (by have h_:((ji68):Int) < ((x9_4.length:Int):Int):=of_decide_eq_true (by first | (with_reducible assumption) | assumption);first | exact h_ | (have e_:=(Kd.R_reads' HO_9.out).1;omega) | simpa using h_)
          obtain rfl:=k58_openM hM79
          have HP79:=(Kd.R_seg HQ78.out ((ji68):Int) (of_decide_eq_true (by first | (with_reducible assumption) | assumption)) (by have h_:((ji68):Int) < ((x9_4.length:Int):Int):=of_decide_eq_true (by first | (with_reducible assumption) | assumption);first | exact h_ | (have e_:=(Kd.R_reads' HO_9.out).1;omega) | simpa using h_) (seg:=[.int .i64 ((rd_T58 x9_4 x16_4).f0),.int .i64 ((rd_T58 x9_4 x16_4).f1),.float .f64 ((rd_T58 x9_4 x16_4).f2),.int .i64 ((rd_T58 x9_4 x16_4).f3),.float .f64 ((rd_T58 x9_4 x16_4).f4),.int .i64 ((rd_T58 x9_4 x16_4).f5)]) (j:=0) hcl79 hcc79 (show 6 ≤ 6 from by decide) (x':=(⟨(rd_T58 x9_4 x16_4).f0,(rd_T58 x9_4 x16_4).f1,(rd_T58 x9_4 x16_4).f2,(rd_T58 x9_4 x16_4).f3,(rd_T58 x9_4 x16_4).f4,(rd_T58 x9_4 x16_4).f5⟩:S58)) (k58_mkM _ _ _ (⟨(rd_T58 x9_4 x16_4).f0,(rd_T58 x9_4 x16_4).f1,(rd_T58 x9_4 x16_4).f2,(rd_T58 x9_4 x16_4).f3,(rd_T58 x9_4 x16_4).f4,(rd_T58 x9_4 x16_4).f5⟩:S58) ) (fun _ hk => hk)).1
          rw [← Ny423.out] at HP79
          have HQ79:=Aside0.mk HP79
          clear hcl79 hcc79 hfr79 hM79 HP79
          have hne_1:¬ ((x16_4).toNat = (ji68).toNat):=by have e_:=hji68;unfold wrap64 at e_;have p_:0 ≤ (x16_4:Int):=of_decide_eq_true (by first | (with_reducible assumption) | assumption);have q_:0 ≤ (ji68:Int):=of_decide_eq_true (by first | (with_reducible assumption) | assumption);omega
          have hne_2:¬ ((ji68).toNat = (x16_4).toNat):=fun h => hne_1 h.symm
          have hne_3:¬ ((x16_4).toNat * 6 = (ji68).toNat * 6):=by omega
          have hne_4:¬ ((ji68).toNat * 6 = (x16_4).toNat * 6):=by omega
          have hne_51:¬ ((x16_4).toNat * 6 + 1 = (ji68).toNat * 6 + 1):=by omega
          have hne_61:¬ ((ji68).toNat * 6 + 1 = (x16_4).toNat * 6 + 1):=by omega
          have hne_52:¬ ((x16_4).toNat * 6 + 2 = (ji68).toNat * 6 + 2):=by omega
          have hne_62:¬ ((ji68).toNat * 6 + 2 = (x16_4).toNat * 6 + 2):=by omega
          have hne_53:¬ ((x16_4).toNat * 6 + 3 = (ji68).toNat * 6 + 3):=by omega
          have hne_63:¬ ((ji68).toNat * 6 + 3 = (x16_4).toNat * 6 + 3):=by omega
          have hne_54:¬ ((x16_4).toNat * 6 + 4 = (ji68).toNat * 6 + 4):=by omega
          have hne_64:¬ ((ji68).toNat * 6 + 4 = (x16_4).toNat * 6 + 4):=by omega
          have hne_55:¬ ((x16_4).toNat * 6 + 5 = (ji68).toNat * 6 + 5):=by omega
          have hne_65:¬ ((ji68).toNat * 6 + 5 = (x16_4).toNat * 6 + 5):=by omega
          refine start_ (n:=18) (S:=fun w' => w'.cell? ⟨go73,((ji68)).toNat * 6,none⟩ = some (.int .i64 ((rd_T58 x9_4 (ji68)).f0)) ∧ w'.cell? ⟨go73,((ji68)).toNat * 6 + 1,none⟩ = some (.int .i64 ((rd_T58 x9_4 (ji68)).f1)) ∧ w'.cell? ⟨go73,((ji68)).toNat * 6 + 2,none⟩ = some (.float .f64 ((rd_T58 x9_4 (ji68)).f2)) ∧ w'.cell? ⟨go73,((ji68)).toNat * 6 + 3,none⟩ = some (.int .i64 ((rd_T58 x9_4 (ji68)).f3)) ∧ w'.cell? ⟨go73,((ji68)).toNat * 6 + 4,none⟩ = some (.float .f64 ((rd_T58 x9_4 (ji68)).f4)) ∧ w'.cell? ⟨go73,((ji68)).toNat * 6 + 5,none⟩ = some (.int .i64 ((rd_T58 x9_4 (ji68)).f5)) ∧ w'.cell? ⟨go73,((x16_4).toNat * 6),none⟩ = some (.int .i64 ((rd_T58 x9_4 x16_4).f0)) ∧ w'.cell? ⟨go73,((x16_4).toNat * 6) + 1,none⟩ = some (.int .i64 ((rd_T58 x9_4 x16_4).f1)) ∧ w'.cell? ⟨go73,((x16_4).toNat * 6) + 2,none⟩ = some (.float .f64 ((rd_T58 x9_4 x16_4).f2)) ∧ w'.cell? ⟨go73,((x16_4).toNat * 6) + 3,none⟩ = some (.int .i64 ((rd_T58 x9_4 x16_4).f3)) ∧ w'.cell? ⟨go73,((x16_4).toNat * 6) + 4,none⟩ = some (.float .f64 ((rd_T58 x9_4 x16_4).f4)) ∧ w'.cell? ⟨go73,((x16_4).toNat * 6) + 5,none⟩ = some (.int .i64 ((rd_T58 x9_4 x16_4).f5))) (ds:=[15,17]) #[false,false,false,false,false,false,false,false,false,false,false,false,false,false,false,false,false,false] (by kernel_rfl) rfl rfl ⟨hx420_0,hx420_1,hx420_2,hx420_3,hx420_4,hx420_5,hx421_0,hx421_1,hx421_2,hx421_3,hx421_4,hx421_5⟩ (fun hHeld => ?_);refine with_tabW beaconref16_Balls.tab28 beaconref16_Balls.bits28 (fun HT_ HW_ => ?_)
          generalize w76.drew = w77 at HO_9 HB GG73 HQ78 HQ79 hf73_0 hf73_1 hf73_2 hf73_3 hf73_4 hf73_5 hf74_0 hf74_1 hf74_2 hf74_3 hf74_4 hf74_5 hx417_0 hx417_1 hx417_2 hx417_3 hx417_4 hx417_5 hx418_0 hx418_1 hx418_2 hx418_3 hx418_4 hx418_5 hx420_0 hx420_1 hx420_2 hx420_3 hx420_4 hx420_5 hx421_0 hx421_1 hx421_2 hx421_3 hx421_4 hx421_5 hx73_0 hx73_1 hx73_2 hx73_3 hx73_4 hx73_5 hx74_0 hx74_1 hx74_2 hx74_3 hx74_4 hx74_5 hHeld ⊢
          obtain ⟨ceZ,hclZ,hMZ,hccZ,hfrZ⟩:=Kd.R_elem HO_9.out z58 ((ji68):Int) (show 0 ≤ (ji68:Int) from (of_decide_eq_true (by first | (with_reducible assumption) | assumption))) (show (ji68:Int) < ((x9_4.length:Int):Int) from (of_decide_eq_true (by first | (with_reducible assumption) | assumption)))
          have hfz_0:World.frozen? _ ⟨go73,((ji68):Int).toNat * 6,none⟩ = false:=hfrZ 0
          have hfz_1:World.frozen? _ ⟨go73,((ji68):Int).toNat * 6 + 1,none⟩ = false:=hfrZ 1
          have hfz_2:World.frozen? _ ⟨go73,((ji68):Int).toNat * 6 + 2,none⟩ = false:=hfrZ 2
          have hfz_3:World.frozen? _ ⟨go73,((ji68):Int).toNat * 6 + 3,none⟩ = false:=hfrZ 3
          have hfz_4:World.frozen? _ ⟨go73,((ji68):Int).toNat * 6 + 4,none⟩ = false:=hfrZ 4
          have hfz_5:World.frozen? _ ⟨go73,((ji68):Int).toNat * 6 + 5,none⟩ = false:=hfrZ 5
          clear hclZ hMZ hccZ hfrZ
          refine manyW_ (fuel:=3) (a':=?_) ((0,0) :: (1,0) :: (2,0) :: (3,0) :: (4,0) :: (5,0) :: (6,0) :: (7,0) :: (8,0) :: (10,0) :: (11,0) :: (12,0) :: (9,2) :: (13,2) :: (14,0) :: []) #[true,true,true,true,true,true,true,true,true,true,true,true,true,true,true,false,false,false] rfl HT_ HW_ (by kernel_rfl) (fun _ _ _ _ _ h => h) (fun _ => hHeld) ?_ ?_
          rotate_left
          ·repeat (first | exact Chain.nil _ | (apply Chain.on;rfl;rfl;(focus intro w';go_simp;with_reducible rfl);(focus simp only [Act.put,List.setIfInBounds_toArray,List.set_cons_zero,List.set_cons_succ,i64_w,i32_w];rfl)) | (apply Chain.take;rfl;rfl;(focus rintro w' ⟨s0,s1,s2,s3,s4,s5,s6,s7,s8,s9,s10,s11⟩;go_simp;with_reducible rfl);(focus simp only [Act.put,List.setIfInBounds_toArray,List.set_cons_zero,List.set_cons_succ,i64_w,i32_w];rfl)))
          refine last_ (i:=15) (N:=none) #[true,true,true,true,true,true,true,true,true,true,true,true,true,true,true,true,false,false] rfl rfl (one_of HT_.out (by kernel_rfl)) (by decide) (fun K hK => ?_)
          refine skip_ (w1:=?_) (by rfl) rfl ?_ ?_
          rotate_left
          ·go_simp
           rfl
          refine hK.out _ _ ?_
          clear hK K
          refine manyT_ (fuel:=1) (a':=?_) ((16,0) :: []) #[true,true,true,true,true,true,true,true,true,true,true,true,true,true,true,true,true,false] rfl HT_ (by kernel_rfl) (fun _ _ _ _ _ h => h) (fun h => absurd h (by decide)) ?_ ?_
          rotate_left
          ·repeat (first | exact Chain.nil _ | (apply Chain.on;rfl;rfl;(focus intro w';go_simp;with_reducible rfl);(focus simp only [Act.put,List.setIfInBounds_toArray,List.set_cons_zero,List.set_cons_succ,i64_w,i32_w];rfl)))
          refine last_ (i:=17) (N:=none) #[true,true,true,true,true,true,true,true,true,true,true,true,true,true,true,true,true,true] rfl rfl (one_of HT_.out (by kernel_rfl)) (by decide) (fun K hK => ?_)
          refine skip_ (w1:=?_) (by rfl) rfl ?_ ?_
          rotate_left
          ·go_simp
           rfl
          refine hK.out _ _ ?_
          clear hK K
          refine done_ (done_of HT_.out (by kernel_rfl)) ?_
          try go_wp2
          (try simp only [← hl9_4])
          go_roundg k4
          case measure => have:=HJ4.out;have:=HK2.out;have:=HK3.out;have:=HK4.out;omega
          case rel => exact ⟨(y423),(ji68),(by first | rfl | (simp;done) | (simp only [← hji68] <;> (first | rfl | simp)) | (simp [*];done)),H',⟨by have:=HJ4.out;have:=HK2.out;have:=HK3.out;have:=HK4.out;omega⟩,⟨by (try simp only [hl9_4]);(with_reducible repeat (first | apply Kd.R_alloc | apply Kd.R_drewN | apply Kd.R_drew));exact HQ79.out⟩,⟨by repeat (first | (with_reducible first | exact HB.out | apply below_alloc | apply pw_below_drewN | apply below_drew1 | refine below_set ?_ GB73.out | refine below_set ?_ GB73.out | refine below_set ?_ GB73.out | refine below_set ?_ GB73.out | refine below_set ?_ GB73.out | refine below_set ?_ GB73.out | refine below_set ?_ GB73.out | refine below_set ?_ GB73.out | refine below_set ?_ GB73.out | refine below_set ?_ GB73.out | refine below_set ?_ GB73.out | refine below_set ?_ GB73.out) | exact HB.out)⟩⟩
     rw [if_pos c10] at H
     have c10b0:decide (x10_2 < (l1.length:Int)) = true:=decide_eq_true c10
     clear c10
     have H':=Aside0.mk H
     clear H
     go_wp2
     go_loopg [9,11] k2 (fun kq v9 v11 w' => ∃ (x9_3:List (S58)) (x11_3:Int),v11 = .int .i64 x11_3 ∧ Aside0 (beaconref16_Balls.l1 kq a0 l1 a2 x9_3 x10_2 x11_3 = some (r1,r2)) ∧ Aside0 (kq ≤ k2) ∧ Aside0 (Kd.R k58 58 w' w.heap.size (fun _ => True) v9 x9_3) ∧ Aside0 (Below w.heap.size w w'))
     case atStart => exact ⟨(x9_2),(0),(by first | rfl | (simp;done) | (simp [*];done)),H',⟨Nat.le_refl _⟩,⟨by (with_reducible repeat (first | apply Kd.R_alloc | apply Kd.R_drewN | apply Kd.R_drew));exact HO_9.out⟩,⟨by repeat (first | (with_reducible first | exact HB.out | apply below_alloc | apply pw_below_drewN | apply below_drew1) | exact HB.out)⟩⟩
     case round =>
      clear H'
      obtain ⟨x9_3,x11_3,rfl,HA,HK3,HO_9,HB⟩:=hrel
      cases gk with
      | zero => exact absurd HA.out (by simp [beaconref16_Balls.l1])
      | succ k3 =>
       have H:=HA.out
       clear HA
       simp only [beaconref16_Balls.l1] at H
       by_cases c11:0 ≤ x10_2
       rotate_left
       ·rw [if_neg c11] at H
        exact absurd H (by simp)
       rw [if_pos c11] at H
       have c11b0:decide (0 ≤ x10_2) = true:=decide_eq_true c11
       clear c11
       by_cases c12:x10_2 < (l1.length:Int)
       rotate_left
       ·rw [if_neg c12] at H
        exact absurd H (by simp)
       rw [if_pos c12] at H
       have c12b0:decide (x10_2 < (l1.length:Int)) = true:=decide_eq_true c12
       clear c12
       by_cases c13:x11_3 < (((rd_T54 l1 x10_2).f2).length:Int)
       rotate_left
       ·rw [if_neg c13] at H
        have c13b0:decide (x11_3 < (((rd_T54 l1 x10_2).f2).length:Int)) = false:=decide_eq_false c13
        clear c13
        have H':=Aside0.mk H
        clear H
        have p399:0 ≤ (x10_2:Int):=of_decide_eq_true (by first | (with_reducible assumption) | assumption)
        have q399:x10_2 < (l1.length:Int):=of_decide_eq_true (by first | (with_reducible assumption) | assumption)
        obtain ⟨ad399,A399_2,c399_2,e399,hx399_0,hx399_1,hx399_2,hl399_2,hi399_2⟩:=at_T54 HR1.out x10_2 p399 q399
        cases e399
        replace hx399_0:=(HB.out.cell (World.block_lt_of_cell? w _ hx399_0)).trans hx399_0
        replace hx399_1:=(HB.out.cell (World.block_lt_of_cell? w _ hx399_1)).trans hx399_1
        replace hx399_2:=(HB.out.cell (World.block_lt_of_cell? w _ hx399_2)).trans hx399_2
        have HR399_2:=Aside0.mk hi399_2
        have HC399_2:=Aside0.mk hl399_2
        clear hi399_2 hl399_2
        replace p399:=eq_true p399
        replace q399:=eq_true q399
        go_wp2
        go_roundg k3
        case measure => have:=HJ4.out;have:=HK2.out;have:=HK3.out;omega
        case rel => exact ⟨(x9_3),(wrap64 (x10_2 + 1)),(by first | rfl | (simp;done) | (simp [*];done)),H',⟨by have:=HJ4.out;have:=HK2.out;have:=HK3.out;omega⟩,⟨by (with_reducible repeat (first | apply Kd.R_alloc | apply Kd.R_drewN | apply Kd.R_drew));exact HO_9.out⟩,⟨by repeat (first | (with_reducible first | exact HB.out | apply below_alloc | apply pw_below_drewN | apply below_drew1) | exact HB.out)⟩⟩
       rw [if_pos c13] at H
       have c13b0:decide (x11_3 < (((rd_T54 l1 x10_2).f2).length:Int)) = true:=decide_eq_true c13
       clear c13
       by_cases c14:0 ≤ x11_3
       rotate_left
       ·rw [if_neg c14] at H
        exact absurd H (by simp)
       rw [if_pos c14] at H
       have c14b0:decide (0 ≤ x11_3) = true:=decide_eq_true c14
       clear c14
       replace H:=Option.bind_eq_some_iff.mp H
       obtain ⟨⟨t403,t404,t405,t406,t407,t408,t409⟩,A150,H⟩:=H
       replace H:(if t409 = true then (beaconref16_Balls.l2 k3 a0 l1 a2 x9_3 x10_2 x11_3 0 t403 t404 t405 t406 t407 t408) else (beaconref16_Balls.l1 k3 a0 l1 a2 x9_3 x10_2 (wrap64 (x11_3 + 1)))) = some (r1,r2):=H
       have A15:=Aside0.mk A150
       clear A150
       by_cases c16:t409 = true
       rotate_left
       ·replace c16:=Bool.eq_false_iff.mpr c16
        subst c16
        have H1:(beaconref16_Balls.l1 k3 a0 l1 a2 x9_3 x10_2 (wrap64 (x11_3 + 1))) = some (r1,r2):=by rw [if_neg (show ¬ (false = true) by decide)] at H;exact H
        clear H
        have H:=H1
        clear H1
        have H':=Aside0.mk H
        clear H
        have p399:0 ≤ (x10_2:Int):=of_decide_eq_true (by first | (with_reducible assumption) | assumption)
        have q399:x10_2 < (l1.length:Int):=of_decide_eq_true (by first | (with_reducible assumption) | assumption)
        obtain ⟨ad399,A399_2,c399_2,e399,hx399_0,hx399_1,hx399_2,hl399_2,hi399_2⟩:=at_T54 HR1.out x10_2 p399 q399
        cases e399
        replace hx399_0:=(HB.out.cell (World.block_lt_of_cell? w _ hx399_0)).trans hx399_0
        replace hx399_1:=(HB.out.cell (World.block_lt_of_cell? w _ hx399_1)).trans hx399_1
        replace hx399_2:=(HB.out.cell (World.block_lt_of_cell? w _ hx399_2)).trans hx399_2
        have HR399_2:=Aside0.mk hi399_2
        have HC399_2:=Aside0.mk hl399_2
        clear hi399_2 hl399_2
        replace p399:=eq_true p399
        replace q399:=eq_true q399
        try go_wp2
        have n0_:=Aside0.mk (Kd.R_drew HO_9.out)
        have n1_:=Aside0.mk (below_drew1 HB.out)
        clear HO_9
        clear HB
        have HO_9:=n0_
        have HB:=n1_
        clear n0_ n1_
        have p400:0 ≤ (x10_2:Int):=of_decide_eq_true (by first | (with_reducible assumption) | assumption)
        have q400:x10_2 < (l1.length:Int):=of_decide_eq_true (by first | (with_reducible assumption) | assumption)
        obtain ⟨ad400,A400_2,c400_2,e400,hx400_0,hx400_1,hx400_2,hl400_2,hi400_2⟩:=at_T54 HR1.out x10_2 p400 q400
        have hw400_2:=hx400_2
        have hw400_1:=hx400_1
        have hw400_0:=hx400_0
        obtain rfl:ad399 = ad400:=(by injection e400)
        replace hx400_0:=(HB.out.cell (World.block_lt_of_cell? w _ hx400_0)).trans hx400_0
        replace hx400_1:=(HB.out.cell (World.block_lt_of_cell? w _ hx400_1)).trans hx400_1
        replace hx400_2:=(HB.out.cell (World.block_lt_of_cell? w _ hx400_2)).trans hx400_2
        have HR400_2:=Aside0.mk hi400_2
        have HC400_2:=Aside0.mk hl400_2
        clear hi400_2 hl400_2
        replace p400:=eq_true p400
        replace q400:=eq_true q400
        have p401:0 ≤ (x10_2:Int):=of_decide_eq_true (by first | (with_reducible assumption) | assumption)
        have q401:x10_2 < (l1.length:Int):=of_decide_eq_true (by first | (with_reducible assumption) | assumption)
        obtain ⟨ad401,A401_2,c401_2,e401,hx401_0,hx401_1,hx401_2,hl401_2,hi401_2⟩:=at_T54 HR1.out x10_2 p401 q401
        have hw401_2:=hx401_2
        have hw401_1:=hx401_1
        have hw401_0:=hx401_0
        obtain rfl:ad399 = ad401:=(by injection e401)
        replace hx401_0:=(HB.out.cell (World.block_lt_of_cell? w _ hx401_0)).trans hx401_0
        replace hx401_1:=(HB.out.cell (World.block_lt_of_cell? w _ hx401_1)).trans hx401_1
        replace hx401_2:=(HB.out.cell (World.block_lt_of_cell? w _ hx401_2)).trans hx401_2
        have HR401_2:=Aside0.mk hi401_2
        have HC401_2:=Aside0.mk hl401_2
        clear hi401_2 hl401_2
        replace p401:=eq_true p401
        replace q401:=eq_true q401
        have ea_:=Option.some.inj (hx400_2.symm.trans hx401_2)
        injection ea_ with ea_ en_ ec_
        subst ea_
        subst ec_
        clear en_
        have p402:0 ≤ (x11_3:Int):=of_decide_eq_true (by first | (with_reducible assumption) | assumption)
        have q402:x11_3 < (((rd_T54 l1 x10_2).f2).length:Int):=of_decide_eq_true (by first | (with_reducible assumption) | assumption)
        obtain ⟨ad402,e402,hx402_0,hx402_1,hx402_2,hx402_3,hx402_4⟩:=at_T56 HR401_2.out x11_3 p402 q402
        have hw402_4:=hx402_4
        have hw402_3:=hx402_3
        have hw402_2:=hx402_2
        have hw402_1:=hx402_1
        have hw402_0:=hx402_0
        cases e402
        replace hx402_0:=(HB.out.cell (World.block_lt_of_cell? w _ hx402_0)).trans hx402_0
        replace hx402_1:=(HB.out.cell (World.block_lt_of_cell? w _ hx402_1)).trans hx402_1
        replace hx402_2:=(HB.out.cell (World.block_lt_of_cell? w _ hx402_2)).trans hx402_2
        replace hx402_3:=(HB.out.cell (World.block_lt_of_cell? w _ hx402_3)).trans hx402_3
        replace hx402_4:=(HB.out.cell (World.block_lt_of_cell? w _ hx402_4)).trans hx402_4
        replace p402:=eq_true p402
        replace q402:=eq_true q402
        refine start_ (n:=21) (S:=fun w' => w'.cell? (ad399.add ((x10_2).toNat * 3)) = some (.int .i64 ((rd_T54 l1 x10_2).f0)) ∧ w'.cell? ⟨(ad399.add ((x10_2).toNat * 3)).block,(ad399.add ((x10_2).toNat * 3)).off + 1,none⟩ = some (.float .f64 ((rd_T54 l1 x10_2).f1)) ∧ w'.cell? ⟨(ad399.add ((x10_2).toNat * 3)).block,(ad399.add ((x10_2).toNat * 3)).off + 2,none⟩ = some (.slice (some ad402) ((rd_T54 l1 x10_2).f2).length c400_2) ∧ w'.cell? (ad399.add ((x10_2).toNat * 3)) = some (.int .i64 ((rd_T54 l1 x10_2).f0)) ∧ w'.cell? ⟨(ad399.add ((x10_2).toNat * 3)).block,(ad399.add ((x10_2).toNat * 3)).off + 1,none⟩ = some (.float .f64 ((rd_T54 l1 x10_2).f1)) ∧ w'.cell? ⟨(ad399.add ((x10_2).toNat * 3)).block,(ad399.add ((x10_2).toNat * 3)).off + 2,none⟩ = some (.slice (some ad402) ((rd_T54 l1 x10_2).f2).length c400_2) ∧ w'.cell? (ad402.add ((x11_3).toNat * 5)) = some (.int .i64 ((rd_T56 ((rd_T54 l1 x10_2).f2) x11_3).f0)) ∧ w'.cell? ⟨(ad402.add ((x11_3).toNat * 5)).block,(ad402.add ((x11_3).toNat * 5)).off + 1,none⟩ = some (.int .i64 ((rd_T56 ((rd_T54 l1 x10_2).f2) x11_3).f1)) ∧ w'.cell? ⟨(ad402.add ((x11_3).toNat * 5)).block,(ad402.add ((x11_3).toNat * 5)).off + 2,none⟩ = some (.float .f64 ((rd_T56 ((rd_T54 l1 x10_2).f2) x11_3).f2)) ∧ w'.cell? ⟨(ad402.add ((x11_3).toNat * 5)).block,(ad402.add ((x11_3).toNat * 5)).off + 3,none⟩ = some (.float .f64 ((rd_T56 ((rd_T54 l1 x10_2).f2) x11_3).f3)) ∧ w'.cell? ⟨(ad402.add ((x11_3).toNat * 5)).block,(ad402.add ((x11_3).toNat * 5)).off + 4,none⟩ = some (.int .i64 ((rd_T56 ((rd_T54 l1 x10_2).f2) x11_3).f4))) (ds:=[]) #[false,false,false,false,false,false,false,false,false,false,false,false,false,false,false,false,false,false,false,false,false] (by kernel_rfl) rfl rfl ⟨((HB.out.cell (World.block_lt_of_cell? w _ hw400_0)).trans hw400_0),((HB.out.cell (World.block_lt_of_cell? w _ hw400_1)).trans hw400_1),((HB.out.cell (World.block_lt_of_cell? w _ hw400_2)).trans hw400_2),((HB.out.cell (World.block_lt_of_cell? w _ hw401_0)).trans hw401_0),((HB.out.cell (World.block_lt_of_cell? w _ hw401_1)).trans hw401_1),((HB.out.cell (World.block_lt_of_cell? w _ hw401_2)).trans hw401_2),((HB.out.cell (World.block_lt_of_cell? w _ hw402_0)).trans hw402_0),((HB.out.cell (World.block_lt_of_cell? w _ hw402_1)).trans hw402_1),((HB.out.cell (World.block_lt_of_cell? w _ hw402_2)).trans hw402_2),((HB.out.cell (World.block_lt_of_cell? w _ hw402_3)).trans hw402_3),((HB.out.cell (World.block_lt_of_cell? w _ hw402_4)).trans hw402_4)⟩ (fun hHeld => ?_);refine with_tabW beaconref16_Balls.tab13 beaconref16_Balls.bits13 (fun HT_ HW_ => ?_)
        generalize wr.drew = w53 at HO_9 HB HR400_2 HR401_2 hx400_0 hx400_1 hx400_2 hx401_0 hx401_1 hx401_2 hx402_0 hx402_1 hx402_2 hx402_3 hx402_4 hHeld ⊢
        refine manyW_ (fuel:=7) (a':=?_) ((0,0) :: (1,0) :: (2,0) :: (3,0) :: (5,0) :: (6,0) :: (7,0) :: (8,0) :: (10,0) :: (13,0) :: (4,2) :: (9,2) :: (11,0) :: (12,2) :: []) #[true,true,true,true,true,true,true,true,true,true,true,true,true,true,false,false,false,false,false,false,false] rfl HT_ HW_ (by kernel_rfl) (fun _ _ _ _ _ h => h) (fun _ => hHeld) ?_ ?_
        rotate_left
        ·repeat (first | exact Chain.nil _ | (apply Chain.on;rfl;rfl;(focus intro w';go_simp;with_reducible rfl);(focus simp only [Act.put,List.setIfInBounds_toArray,List.set_cons_zero,List.set_cons_succ,i64_w,i32_w];rfl)) | (apply Chain.take;rfl;rfl;(focus rintro w' ⟨s0,s1,s2,s3,s4,s5,s6,s7,s8,s9,s10⟩;go_simp;with_reducible rfl);(focus simp only [Act.put,List.setIfInBounds_toArray,List.set_cons_zero,List.set_cons_succ,i64_w,i32_w];rfl)))
        refine join_ (σ:=Nat) 2 #[true,true,true,true,true,true,true,true,true,true,true,true,true,true,true,true,true,true,true,false,false] (fun s_ => [(58,.tuple #[.agg #[.int .i64 t403,.int .i64 t404,.float .f64 t405,.int .i64 t406,.float .f64 t407,.int .i64 t408],.bool false]),(12,.pointer (some ⟨s_,0,none⟩)),(43,.tuple #[.agg #[.int .i64 t403,.int .i64 t404,.float .f64 t405,.int .i64 t406,.float .f64 t407,.int .i64 t408],.bool false]),(59,.agg #[.int .i64 t403,.int .i64 t404,.float .f64 t405,.int .i64 t406,.float .f64 t407,.int .i64 t408]),(60,.bool false)]) (fun s_ w' => (w'.cell? (ad399.add ((x10_2).toNat * 3)) = some (.int .i64 ((rd_T54 l1 x10_2).f0)) ∧ w'.cell? ⟨(ad399.add ((x10_2).toNat * 3)).block,(ad399.add ((x10_2).toNat * 3)).off + 1,none⟩ = some (.float .f64 ((rd_T54 l1 x10_2).f1)) ∧ w'.cell? ⟨(ad399.add ((x10_2).toNat * 3)).block,(ad399.add ((x10_2).toNat * 3)).off + 2,none⟩ = some (.slice (some ad402) ((rd_T54 l1 x10_2).f2).length c400_2) ∧ w'.cell? (ad399.add ((x10_2).toNat * 3)) = some (.int .i64 ((rd_T54 l1 x10_2).f0)) ∧ w'.cell? ⟨(ad399.add ((x10_2).toNat * 3)).block,(ad399.add ((x10_2).toNat * 3)).off + 1,none⟩ = some (.float .f64 ((rd_T54 l1 x10_2).f1)) ∧ w'.cell? ⟨(ad399.add ((x10_2).toNat * 3)).block,(ad399.add ((x10_2).toNat * 3)).off + 2,none⟩ = some (.slice (some ad402) ((rd_T54 l1 x10_2).f2).length c400_2) ∧ w'.cell? (ad402.add ((x11_3).toNat * 5)) = some (.int .i64 ((rd_T56 ((rd_T54 l1 x10_2).f2) x11_3).f0)) ∧ w'.cell? ⟨(ad402.add ((x11_3).toNat * 5)).block,(ad402.add ((x11_3).toNat * 5)).off + 1,none⟩ = some (.int .i64 ((rd_T56 ((rd_T54 l1 x10_2).f2) x11_3).f1)) ∧ w'.cell? ⟨(ad402.add ((x11_3).toNat * 5)).block,(ad402.add ((x11_3).toNat * 5)).off + 2,none⟩ = some (.float .f64 ((rd_T56 ((rd_T54 l1 x10_2).f2) x11_3).f2)) ∧ w'.cell? ⟨(ad402.add ((x11_3).toNat * 5)).block,(ad402.add ((x11_3).toNat * 5)).off + 3,none⟩ = some (.float .f64 ((rd_T56 ((rd_T54 l1 x10_2).f2) x11_3).f3)) ∧ w'.cell? ⟨(ad402.add ((x11_3).toNat * 5)).block,(ad402.add ((x11_3).toNat * 5)).off + 4,none⟩ = some (.int .i64 ((rd_T56 ((rd_T54 l1 x10_2).f2) x11_3).f4))) ∧ (Kd.R k58 58 w' w.heap.size (fun k_ => k_ ≠ s_) u9 x9_3) ∧ (w'.heap[s_]? = some (.cells #[.int .i64 0,.int .i64 0,.float .f64 0,.int .i64 0,.float .f64 0,.int .i64 0] 58 (0,0))) ∧ (w.heap.size ≤ s_) ∧ (w.heap.size ≤ s_) ∧ (Below w.heap.size w w')) ?_ ?_
        rotate_left
        ·intro hCont
         refine two_ (i:=14) (j:=18) (Ni:=some 58) (Nj:=some 12) #[true,true,true,true,true,true,true,true,true,true,true,true,true,true,true,false,false,false,false,false,false] #[true,true,true,true,true,true,true,true,true,true,true,true,true,true,false,false,false,false,true,false,false] rfl rfl rfl rfl (two_of HT_.out (by kernel_rfl)) (by decide) (by decide) (fun K hK => ?_) (fun K hK => ?_)
         ·skip
          refine goes_ Try.func37 (by kernel_rfl) rfl #[.int .i64 a0,.agg #[.int .i64 ((rd_T54 l1 x10_2).f0),.float .f64 ((rd_T54 l1 x10_2).f1),.slice (some ad402) ((rd_T54 l1 x10_2).f2).length c400_2],.agg #[.int .i64 ((rd_T56 ((rd_T54 l1 x10_2).f2) x11_3).f0),.int .i64 ((rd_T56 ((rd_T54 l1 x10_2).f2) x11_3).f1),.float .f64 ((rd_T56 ((rd_T54 l1 x10_2).f2) x11_3).f2),.float .f64 ((rd_T56 ((rd_T54 l1 x10_2).f2) x11_3).f3),.int .i64 ((rd_T56 ((rd_T54 l1 x10_2).f2) x11_3).f4)],.float .f64 a2] (by rfl) rfl rfl (by (try simp only [List.map_toArray,List.map_cons,List.map_nil]);first | done | rfl | (simp only [List.length_drop,List.length_take];rfl)) ?_
          with_reducible refine (beaconref16_counted.calls a0 ((rd_T54 l1 x10_2).f0) ((rd_T54 l1 x10_2).f1) _ _ ((rd_T54 l1 x10_2).f2) ((rd_T56 ((rd_T54 l1 x10_2).f2) x11_3).f0) ((rd_T56 ((rd_T54 l1 x10_2).f2) x11_3).f1) ((rd_T56 ((rd_T54 l1 x10_2).f2) x11_3).f2) ((rd_T56 ((rd_T54 l1 x10_2).f2) x11_3).f3) ((rd_T56 ((rd_T54 l1 x10_2).f2) x11_3).f4) a2 t403 t404 t405 t406 t407 t408 false _ ?side1 ?side2 A15.out).mono ?_
          (case side1 => repeat (first | exact (Kd.C_below HR400_2.out HB.out) | (with_reducible refine Kd.C_alloc ?_ _) | (with_reducible refine Kd.C_drewN ?_ _) | (with_reducible refine Kd.C_drew ?_)))
          (case side2 => exact HC400_2.out)
          rintro e w54 ⟨rfl,hb⟩
          refine ⟨_,rfl,?_⟩
          have n0_:=Aside0.mk (Kd.R_below (by (with_reducible repeat (first | apply Kd.R_alloc | apply Kd.R_drewN | apply Kd.R_drew));exact HO_9.out) hb)
          have n1_:=Aside0.mk (below_step (by repeat (first | (with_reducible first | exact HB.out | apply below_alloc | apply pw_below_drewN | apply below_drew1) | exact HB.out)) hb)
          clear HO_9
          clear HB
          have HO_9:=n0_
          have HB:=n1_
          clear n0_ n1_
          (try clear hb)
          (try clear hb2)
          (try clear hk)
          (try clear hi)
          refine hK.out _ _ ⟨((HB.out.cell (World.block_lt_of_cell? w _ hw400_0)).trans hw400_0),((HB.out.cell (World.block_lt_of_cell? w _ hw400_1)).trans hw400_1),((HB.out.cell (World.block_lt_of_cell? w _ hw400_2)).trans hw400_2),((HB.out.cell (World.block_lt_of_cell? w _ hw401_0)).trans hw401_0),((HB.out.cell (World.block_lt_of_cell? w _ hw401_1)).trans hw401_1),((HB.out.cell (World.block_lt_of_cell? w _ hw401_2)).trans hw401_2),((HB.out.cell (World.block_lt_of_cell? w _ hw402_0)).trans hw402_0),((HB.out.cell (World.block_lt_of_cell? w _ hw402_1)).trans hw402_1),((HB.out.cell (World.block_lt_of_cell? w _ hw402_2)).trans hw402_2),((HB.out.cell (World.block_lt_of_cell? w _ hw402_3)).trans hw402_3),((HB.out.cell (World.block_lt_of_cell? w _ hw402_4)).trans hw402_4)⟩ (fun hHeld => ?_)
          clear hK K
          refine norm_ (a':=?_) ?_ ?_
          rotate_left
          ·show Act.put _ (some 58) _ = _
           simp only [Act.put,List.setIfInBounds_toArray,List.set_cons_zero,List.set_cons_succ,i64_w,i32_w]
           rfl
          refine manyT_ (fuel:=3) (a':=?_) ((15,0) :: (16,0) :: (17,0) :: []) #[true,true,true,true,true,true,true,true,true,true,true,true,true,true,true,true,true,true,false,false,false] rfl HT_ (by kernel_rfl) (fun _ _ _ _ _ h => h) (fun h => absurd h (by decide)) ?_ ?_
          rotate_left
          ·repeat (first | exact Chain.nil _ | (apply Chain.on;rfl;rfl;(focus intro w';go_simp;with_reducible rfl);(focus simp only [Act.put,List.setIfInBounds_toArray,List.set_cons_zero,List.set_cons_succ,i64_w,i32_w];rfl)))
          refine one_ (i:=18) (N:=some 12) #[true,true,true,true,true,true,true,true,true,true,true,true,true,true,true,true,true,true,true,false,false] rfl rfl (one_of HT_.out (by kernel_rfl)) (by decide) (fun K hK => ?_)
          refine box_step ?hg (N:=12) ?hd (cs:=#[.int .i64 0,.int .i64 0,.float .f64 0,.int .i64 0,.float .f64 0,.int .i64 0]) (t:=58) ?hr ?_;(case hd => rfl);(case hg => rfl);(case hr => first | (go_simp;done) | (go_simp;rfl))
          intro gb410 hg w55 hbox hb
          have n0_:=Aside0.mk (Kd.R_below (Kd.R_elderB (by (with_reducible repeat (first | apply Kd.R_alloc | apply Kd.R_drewN | apply Kd.R_drew));exact HO_9.out) gb410 (Nat.le_of_eq hg.symm)) hb)
          have n1_:=Aside0.mk (below_step (by repeat (first | (with_reducible first | exact HB.out | apply below_alloc | apply pw_below_drewN | apply below_drew1) | exact HB.out)) hb)
          have n2_:=Aside0.mk (hbox)
          have n3_:=Aside0.mk ((by rw [hg];exact (below_size (by repeat (first | (with_reducible first | exact HB.out | apply below_alloc | apply pw_below_drewN | apply below_drew1) | exact HB.out))):w.heap.size ≤ gb410))
          have n4_:=Aside0.mk ((by rw [hg];exact (below_size (by repeat (first | (with_reducible first | exact HB.out | apply below_alloc | apply pw_below_drewN | apply below_drew1) | exact HB.out))):w.heap.size ≤ gb410))
          clear HO_9
          clear HB
          have HO_9:=n0_
          have HB:=n1_
          have BK410:=n2_
          have GW410:=n3_
          have GE410:=n4_
          clear n0_ n1_ n2_ n3_ n4_
          clear hb hbox hg
          refine hK.out _ _ ⟨((HB.out.cell (World.block_lt_of_cell? w _ hw400_0)).trans hw400_0),((HB.out.cell (World.block_lt_of_cell? w _ hw400_1)).trans hw400_1),((HB.out.cell (World.block_lt_of_cell? w _ hw400_2)).trans hw400_2),((HB.out.cell (World.block_lt_of_cell? w _ hw401_0)).trans hw401_0),((HB.out.cell (World.block_lt_of_cell? w _ hw401_1)).trans hw401_1),((HB.out.cell (World.block_lt_of_cell? w _ hw401_2)).trans hw401_2),((HB.out.cell (World.block_lt_of_cell? w _ hw402_0)).trans hw402_0),((HB.out.cell (World.block_lt_of_cell? w _ hw402_1)).trans hw402_1),((HB.out.cell (World.block_lt_of_cell? w _ hw402_2)).trans hw402_2),((HB.out.cell (World.block_lt_of_cell? w _ hw402_3)).trans hw402_3),((HB.out.cell (World.block_lt_of_cell? w _ hw402_4)).trans hw402_4)⟩ (fun hHeld => ?_)
          clear hK K
          refine norm_ (a':=?_) ?_ ?_
          rotate_left
          ·show Act.put _ (some 12) _ = _
           simp only [Act.put,List.setIfInBounds_toArray,List.set_cons_zero,List.set_cons_succ,i64_w,i32_w]
           rfl
          exact norm_ (by simp only [putAll,Act.put,List.setIfInBounds_toArray,List.set_cons_zero,List.set_cons_succ]) (hCont (gb410) _ ⟨hHeld,(by (with_reducible repeat (first | apply Kd.R_alloc | apply Kd.R_drewN | apply Kd.R_drew));exact Kd.R_mono HO_9.out (fun _ hk => hk.2)),(by (with_reducible repeat (first | refine blk_drewN ?_ _ | refine blk_drew ?_ | refine blk_alloc ?_ _));exact BK410.out),GW410.out,GE410.out,(by repeat (first | (with_reducible first | exact HB.out | apply below_alloc | apply pw_below_drewN | apply below_drew1 | refine below_set ?_ GE410.out) | exact HB.out))⟩)
         skip
         refine box_step ?hg (N:=12) ?hd (cs:=#[.int .i64 0,.int .i64 0,.float .f64 0,.int .i64 0,.float .f64 0,.int .i64 0]) (t:=58) ?hr ?_;(case hd => rfl);(case hg => rfl);(case hr => first | (go_simp;done) | (go_simp;rfl))
         intro gb410 hg w54 hbox hb
         have n0_:=Aside0.mk (Kd.R_below (Kd.R_elderB (by (with_reducible repeat (first | apply Kd.R_alloc | apply Kd.R_drewN | apply Kd.R_drew));exact HO_9.out) gb410 (Nat.le_of_eq hg.symm)) hb)
         have n1_:=Aside0.mk (below_step (by repeat (first | (with_reducible first | exact HB.out | apply below_alloc | apply pw_below_drewN | apply below_drew1) | exact HB.out)) hb)
         have n2_:=Aside0.mk (hbox)
         have n3_:=Aside0.mk ((by rw [hg];exact (below_size (by repeat (first | (with_reducible first | exact HB.out | apply below_alloc | apply pw_below_drewN | apply below_drew1) | exact HB.out))):w.heap.size ≤ gb410))
         have n4_:=Aside0.mk ((by rw [hg];exact (below_size (by repeat (first | (with_reducible first | exact HB.out | apply below_alloc | apply pw_below_drewN | apply below_drew1) | exact HB.out))):w.heap.size ≤ gb410))
         clear HO_9
         clear HB
         have HO_9:=n0_
         have HB:=n1_
         have BK410:=n2_
         have GW410:=n3_
         have GE410:=n4_
         clear n0_ n1_ n2_ n3_ n4_
         clear hb hbox hg
         refine hK.out _ _ ⟨((HB.out.cell (World.block_lt_of_cell? w _ hw400_0)).trans hw400_0),((HB.out.cell (World.block_lt_of_cell? w _ hw400_1)).trans hw400_1),((HB.out.cell (World.block_lt_of_cell? w _ hw400_2)).trans hw400_2),((HB.out.cell (World.block_lt_of_cell? w _ hw401_0)).trans hw401_0),((HB.out.cell (World.block_lt_of_cell? w _ hw401_1)).trans hw401_1),((HB.out.cell (World.block_lt_of_cell? w _ hw401_2)).trans hw401_2),((HB.out.cell (World.block_lt_of_cell? w _ hw402_0)).trans hw402_0),((HB.out.cell (World.block_lt_of_cell? w _ hw402_1)).trans hw402_1),((HB.out.cell (World.block_lt_of_cell? w _ hw402_2)).trans hw402_2),((HB.out.cell (World.block_lt_of_cell? w _ hw402_3)).trans hw402_3),((HB.out.cell (World.block_lt_of_cell? w _ hw402_4)).trans hw402_4)⟩ (fun hHeld => ?_)
         clear hK K
         refine norm_ (a':=?_) ?_ ?_
         rotate_left
         ·show Act.put _ (some 12) _ = _
          simp only [Act.put,List.setIfInBounds_toArray,List.set_cons_zero,List.set_cons_succ,i64_w,i32_w]
          rfl
         refine one_ (i:=14) (N:=some 58) #[true,true,true,true,true,true,true,true,true,true,true,true,true,true,true,false,false,false,true,false,false] rfl rfl (one_of HT_.out (by kernel_rfl)) (by decide) (fun K hK => ?_)
         refine goes_ Try.func37 (by kernel_rfl) rfl #[.int .i64 a0,.agg #[.int .i64 ((rd_T54 l1 x10_2).f0),.float .f64 ((rd_T54 l1 x10_2).f1),.slice (some ad402) ((rd_T54 l1 x10_2).f2).length c400_2],.agg #[.int .i64 ((rd_T56 ((rd_T54 l1 x10_2).f2) x11_3).f0),.int .i64 ((rd_T56 ((rd_T54 l1 x10_2).f2) x11_3).f1),.float .f64 ((rd_T56 ((rd_T54 l1 x10_2).f2) x11_3).f2),.float .f64 ((rd_T56 ((rd_T54 l1 x10_2).f2) x11_3).f3),.int .i64 ((rd_T56 ((rd_T54 l1 x10_2).f2) x11_3).f4)],.float .f64 a2] (by rfl) rfl rfl (by (try simp only [List.map_toArray,List.map_cons,List.map_nil]);first | done | rfl | (simp only [List.length_drop,List.length_take];rfl)) ?_
         with_reducible refine (beaconref16_counted.calls a0 ((rd_T54 l1 x10_2).f0) ((rd_T54 l1 x10_2).f1) _ _ ((rd_T54 l1 x10_2).f2) ((rd_T56 ((rd_T54 l1 x10_2).f2) x11_3).f0) ((rd_T56 ((rd_T54 l1 x10_2).f2) x11_3).f1) ((rd_T56 ((rd_T54 l1 x10_2).f2) x11_3).f2) ((rd_T56 ((rd_T54 l1 x10_2).f2) x11_3).f3) ((rd_T56 ((rd_T54 l1 x10_2).f2) x11_3).f4) a2 t403 t404 t405 t406 t407 t408 false _ ?side1 ?side2 A15.out).mono ?_
         (case side1 => repeat (first | exact (Kd.C_below HR400_2.out HB.out) | (with_reducible refine Kd.C_alloc ?_ _) | (with_reducible refine Kd.C_drewN ?_ _) | (with_reducible refine Kd.C_drew ?_)))
         (case side2 => exact HC400_2.out)
         rintro e w55 ⟨rfl,hb⟩
         refine ⟨_,rfl,?_⟩
         have n0_:=Aside0.mk (Kd.R_below (by (with_reducible repeat (first | apply Kd.R_alloc | apply Kd.R_drewN | apply Kd.R_drew));exact HO_9.out) hb)
         have n1_:=Aside0.mk (blk_below (g:=gb410) (o:=.cells #[.int .i64 0,.int .i64 0,.float .f64 0,.int .i64 0,.float .f64 0,.int .i64 0] 58 (0,0)) (by (with_reducible repeat (first | refine blk_drewN ?_ _ | refine blk_drew ?_ | refine blk_alloc ?_ _));exact BK410.out) hb)
         have n2_:=Aside0.mk (below_step (by repeat (first | (with_reducible first | exact HB.out | apply below_alloc | apply pw_below_drewN | apply below_drew1 | refine below_set ?_ GE410.out) | exact HB.out)) hb)
         clear HO_9
         clear BK410
         clear HB
         have HO_9:=n0_
         have BK410:=n1_
         have HB:=n2_
         clear n0_ n1_ n2_
         (try clear hb)
         (try clear hb2)
         (try clear hk)
         (try clear hi)
         refine hK.out _ _ ⟨((HB.out.cell (World.block_lt_of_cell? w _ hw400_0)).trans hw400_0),((HB.out.cell (World.block_lt_of_cell? w _ hw400_1)).trans hw400_1),((HB.out.cell (World.block_lt_of_cell? w _ hw400_2)).trans hw400_2),((HB.out.cell (World.block_lt_of_cell? w _ hw401_0)).trans hw401_0),((HB.out.cell (World.block_lt_of_cell? w _ hw401_1)).trans hw401_1),((HB.out.cell (World.block_lt_of_cell? w _ hw401_2)).trans hw401_2),((HB.out.cell (World.block_lt_of_cell? w _ hw402_0)).trans hw402_0),((HB.out.cell (World.block_lt_of_cell? w _ hw402_1)).trans hw402_1),((HB.out.cell (World.block_lt_of_cell? w _ hw402_2)).trans hw402_2),((HB.out.cell (World.block_lt_of_cell? w _ hw402_3)).trans hw402_3),((HB.out.cell (World.block_lt_of_cell? w _ hw402_4)).trans hw402_4)⟩ (fun hHeld => ?_)
         clear hK K
         refine norm_ (a':=?_) ?_ ?_
         rotate_left
         ·show Act.put _ (some 58) _ = _
          simp only [Act.put,List.setIfInBounds_toArray,List.set_cons_zero,List.set_cons_succ,i64_w,i32_w]
          rfl
         refine manyT_ (fuel:=2) (a':=?_) ((15,0) :: (16,0) :: (17,0) :: []) #[true,true,true,true,true,true,true,true,true,true,true,true,true,true,true,true,true,true,true,false,false] rfl HT_ (by kernel_rfl) (fun _ _ _ _ _ h => h) (fun h => absurd h (by decide)) ?_ ?_
         rotate_left
         ·repeat (first | exact Chain.nil _ | (apply Chain.on;rfl;rfl;(focus intro w';go_simp;with_reducible rfl);(focus simp only [Act.put,List.setIfInBounds_toArray,List.set_cons_zero,List.set_cons_succ,i64_w,i32_w];rfl)))
         exact norm_ (by simp only [putAll,Act.put,List.setIfInBounds_toArray,List.set_cons_zero,List.set_cons_succ]) (hCont (gb410) _ ⟨hHeld,(by (with_reducible repeat (first | apply Kd.R_alloc | apply Kd.R_drewN | apply Kd.R_drew));exact Kd.R_mono HO_9.out (fun _ hk => hk.2)),(by (with_reducible repeat (first | refine blk_drewN ?_ _ | refine blk_drew ?_ | refine blk_alloc ?_ _));exact BK410.out),GW410.out,GE410.out,(by repeat (first | (with_reducible first | exact HB.out | apply below_alloc | apply pw_below_drewN | apply below_drew1 | refine below_set ?_ GE410.out) | exact HB.out))⟩)
        rintro gb410 w56 ⟨hS_,h0_,h1_,h2_,h3_,h4_⟩
        have n0_:Aside0 (Kd.R k58 58 w56 w.heap.size (fun k_ => k_ ≠ gb410) u9 x9_3):=⟨h0_⟩
        have n1_:Aside0 (w56.heap[gb410]? = some (.cells #[.int .i64 0,.int .i64 0,.float .f64 0,.int .i64 0,.float .f64 0,.int .i64 0] 58 (0,0))):=⟨h1_⟩
        have n2_:Aside0 (w.heap.size ≤ gb410):=⟨h2_⟩
        have n3_:Aside0 (w.heap.size ≤ gb410):=⟨h3_⟩
        have n4_:Aside0 (Below w.heap.size w w56):=⟨h4_⟩
        clear HO_9
        clear HB
        clear h0_ h1_ h2_ h3_ h4_
        have HO_9:=n0_
        have BK410:=n1_
        have GW410:=n2_
        have GE410:=n3_
        have HB:=n4_
        clear n0_ n1_ n2_ n3_ n4_
        have hHeld:w56.cell? (ad399.add ((x10_2).toNat * 3)) = some (.int .i64 ((rd_T54 l1 x10_2).f0)) ∧ w56.cell? ⟨(ad399.add ((x10_2).toNat * 3)).block,(ad399.add ((x10_2).toNat * 3)).off + 1,none⟩ = some (.float .f64 ((rd_T54 l1 x10_2).f1)) ∧ w56.cell? ⟨(ad399.add ((x10_2).toNat * 3)).block,(ad399.add ((x10_2).toNat * 3)).off + 2,none⟩ = some (.slice (some ad402) ((rd_T54 l1 x10_2).f2).length c400_2) ∧ w56.cell? (ad399.add ((x10_2).toNat * 3)) = some (.int .i64 ((rd_T54 l1 x10_2).f0)) ∧ w56.cell? ⟨(ad399.add ((x10_2).toNat * 3)).block,(ad399.add ((x10_2).toNat * 3)).off + 1,none⟩ = some (.float .f64 ((rd_T54 l1 x10_2).f1)) ∧ w56.cell? ⟨(ad399.add ((x10_2).toNat * 3)).block,(ad399.add ((x10_2).toNat * 3)).off + 2,none⟩ = some (.slice (some ad402) ((rd_T54 l1 x10_2).f2).length c400_2) ∧ w56.cell? (ad402.add ((x11_3).toNat * 5)) = some (.int .i64 ((rd_T56 ((rd_T54 l1 x10_2).f2) x11_3).f0)) ∧ w56.cell? ⟨(ad402.add ((x11_3).toNat * 5)).block,(ad402.add ((x11_3).toNat * 5)).off + 1,none⟩ = some (.int .i64 ((rd_T56 ((rd_T54 l1 x10_2).f2) x11_3).f1)) ∧ w56.cell? ⟨(ad402.add ((x11_3).toNat * 5)).block,(ad402.add ((x11_3).toNat * 5)).off + 2,none⟩ = some (.float .f64 ((rd_T56 ((rd_T54 l1 x10_2).f2) x11_3).f2)) ∧ w56.cell? ⟨(ad402.add ((x11_3).toNat * 5)).block,(ad402.add ((x11_3).toNat * 5)).off + 3,none⟩ = some (.float .f64 ((rd_T56 ((rd_T54 l1 x10_2).f2) x11_3).f3)) ∧ w56.cell? ⟨(ad402.add ((x11_3).toNat * 5)).block,(ad402.add ((x11_3).toNat * 5)).off + 4,none⟩ = some (.int .i64 ((rd_T56 ((rd_T54 l1 x10_2).f2) x11_3).f4)):=hS_
        refine norm_ (a':=?_) ?_ ?_
        rotate_left
        ·simp only [putAll,Act.put,List.setIfInBounds_toArray,List.set_cons_zero,List.set_cons_succ]
         rfl
        refine one_ (i:=19) (N:=none) #[true,true,true,true,true,true,true,true,true,true,true,true,true,true,true,true,true,true,true,true,false] rfl rfl (one_of HT_.out (by kernel_rfl)) (by decide) (fun K hK => ?_)
        have hs57:w56.cell? ⟨gb410,0,none⟩ = some (.int .i64 0):=(blk_cell BK410.out 0).trans rfl
        have hfs57:=blk_frozen BK410.out 0
        have hs58:w56.cell? ⟨gb410,1,none⟩ = some (.int .i64 0):=(blk_cell BK410.out 1).trans rfl
        have hfs58:=blk_frozen BK410.out 1
        have hs59:w56.cell? ⟨gb410,2,none⟩ = some (.float .f64 0):=(blk_cell BK410.out 2).trans rfl
        have hfs59:=blk_frozen BK410.out 2
        have hs60:w56.cell? ⟨gb410,3,none⟩ = some (.int .i64 0):=(blk_cell BK410.out 3).trans rfl
        have hfs60:=blk_frozen BK410.out 3
        have hs61:w56.cell? ⟨gb410,4,none⟩ = some (.float .f64 0):=(blk_cell BK410.out 4).trans rfl
        have hfs61:=blk_frozen BK410.out 4
        have hs62:w56.cell? ⟨gb410,5,none⟩ = some (.int .i64 0):=(blk_cell BK410.out 5).trans rfl
        have hfs62:=blk_frozen BK410.out 5
        refine skip_ (w1:=?_) (by rfl) rfl ?_ ?_
        rotate_left
        ·go_simp
         rfl
        refine hK.out _ _ ⟨((cell_far (p:=⟨gb410,_,none⟩) (Nat.ne_of_lt (Nat.lt_of_lt_of_le (World.block_lt_of_cell? _ _ hw400_0) GW410.out)) _).trans (((cell_far (p:=⟨gb410,_,none⟩) (Nat.ne_of_lt (Nat.lt_of_lt_of_le (World.block_lt_of_cell? _ _ hw400_0) GW410.out)) _).trans (((cell_far (p:=⟨gb410,_,none⟩) (Nat.ne_of_lt (Nat.lt_of_lt_of_le (World.block_lt_of_cell? _ _ hw400_0) GW410.out)) _).trans (((cell_far (p:=⟨gb410,_,none⟩) (Nat.ne_of_lt (Nat.lt_of_lt_of_le (World.block_lt_of_cell? _ _ hw400_0) GW410.out)) _).trans (((cell_far (p:=⟨gb410,_,none⟩) (Nat.ne_of_lt (Nat.lt_of_lt_of_le (World.block_lt_of_cell? _ _ hw400_0) GW410.out)) _).trans (((cell_far (p:=⟨gb410,_,none⟩) (Nat.ne_of_lt (Nat.lt_of_lt_of_le (World.block_lt_of_cell? _ _ hw400_0) GW410.out)) _).trans (hHeld.1)))))))))))),((cell_far (p:=⟨gb410,_,none⟩) (Nat.ne_of_lt (Nat.lt_of_lt_of_le (World.block_lt_of_cell? _ _ hw400_1) GW410.out)) _).trans (((cell_far (p:=⟨gb410,_,none⟩) (Nat.ne_of_lt (Nat.lt_of_lt_of_le (World.block_lt_of_cell? _ _ hw400_1) GW410.out)) _).trans (((cell_far (p:=⟨gb410,_,none⟩) (Nat.ne_of_lt (Nat.lt_of_lt_of_le (World.block_lt_of_cell? _ _ hw400_1) GW410.out)) _).trans (((cell_far (p:=⟨gb410,_,none⟩) (Nat.ne_of_lt (Nat.lt_of_lt_of_le (World.block_lt_of_cell? _ _ hw400_1) GW410.out)) _).trans (((cell_far (p:=⟨gb410,_,none⟩) (Nat.ne_of_lt (Nat.lt_of_lt_of_le (World.block_lt_of_cell? _ _ hw400_1) GW410.out)) _).trans (((cell_far (p:=⟨gb410,_,none⟩) (Nat.ne_of_lt (Nat.lt_of_lt_of_le (World.block_lt_of_cell? _ _ hw400_1) GW410.out)) _).trans (hHeld.2.1)))))))))))),((cell_far (p:=⟨gb410,_,none⟩) (Nat.ne_of_lt (Nat.lt_of_lt_of_le (World.block_lt_of_cell? _ _ hw400_2) GW410.out)) _).trans (((cell_far (p:=⟨gb410,_,none⟩) (Nat.ne_of_lt (Nat.lt_of_lt_of_le (World.block_lt_of_cell? _ _ hw400_2) GW410.out)) _).trans (((cell_far (p:=⟨gb410,_,none⟩) (Nat.ne_of_lt (Nat.lt_of_lt_of_le (World.block_lt_of_cell? _ _ hw400_2) GW410.out)) _).trans (((cell_far (p:=⟨gb410,_,none⟩) (Nat.ne_of_lt (Nat.lt_of_lt_of_le (World.block_lt_of_cell? _ _ hw400_2) GW410.out)) _).trans (((cell_far (p:=⟨gb410,_,none⟩) (Nat.ne_of_lt (Nat.lt_of_lt_of_le (World.block_lt_of_cell? _ _ hw400_2) GW410.out)) _).trans (((cell_far (p:=⟨gb410,_,none⟩) (Nat.ne_of_lt (Nat.lt_of_lt_of_le (World.block_lt_of_cell? _ _ hw400_2) GW410.out)) _).trans (hHeld.2.2.1)))))))))))),((cell_far (p:=⟨gb410,_,none⟩) (Nat.ne_of_lt (Nat.lt_of_lt_of_le (World.block_lt_of_cell? _ _ hw401_0) GW410.out)) _).trans (((cell_far (p:=⟨gb410,_,none⟩) (Nat.ne_of_lt (Nat.lt_of_lt_of_le (World.block_lt_of_cell? _ _ hw401_0) GW410.out)) _).trans (((cell_far (p:=⟨gb410,_,none⟩) (Nat.ne_of_lt (Nat.lt_of_lt_of_le (World.block_lt_of_cell? _ _ hw401_0) GW410.out)) _).trans (((cell_far (p:=⟨gb410,_,none⟩) (Nat.ne_of_lt (Nat.lt_of_lt_of_le (World.block_lt_of_cell? _ _ hw401_0) GW410.out)) _).trans (((cell_far (p:=⟨gb410,_,none⟩) (Nat.ne_of_lt (Nat.lt_of_lt_of_le (World.block_lt_of_cell? _ _ hw401_0) GW410.out)) _).trans (((cell_far (p:=⟨gb410,_,none⟩) (Nat.ne_of_lt (Nat.lt_of_lt_of_le (World.block_lt_of_cell? _ _ hw401_0) GW410.out)) _).trans (hHeld.2.2.2.1)))))))))))),((cell_far (p:=⟨gb410,_,none⟩) (Nat.ne_of_lt (Nat.lt_of_lt_of_le (World.block_lt_of_cell? _ _ hw401_1) GW410.out)) _).trans (((cell_far (p:=⟨gb410,_,none⟩) (Nat.ne_of_lt (Nat.lt_of_lt_of_le (World.block_lt_of_cell? _ _ hw401_1) GW410.out)) _).trans (((cell_far (p:=⟨gb410,_,none⟩) (Nat.ne_of_lt (Nat.lt_of_lt_of_le (World.block_lt_of_cell? _ _ hw401_1) GW410.out)) _).trans (((cell_far (p:=⟨gb410,_,none⟩) (Nat.ne_of_lt (Nat.lt_of_lt_of_le (World.block_lt_of_cell? _ _ hw401_1) GW410.out)) _).trans (((cell_far (p:=⟨gb410,_,none⟩) (Nat.ne_of_lt (Nat.lt_of_lt_of_le (World.block_lt_of_cell? _ _ hw401_1) GW410.out)) _).trans (((cell_far (p:=⟨gb410,_,none⟩) (Nat.ne_of_lt (Nat.lt_of_lt_of_le (World.block_lt_of_cell? _ _ hw401_1) GW410.out)) _).trans (hHeld.2.2.2.2.1)))))))))))),((cell_far (p:=⟨gb410,_,none⟩) (Nat.ne_of_lt (Nat.lt_of_lt_of_le (World.block_lt_of_cell? _ _ hw401_2) GW410.out)) _).trans (((cell_far (p:=⟨gb410,_,none⟩) (Nat.ne_of_lt (Nat.lt_of_lt_of_le (World.block_lt_of_cell? _ _ hw401_2) GW410.out)) _).trans (((cell_far (p:=⟨gb410,_,none⟩) (Nat.ne_of_lt (Nat.lt_of_lt_of_le (World.block_lt_of_cell? _ _ hw401_2) GW410.out)) _).trans (((cell_far (p:=⟨gb410,_,none⟩) (Nat.ne_of_lt (Nat.lt_of_lt_of_le (World.block_lt_of_cell? _ _ hw401_2) GW410.out)) _).trans (((cell_far (p:=⟨gb410,_,none⟩) (Nat.ne_of_lt (Nat.lt_of_lt_of_le (World.block_lt_of_cell? _ _ hw401_2) GW410.out)) _).trans (((cell_far (p:=⟨gb410,_,none⟩) (Nat.ne_of_lt (Nat.lt_of_lt_of_le (World.block_lt_of_cell? _ _ hw401_2) GW410.out)) _).trans (hHeld.2.2.2.2.2.1)))))))))))),((cell_far (p:=⟨gb410,_,none⟩) (Nat.ne_of_lt (Nat.lt_of_lt_of_le (World.block_lt_of_cell? _ _ hw402_0) GW410.out)) _).trans (((cell_far (p:=⟨gb410,_,none⟩) (Nat.ne_of_lt (Nat.lt_of_lt_of_le (World.block_lt_of_cell? _ _ hw402_0) GW410.out)) _).trans (((cell_far (p:=⟨gb410,_,none⟩) (Nat.ne_of_lt (Nat.lt_of_lt_of_le (World.block_lt_of_cell? _ _ hw402_0) GW410.out)) _).trans (((cell_far (p:=⟨gb410,_,none⟩) (Nat.ne_of_lt (Nat.lt_of_lt_of_le (World.block_lt_of_cell? _ _ hw402_0) GW410.out)) _).trans (((cell_far (p:=⟨gb410,_,none⟩) (Nat.ne_of_lt (Nat.lt_of_lt_of_le (World.block_lt_of_cell? _ _ hw402_0) GW410.out)) _).trans (((cell_far (p:=⟨gb410,_,none⟩) (Nat.ne_of_lt (Nat.lt_of_lt_of_le (World.block_lt_of_cell? _ _ hw402_0) GW410.out)) _).trans (hHeld.2.2.2.2.2.2.1)))))))))))),((cell_far (p:=⟨gb410,_,none⟩) (Nat.ne_of_lt (Nat.lt_of_lt_of_le (World.block_lt_of_cell? _ _ hw402_1) GW410.out)) _).trans (((cell_far (p:=⟨gb410,_,none⟩) (Nat.ne_of_lt (Nat.lt_of_lt_of_le (World.block_lt_of_cell? _ _ hw402_1) GW410.out)) _).trans (((cell_far (p:=⟨gb410,_,none⟩) (Nat.ne_of_lt (Nat.lt_of_lt_of_le (World.block_lt_of_cell? _ _ hw402_1) GW410.out)) _).trans (((cell_far (p:=⟨gb410,_,none⟩) (Nat.ne_of_lt (Nat.lt_of_lt_of_le (World.block_lt_of_cell? _ _ hw402_1) GW410.out)) _).trans (((cell_far (p:=⟨gb410,_,none⟩) (Nat.ne_of_lt (Nat.lt_of_lt_of_le (World.block_lt_of_cell? _ _ hw402_1) GW410.out)) _).trans (((cell_far (p:=⟨gb410,_,none⟩) (Nat.ne_of_lt (Nat.lt_of_lt_of_le (World.block_lt_of_cell? _ _ hw402_1) GW410.out)) _).trans (hHeld.2.2.2.2.2.2.2.1)))))))))))),((cell_far (p:=⟨gb410,_,none⟩) (Nat.ne_of_lt (Nat.lt_of_lt_of_le (World.block_lt_of_cell? _ _ hw402_2) GW410.out)) _).trans (((cell_far (p:=⟨gb410,_,none⟩) (Nat.ne_of_lt (Nat.lt_of_lt_of_le (World.block_lt_of_cell? _ _ hw402_2) GW410.out)) _).trans (((cell_far (p:=⟨gb410,_,none⟩) (Nat.ne_of_lt (Nat.lt_of_lt_of_le (World.block_lt_of_cell? _ _ hw402_2) GW410.out)) _).trans (((cell_far (p:=⟨gb410,_,none⟩) (Nat.ne_of_lt (Nat.lt_of_lt_of_le (World.block_lt_of_cell? _ _ hw402_2) GW410.out)) _).trans (((cell_far (p:=⟨gb410,_,none⟩) (Nat.ne_of_lt (Nat.lt_of_lt_of_le (World.block_lt_of_cell? _ _ hw402_2) GW410.out)) _).trans (((cell_far (p:=⟨gb410,_,none⟩) (Nat.ne_of_lt (Nat.lt_of_lt_of_le (World.block_lt_of_cell? _ _ hw402_2) GW410.out)) _).trans (hHeld.2.2.2.2.2.2.2.2.1)))))))))))),((cell_far (p:=⟨gb410,_,none⟩) (Nat.ne_of_lt (Nat.lt_of_lt_of_le (World.block_lt_of_cell? _ _ hw402_3) GW410.out)) _).trans (((cell_far (p:=⟨gb410,_,none⟩) (Nat.ne_of_lt (Nat.lt_of_lt_of_le (World.block_lt_of_cell? _ _ hw402_3) GW410.out)) _).trans (((cell_far (p:=⟨gb410,_,none⟩) (Nat.ne_of_lt (Nat.lt_of_lt_of_le (World.block_lt_of_cell? _ _ hw402_3) GW410.out)) _).trans (((cell_far (p:=⟨gb410,_,none⟩) (Nat.ne_of_lt (Nat.lt_of_lt_of_le (World.block_lt_of_cell? _ _ hw402_3) GW410.out)) _).trans (((cell_far (p:=⟨gb410,_,none⟩) (Nat.ne_of_lt (Nat.lt_of_lt_of_le (World.block_lt_of_cell? _ _ hw402_3) GW410.out)) _).trans (((cell_far (p:=⟨gb410,_,none⟩) (Nat.ne_of_lt (Nat.lt_of_lt_of_le (World.block_lt_of_cell? _ _ hw402_3) GW410.out)) _).trans (hHeld.2.2.2.2.2.2.2.2.2.1)))))))))))),((cell_far (p:=⟨gb410,_,none⟩) (Nat.ne_of_lt (Nat.lt_of_lt_of_le (World.block_lt_of_cell? _ _ hw402_4) GW410.out)) _).trans (((cell_far (p:=⟨gb410,_,none⟩) (Nat.ne_of_lt (Nat.lt_of_lt_of_le (World.block_lt_of_cell? _ _ hw402_4) GW410.out)) _).trans (((cell_far (p:=⟨gb410,_,none⟩) (Nat.ne_of_lt (Nat.lt_of_lt_of_le (World.block_lt_of_cell? _ _ hw402_4) GW410.out)) _).trans (((cell_far (p:=⟨gb410,_,none⟩) (Nat.ne_of_lt (Nat.lt_of_lt_of_le (World.block_lt_of_cell? _ _ hw402_4) GW410.out)) _).trans (((cell_far (p:=⟨gb410,_,none⟩) (Nat.ne_of_lt (Nat.lt_of_lt_of_le (World.block_lt_of_cell? _ _ hw402_4) GW410.out)) _).trans (((cell_far (p:=⟨gb410,_,none⟩) (Nat.ne_of_lt (Nat.lt_of_lt_of_le (World.block_lt_of_cell? _ _ hw402_4) GW410.out)) _).trans (hHeld.2.2.2.2.2.2.2.2.2.2))))))))))))⟩ (fun hHeld => ?_)
        clear hK K
        refine manyT_ (fuel:=0) (a':=?_) ((20,0) :: []) #[true,true,true,true,true,true,true,true,true,true,true,true,true,true,true,true,true,true,true,true,true] rfl HT_ (by kernel_rfl) (fun _ _ _ _ _ h => h) (fun h => absurd h (by decide)) ?_ ?_
        rotate_left
        ·repeat (first | exact Chain.nil _ | (apply Chain.on;rfl;rfl;(focus intro w';go_simp;with_reducible rfl);(focus simp only [Act.put,List.setIfInBounds_toArray,List.set_cons_zero,List.set_cons_succ,i64_w,i32_w];rfl)))
        refine done_ (done_of HT_.out (by kernel_rfl)) ?_
        try go_wp2
        go_roundg k3
        case measure => have:=HJ4.out;have:=HK2.out;have:=HK3.out;omega
        case rel => exact ⟨(x9_3),(wrap64 (x11_3 + 1)),(by first | rfl | (simp;done) | (simp [*];done)),H',⟨by have:=HJ4.out;have:=HK2.out;have:=HK3.out;omega⟩,⟨by (with_reducible repeat (first | apply Kd.R_alloc | apply Kd.R_drewN | apply Kd.R_drew));exact Kd.R_mono (Kd.R_far (p:=⟨gb410,5,none⟩) (Kd.R_far (p:=⟨gb410,4,none⟩) (Kd.R_far (p:=⟨gb410,3,none⟩) (Kd.R_far (p:=⟨gb410,2,none⟩) (Kd.R_far (p:=⟨gb410,1,none⟩) (Kd.R_far (p:=⟨gb410,0,none⟩) (Kd.R_mono HO_9.out (fun k_ hk => (⟨hk,hk⟩:_ ∧ k_ ≠ gb410))) (fun _ hk => hk.2) (.int .i64 t403)) (fun _ hk => hk.2) (.int .i64 t404)) (fun _ hk => hk.2) (.float .f64 t405)) (fun _ hk => hk.2) (.int .i64 t406)) (fun _ hk => hk.2) (.float .f64 t407)) (fun _ hk => hk.2) (.int .i64 t408)) (fun _ hk => trivial)⟩,⟨by repeat (first | (with_reducible first | exact HB.out | apply below_alloc | apply pw_below_drewN | apply below_drew1 | refine below_set ?_ GE410.out) | exact HB.out)⟩⟩
       subst c16
       have H1:(beaconref16_Balls.l2 k3 a0 l1 a2 x9_3 x10_2 x11_3 0 t403 t404 t405 t406 t407 t408) = some (r1,r2):=by rw [if_pos rfl] at H;exact H
       clear H
       have H:=H1
       clear H1
       have HC17:=Aside0.mk H
       clear H
       have p399:0 ≤ (x10_2:Int):=of_decide_eq_true (by first | (with_reducible assumption) | assumption)
       have q399:x10_2 < (l1.length:Int):=of_decide_eq_true (by first | (with_reducible assumption) | assumption)
       obtain ⟨ad399,A399_2,c399_2,e399,hx399_0,hx399_1,hx399_2,hl399_2,hi399_2⟩:=at_T54 HR1.out x10_2 p399 q399
       cases e399
       replace hx399_0:=(HB.out.cell (World.block_lt_of_cell? w _ hx399_0)).trans hx399_0
       replace hx399_1:=(HB.out.cell (World.block_lt_of_cell? w _ hx399_1)).trans hx399_1
       replace hx399_2:=(HB.out.cell (World.block_lt_of_cell? w _ hx399_2)).trans hx399_2
       have HR399_2:=Aside0.mk hi399_2
       have HC399_2:=Aside0.mk hl399_2
       clear hi399_2 hl399_2
       replace p399:=eq_true p399
       replace q399:=eq_true q399
       try go_wp2
       have n0_:=Aside0.mk (Kd.R_drew HO_9.out)
       have n1_:=Aside0.mk (below_drew1 HB.out)
       clear HO_9
       clear HB
       have HO_9:=n0_
       have HB:=n1_
       clear n0_ n1_
       have p400:0 ≤ (x10_2:Int):=of_decide_eq_true (by first | (with_reducible assumption) | assumption)
       have q400:x10_2 < (l1.length:Int):=of_decide_eq_true (by first | (with_reducible assumption) | assumption)
       obtain ⟨ad400,A400_2,c400_2,e400,hx400_0,hx400_1,hx400_2,hl400_2,hi400_2⟩:=at_T54 HR1.out x10_2 p400 q400
       have hw400_2:=hx400_2
       have hw400_1:=hx400_1
       have hw400_0:=hx400_0
       obtain rfl:ad399 = ad400:=(by injection e400)
       replace hx400_0:=(HB.out.cell (World.block_lt_of_cell? w _ hx400_0)).trans hx400_0
       replace hx400_1:=(HB.out.cell (World.block_lt_of_cell? w _ hx400_1)).trans hx400_1
       replace hx400_2:=(HB.out.cell (World.block_lt_of_cell? w _ hx400_2)).trans hx400_2
       have HR400_2:=Aside0.mk hi400_2
       have HC400_2:=Aside0.mk hl400_2
       clear hi400_2 hl400_2
       replace p400:=eq_true p400
       replace q400:=eq_true q400
       have p401:0 ≤ (x10_2:Int):=of_decide_eq_true (by first | (with_reducible assumption) | assumption)
       have q401:x10_2 < (l1.length:Int):=of_decide_eq_true (by first | (with_reducible assumption) | assumption)
       obtain ⟨ad401,A401_2,c401_2,e401,hx401_0,hx401_1,hx401_2,hl401_2,hi401_2⟩:=at_T54 HR1.out x10_2 p401 q401
       have hw401_2:=hx401_2
       have hw401_1:=hx401_1
       have hw401_0:=hx401_0
       obtain rfl:ad399 = ad401:=(by injection e401)
       replace hx401_0:=(HB.out.cell (World.block_lt_of_cell? w _ hx401_0)).trans hx401_0
       replace hx401_1:=(HB.out.cell (World.block_lt_of_cell? w _ hx401_1)).trans hx401_1
       replace hx401_2:=(HB.out.cell (World.block_lt_of_cell? w _ hx401_2)).trans hx401_2
       have HR401_2:=Aside0.mk hi401_2
       have HC401_2:=Aside0.mk hl401_2
       clear hi401_2 hl401_2
       replace p401:=eq_true p401
       replace q401:=eq_true q401
       have ea_:=Option.some.inj (hx400_2.symm.trans hx401_2)
       injection ea_ with ea_ en_ ec_
       subst ea_
       subst ec_
       clear en_
       have p402:0 ≤ (x11_3:Int):=of_decide_eq_true (by first | (with_reducible assumption) | assumption)
       have q402:x11_3 < (((rd_T54 l1 x10_2).f2).length:Int):=of_decide_eq_true (by first | (with_reducible assumption) | assumption)
       obtain ⟨ad402,e402,hx402_0,hx402_1,hx402_2,hx402_3,hx402_4⟩:=at_T56 HR401_2.out x11_3 p402 q402
       have hw402_4:=hx402_4
       have hw402_3:=hx402_3
       have hw402_2:=hx402_2
       have hw402_1:=hx402_1
       have hw402_0:=hx402_0
       cases e402
       replace hx402_0:=(HB.out.cell (World.block_lt_of_cell? w _ hx402_0)).trans hx402_0
       replace hx402_1:=(HB.out.cell (World.block_lt_of_cell? w _ hx402_1)).trans hx402_1
       replace hx402_2:=(HB.out.cell (World.block_lt_of_cell? w _ hx402_2)).trans hx402_2
       replace hx402_3:=(HB.out.cell (World.block_lt_of_cell? w _ hx402_3)).trans hx402_3
       replace hx402_4:=(HB.out.cell (World.block_lt_of_cell? w _ hx402_4)).trans hx402_4
       replace p402:=eq_true p402
       replace q402:=eq_true q402
       refine start_ (n:=21) (S:=fun w' => w'.cell? (ad399.add ((x10_2).toNat * 3)) = some (.int .i64 ((rd_T54 l1 x10_2).f0)) ∧ w'.cell? ⟨(ad399.add ((x10_2).toNat * 3)).block,(ad399.add ((x10_2).toNat * 3)).off + 1,none⟩ = some (.float .f64 ((rd_T54 l1 x10_2).f1)) ∧ w'.cell? ⟨(ad399.add ((x10_2).toNat * 3)).block,(ad399.add ((x10_2).toNat * 3)).off + 2,none⟩ = some (.slice (some ad402) ((rd_T54 l1 x10_2).f2).length c400_2) ∧ w'.cell? (ad399.add ((x10_2).toNat * 3)) = some (.int .i64 ((rd_T54 l1 x10_2).f0)) ∧ w'.cell? ⟨(ad399.add ((x10_2).toNat * 3)).block,(ad399.add ((x10_2).toNat * 3)).off + 1,none⟩ = some (.float .f64 ((rd_T54 l1 x10_2).f1)) ∧ w'.cell? ⟨(ad399.add ((x10_2).toNat * 3)).block,(ad399.add ((x10_2).toNat * 3)).off + 2,none⟩ = some (.slice (some ad402) ((rd_T54 l1 x10_2).f2).length c400_2) ∧ w'.cell? (ad402.add ((x11_3).toNat * 5)) = some (.int .i64 ((rd_T56 ((rd_T54 l1 x10_2).f2) x11_3).f0)) ∧ w'.cell? ⟨(ad402.add ((x11_3).toNat * 5)).block,(ad402.add ((x11_3).toNat * 5)).off + 1,none⟩ = some (.int .i64 ((rd_T56 ((rd_T54 l1 x10_2).f2) x11_3).f1)) ∧ w'.cell? ⟨(ad402.add ((x11_3).toNat * 5)).block,(ad402.add ((x11_3).toNat * 5)).off + 2,none⟩ = some (.float .f64 ((rd_T56 ((rd_T54 l1 x10_2).f2) x11_3).f2)) ∧ w'.cell? ⟨(ad402.add ((x11_3).toNat * 5)).block,(ad402.add ((x11_3).toNat * 5)).off + 3,none⟩ = some (.float .f64 ((rd_T56 ((rd_T54 l1 x10_2).f2) x11_3).f3)) ∧ w'.cell? ⟨(ad402.add ((x11_3).toNat * 5)).block,(ad402.add ((x11_3).toNat * 5)).off + 4,none⟩ = some (.int .i64 ((rd_T56 ((rd_T54 l1 x10_2).f2) x11_3).f4))) (ds:=[]) #[false,false,false,false,false,false,false,false,false,false,false,false,false,false,false,false,false,false,false,false,false] (by kernel_rfl) rfl rfl ⟨((HB.out.cell (World.block_lt_of_cell? w _ hw400_0)).trans hw400_0),((HB.out.cell (World.block_lt_of_cell? w _ hw400_1)).trans hw400_1),((HB.out.cell (World.block_lt_of_cell? w _ hw400_2)).trans hw400_2),((HB.out.cell (World.block_lt_of_cell? w _ hw401_0)).trans hw401_0),((HB.out.cell (World.block_lt_of_cell? w _ hw401_1)).trans hw401_1),((HB.out.cell (World.block_lt_of_cell? w _ hw401_2)).trans hw401_2),((HB.out.cell (World.block_lt_of_cell? w _ hw402_0)).trans hw402_0),((HB.out.cell (World.block_lt_of_cell? w _ hw402_1)).trans hw402_1),((HB.out.cell (World.block_lt_of_cell? w _ hw402_2)).trans hw402_2),((HB.out.cell (World.block_lt_of_cell? w _ hw402_3)).trans hw402_3),((HB.out.cell (World.block_lt_of_cell? w _ hw402_4)).trans hw402_4)⟩ (fun hHeld => ?_);refine with_tabW beaconref16_Balls.tab13 beaconref16_Balls.bits13 (fun HT_ HW_ => ?_)
       generalize wr.drew = w18 at HO_9 HB HR400_2 HR401_2 hx400_0 hx400_1 hx400_2 hx401_0 hx401_1 hx401_2 hx402_0 hx402_1 hx402_2 hx402_3 hx402_4 hHeld ⊢
       refine manyW_ (fuel:=7) (a':=?_) ((0,0) :: (1,0) :: (2,0) :: (3,0) :: (5,0) :: (6,0) :: (7,0) :: (8,0) :: (10,0) :: (13,0) :: (4,2) :: (9,2) :: (11,0) :: (12,2) :: []) #[true,true,true,true,true,true,true,true,true,true,true,true,true,true,false,false,false,false,false,false,false] rfl HT_ HW_ (by kernel_rfl) (fun _ _ _ _ _ h => h) (fun _ => hHeld) ?_ ?_
       rotate_left
       ·repeat (first | exact Chain.nil _ | (apply Chain.on;rfl;rfl;(focus intro w';go_simp;with_reducible rfl);(focus simp only [Act.put,List.setIfInBounds_toArray,List.set_cons_zero,List.set_cons_succ,i64_w,i32_w];rfl)) | (apply Chain.take;rfl;rfl;(focus rintro w' ⟨s0,s1,s2,s3,s4,s5,s6,s7,s8,s9,s10⟩;go_simp;with_reducible rfl);(focus simp only [Act.put,List.setIfInBounds_toArray,List.set_cons_zero,List.set_cons_succ,i64_w,i32_w];rfl)))
       refine join_ (σ:=Nat) 2 #[true,true,true,true,true,true,true,true,true,true,true,true,true,true,true,true,true,true,true,false,false] (fun s_ => [(58,.tuple #[.agg #[.int .i64 t403,.int .i64 t404,.float .f64 t405,.int .i64 t406,.float .f64 t407,.int .i64 t408],.bool true]),(12,.pointer (some ⟨s_,0,none⟩)),(43,.tuple #[.agg #[.int .i64 t403,.int .i64 t404,.float .f64 t405,.int .i64 t406,.float .f64 t407,.int .i64 t408],.bool true]),(59,.agg #[.int .i64 t403,.int .i64 t404,.float .f64 t405,.int .i64 t406,.float .f64 t407,.int .i64 t408]),(60,.bool true)]) (fun s_ w' => (w'.cell? (ad399.add ((x10_2).toNat * 3)) = some (.int .i64 ((rd_T54 l1 x10_2).f0)) ∧ w'.cell? ⟨(ad399.add ((x10_2).toNat * 3)).block,(ad399.add ((x10_2).toNat * 3)).off + 1,none⟩ = some (.float .f64 ((rd_T54 l1 x10_2).f1)) ∧ w'.cell? ⟨(ad399.add ((x10_2).toNat * 3)).block,(ad399.add ((x10_2).toNat * 3)).off + 2,none⟩ = some (.slice (some ad402) ((rd_T54 l1 x10_2).f2).length c400_2) ∧ w'.cell? (ad399.add ((x10_2).toNat * 3)) = some (.int .i64 ((rd_T54 l1 x10_2).f0)) ∧ w'.cell? ⟨(ad399.add ((x10_2).toNat * 3)).block,(ad399.add ((x10_2).toNat * 3)).off + 1,none⟩ = some (.float .f64 ((rd_T54 l1 x10_2).f1)) ∧ w'.cell? ⟨(ad399.add ((x10_2).toNat * 3)).block,(ad399.add ((x10_2).toNat * 3)).off + 2,none⟩ = some (.slice (some ad402) ((rd_T54 l1 x10_2).f2).length c400_2) ∧ w'.cell? (ad402.add ((x11_3).toNat * 5)) = some (.int .i64 ((rd_T56 ((rd_T54 l1 x10_2).f2) x11_3).f0)) ∧ w'.cell? ⟨(ad402.add ((x11_3).toNat * 5)).block,(ad402.add ((x11_3).toNat * 5)).off + 1,none⟩ = some (.int .i64 ((rd_T56 ((rd_T54 l1 x10_2).f2) x11_3).f1)) ∧ w'.cell? ⟨(ad402.add ((x11_3).toNat * 5)).block,(ad402.add ((x11_3).toNat * 5)).off + 2,none⟩ = some (.float .f64 ((rd_T56 ((rd_T54 l1 x10_2).f2) x11_3).f2)) ∧ w'.cell? ⟨(ad402.add ((x11_3).toNat * 5)).block,(ad402.add ((x11_3).toNat * 5)).off + 3,none⟩ = some (.float .f64 ((rd_T56 ((rd_T54 l1 x10_2).f2) x11_3).f3)) ∧ w'.cell? ⟨(ad402.add ((x11_3).toNat * 5)).block,(ad402.add ((x11_3).toNat * 5)).off + 4,none⟩ = some (.int .i64 ((rd_T56 ((rd_T54 l1 x10_2).f2) x11_3).f4))) ∧ (Kd.R k58 58 w' w.heap.size (fun k_ => k_ ≠ s_) u9 x9_3) ∧ (w'.heap[s_]? = some (.cells #[.int .i64 0,.int .i64 0,.float .f64 0,.int .i64 0,.float .f64 0,.int .i64 0] 58 (0,0))) ∧ (w.heap.size ≤ s_) ∧ (w.heap.size ≤ s_) ∧ (Below w.heap.size w w')) ?_ ?_
       rotate_left
       ·intro hCont
        refine two_ (i:=14) (j:=18) (Ni:=some 58) (Nj:=some 12) #[true,true,true,true,true,true,true,true,true,true,true,true,true,true,true,false,false,false,false,false,false] #[true,true,true,true,true,true,true,true,true,true,true,true,true,true,false,false,false,false,true,false,false] rfl rfl rfl rfl (two_of HT_.out (by kernel_rfl)) (by decide) (by decide) (fun K hK => ?_) (fun K hK => ?_)
        ·skip
         refine goes_ Try.func37 (by kernel_rfl) rfl #[.int .i64 a0,.agg #[.int .i64 ((rd_T54 l1 x10_2).f0),.float .f64 ((rd_T54 l1 x10_2).f1),.slice (some ad402) ((rd_T54 l1 x10_2).f2).length c400_2],.agg #[.int .i64 ((rd_T56 ((rd_T54 l1 x10_2).f2) x11_3).f0),.int .i64 ((rd_T56 ((rd_T54 l1 x10_2).f2) x11_3).f1),.float .f64 ((rd_T56 ((rd_T54 l1 x10_2).f2) x11_3).f2),.float .f64 ((rd_T56 ((rd_T54 l1 x10_2).f2) x11_3).f3),.int .i64 ((rd_T56 ((rd_T54 l1 x10_2).f2) x11_3).f4)],.float .f64 a2] (by rfl) rfl rfl (by (try simp only [List.map_toArray,List.map_cons,List.map_nil]);first | done | rfl | (simp only [List.length_drop,List.length_take];rfl)) ?_
         with_reducible refine (beaconref16_counted.calls a0 ((rd_T54 l1 x10_2).f0) ((rd_T54 l1 x10_2).f1) _ _ ((rd_T54 l1 x10_2).f2) ((rd_T56 ((rd_T54 l1 x10_2).f2) x11_3).f0) ((rd_T56 ((rd_T54 l1 x10_2).f2) x11_3).f1) ((rd_T56 ((rd_T54 l1 x10_2).f2) x11_3).f2) ((rd_T56 ((rd_T54 l1 x10_2).f2) x11_3).f3) ((rd_T56 ((rd_T54 l1 x10_2).f2) x11_3).f4) a2 t403 t404 t405 t406 t407 t408 true _ ?side1 ?side2 A15.out).mono ?_
         (case side1 => repeat (first | exact (Kd.C_below HR400_2.out HB.out) | (with_reducible refine Kd.C_alloc ?_ _) | (with_reducible refine Kd.C_drewN ?_ _) | (with_reducible refine Kd.C_drew ?_)))
         (case side2 => exact HC400_2.out)
         rintro e w19 ⟨rfl,hb⟩
         refine ⟨_,rfl,?_⟩
         have n0_:=Aside0.mk (Kd.R_below (by (with_reducible repeat (first | apply Kd.R_alloc | apply Kd.R_drewN | apply Kd.R_drew));exact HO_9.out) hb)
         have n1_:=Aside0.mk (below_step (by repeat (first | (with_reducible first | exact HB.out | apply below_alloc | apply pw_below_drewN | apply below_drew1) | exact HB.out)) hb)
         clear HO_9
         clear HB
         have HO_9:=n0_
         have HB:=n1_
         clear n0_ n1_
         (try clear hb)
         (try clear hb2)
         (try clear hk)
         (try clear hi)
         refine hK.out _ _ ⟨((HB.out.cell (World.block_lt_of_cell? w _ hw400_0)).trans hw400_0),((HB.out.cell (World.block_lt_of_cell? w _ hw400_1)).trans hw400_1),((HB.out.cell (World.block_lt_of_cell? w _ hw400_2)).trans hw400_2),((HB.out.cell (World.block_lt_of_cell? w _ hw401_0)).trans hw401_0),((HB.out.cell (World.block_lt_of_cell? w _ hw401_1)).trans hw401_1),((HB.out.cell (World.block_lt_of_cell? w _ hw401_2)).trans hw401_2),((HB.out.cell (World.block_lt_of_cell? w _ hw402_0)).trans hw402_0),((HB.out.cell (World.block_lt_of_cell? w _ hw402_1)).trans hw402_1),((HB.out.cell (World.block_lt_of_cell? w _ hw402_2)).trans hw402_2),((HB.out.cell (World.block_lt_of_cell? w _ hw402_3)).trans hw402_3),((HB.out.cell (World.block_lt_of_cell? w _ hw402_4)).trans hw402_4)⟩ (fun hHeld => ?_)
         clear hK K
         refine norm_ (a':=?_) ?_ ?_
         rotate_left
         ·show Act.put _ (some 58) _ = _
          simp only [Act.put,List.setIfInBounds_toArray,List.set_cons_zero,List.set_cons_succ,i64_w,i32_w]
          rfl
         refine manyT_ (fuel:=3) (a':=?_) ((15,0) :: (16,0) :: (17,0) :: []) #[true,true,true,true,true,true,true,true,true,true,true,true,true,true,true,true,true,true,false,false,false] rfl HT_ (by kernel_rfl) (fun _ _ _ _ _ h => h) (fun h => absurd h (by decide)) ?_ ?_
         rotate_left
         ·repeat (first | exact Chain.nil _ | (apply Chain.on;rfl;rfl;(focus intro w';go_simp;with_reducible rfl);(focus simp only [Act.put,List.setIfInBounds_toArray,List.set_cons_zero,List.set_cons_succ,i64_w,i32_w];rfl)))
         refine one_ (i:=18) (N:=some 12) #[true,true,true,true,true,true,true,true,true,true,true,true,true,true,true,true,true,true,true,false,false] rfl rfl (one_of HT_.out (by kernel_rfl)) (by decide) (fun K hK => ?_)
         refine box_step ?hg (N:=12) ?hd (cs:=#[.int .i64 0,.int .i64 0,.float .f64 0,.int .i64 0,.float .f64 0,.int .i64 0]) (t:=58) ?hr ?_;(case hd => rfl);(case hg => rfl);(case hr => first | (go_simp;done) | (go_simp;rfl))
         intro gb410 hg w20 hbox hb
         have n0_:=Aside0.mk (Kd.R_below (Kd.R_elderB (by (with_reducible repeat (first | apply Kd.R_alloc | apply Kd.R_drewN | apply Kd.R_drew));exact HO_9.out) gb410 (Nat.le_of_eq hg.symm)) hb)
         have n1_:=Aside0.mk (below_step (by repeat (first | (with_reducible first | exact HB.out | apply below_alloc | apply pw_below_drewN | apply below_drew1) | exact HB.out)) hb)
         have n2_:=Aside0.mk (hbox)
         have n3_:=Aside0.mk ((by rw [hg];exact (below_size (by repeat (first | (with_reducible first | exact HB.out | apply below_alloc | apply pw_below_drewN | apply below_drew1) | exact HB.out))):w.heap.size ≤ gb410))
         have n4_:=Aside0.mk ((by rw [hg];exact (below_size (by repeat (first | (with_reducible first | exact HB.out | apply below_alloc | apply pw_below_drewN | apply below_drew1) | exact HB.out))):w.heap.size ≤ gb410))
         clear HO_9
         clear HB
         have HO_9:=n0_
         have HB:=n1_
         have BK410:=n2_
         have GW410:=n3_
         have GE410:=n4_
         clear n0_ n1_ n2_ n3_ n4_
         clear hb hbox hg
         refine hK.out _ _ ⟨((HB.out.cell (World.block_lt_of_cell? w _ hw400_0)).trans hw400_0),((HB.out.cell (World.block_lt_of_cell? w _ hw400_1)).trans hw400_1),((HB.out.cell (World.block_lt_of_cell? w _ hw400_2)).trans hw400_2),((HB.out.cell (World.block_lt_of_cell? w _ hw401_0)).trans hw401_0),((HB.out.cell (World.block_lt_of_cell? w _ hw401_1)).trans hw401_1),((HB.out.cell (World.block_lt_of_cell? w _ hw401_2)).trans hw401_2),((HB.out.cell (World.block_lt_of_cell? w _ hw402_0)).trans hw402_0),((HB.out.cell (World.block_lt_of_cell? w _ hw402_1)).trans hw402_1),((HB.out.cell (World.block_lt_of_cell? w _ hw402_2)).trans hw402_2),((HB.out.cell (World.block_lt_of_cell? w _ hw402_3)).trans hw402_3),((HB.out.cell (World.block_lt_of_cell? w _ hw402_4)).trans hw402_4)⟩ (fun hHeld => ?_)
         clear hK K
         refine norm_ (a':=?_) ?_ ?_
         rotate_left
         ·show Act.put _ (some 12) _ = _
          simp only [Act.put,List.setIfInBounds_toArray,List.set_cons_zero,List.set_cons_succ,i64_w,i32_w]
          rfl
         exact norm_ (by simp only [putAll,Act.put,List.setIfInBounds_toArray,List.set_cons_zero,List.set_cons_succ]) (hCont (gb410) _ ⟨hHeld,(by (with_reducible repeat (first | apply Kd.R_alloc | apply Kd.R_drewN | apply Kd.R_drew));exact Kd.R_mono HO_9.out (fun _ hk => hk.2)),(by (with_reducible repeat (first | refine blk_drewN ?_ _ | refine blk_drew ?_ | refine blk_alloc ?_ _));exact BK410.out),GW410.out,GE410.out,(by repeat (first | (with_reducible first | exact HB.out | apply below_alloc | apply pw_below_drewN | apply below_drew1 | refine below_set ?_ GE410.out) | exact HB.out))⟩)
        skip
        refine box_step ?hg (N:=12) ?hd (cs:=#[.int .i64 0,.int .i64 0,.float .f64 0,.int .i64 0,.float .f64 0,.int .i64 0]) (t:=58) ?hr ?_;(case hd => rfl);(case hg => rfl);(case hr => first | (go_simp;done) | (go_simp;rfl))
        intro gb410 hg w19 hbox hb
        have n0_:=Aside0.mk (Kd.R_below (Kd.R_elderB (by (with_reducible repeat (first | apply Kd.R_alloc | apply Kd.R_drewN | apply Kd.R_drew));exact HO_9.out) gb410 (Nat.le_of_eq hg.symm)) hb)
        have n1_:=Aside0.mk (below_step (by repeat (first | (with_reducible first | exact HB.out | apply below_alloc | apply pw_below_drewN | apply below_drew1) | exact HB.out)) hb)
        have n2_:=Aside0.mk (hbox)
        have n3_:=Aside0.mk ((by rw [hg];exact (below_size (by repeat (first | (with_reducible first | exact HB.out | apply below_alloc | apply pw_below_drewN | apply below_drew1) | exact HB.out))):w.heap.size ≤ gb410))
        have n4_:=Aside0.mk ((by rw [hg];exact (below_size (by repeat (first | (with_reducible first | exact HB.out | apply below_alloc | apply pw_below_drewN | apply below_drew1) | exact HB.out))):w.heap.size ≤ gb410))
        clear HO_9
        clear HB
        have HO_9:=n0_
        have HB:=n1_
        have BK410:=n2_
        have GW410:=n3_
        have GE410:=n4_
        clear n0_ n1_ n2_ n3_ n4_
        clear hb hbox hg
        refine hK.out _ _ ⟨((HB.out.cell (World.block_lt_of_cell? w _ hw400_0)).trans hw400_0),((HB.out.cell (World.block_lt_of_cell? w _ hw400_1)).trans hw400_1),((HB.out.cell (World.block_lt_of_cell? w _ hw400_2)).trans hw400_2),((HB.out.cell (World.block_lt_of_cell? w _ hw401_0)).trans hw401_0),((HB.out.cell (World.block_lt_of_cell? w _ hw401_1)).trans hw401_1),((HB.out.cell (World.block_lt_of_cell? w _ hw401_2)).trans hw401_2),((HB.out.cell (World.block_lt_of_cell? w _ hw402_0)).trans hw402_0),((HB.out.cell (World.block_lt_of_cell? w _ hw402_1)).trans hw402_1),((HB.out.cell (World.block_lt_of_cell? w _ hw402_2)).trans hw402_2),((HB.out.cell (World.block_lt_of_cell? w _ hw402_3)).trans hw402_3),((HB.out.cell (World.block_lt_of_cell? w _ hw402_4)).trans hw402_4)⟩ (fun hHeld => ?_)
        clear hK K
        refine norm_ (a':=?_) ?_ ?_
        rotate_left
        ·show Act.put _ (some 12) _ = _
         simp only [Act.put,List.setIfInBounds_toArray,List.set_cons_zero,List.set_cons_succ,i64_w,i32_w]
         rfl
        refine one_ (i:=14) (N:=some 58) #[true,true,true,true,true,true,true,true,true,true,true,true,true,true,true,false,false,false,true,false,false] rfl rfl (one_of HT_.out (by kernel_rfl)) (by decide) (fun K hK => ?_)
        refine goes_ Try.func37 (by kernel_rfl) rfl #[.int .i64 a0,.agg #[.int .i64 ((rd_T54 l1 x10_2).f0),.float .f64 ((rd_T54 l1 x10_2).f1),.slice (some ad402) ((rd_T54 l1 x10_2).f2).length c400_2],.agg #[.int .i64 ((rd_T56 ((rd_T54 l1 x10_2).f2) x11_3).f0),.int .i64 ((rd_T56 ((rd_T54 l1 x10_2).f2) x11_3).f1),.float .f64 ((rd_T56 ((rd_T54 l1 x10_2).f2) x11_3).f2),.float .f64 ((rd_T56 ((rd_T54 l1 x10_2).f2) x11_3).f3),.int .i64 ((rd_T56 ((rd_T54 l1 x10_2).f2) x11_3).f4)],.float .f64 a2] (by rfl) rfl rfl (by (try simp only [List.map_toArray,List.map_cons,List.map_nil]);first | done | rfl | (simp only [List.length_drop,List.length_take];rfl)) ?_
        with_reducible refine (beaconref16_counted.calls a0 ((rd_T54 l1 x10_2).f0) ((rd_T54 l1 x10_2).f1) _ _ ((rd_T54 l1 x10_2).f2) ((rd_T56 ((rd_T54 l1 x10_2).f2) x11_3).f0) ((rd_T56 ((rd_T54 l1 x10_2).f2) x11_3).f1) ((rd_T56 ((rd_T54 l1 x10_2).f2) x11_3).f2) ((rd_T56 ((rd_T54 l1 x10_2).f2) x11_3).f3) ((rd_T56 ((rd_T54 l1 x10_2).f2) x11_3).f4) a2 t403 t404 t405 t406 t407 t408 true _ ?side1 ?side2 A15.out).mono ?_
        (case side1 => repeat (first | exact (Kd.C_below HR400_2.out HB.out) | (with_reducible refine Kd.C_alloc ?_ _) | (with_reducible refine Kd.C_drewN ?_ _) | (with_reducible refine Kd.C_drew ?_)))
        (case side2 => exact HC400_2.out)
        rintro e w20 ⟨rfl,hb⟩
        refine ⟨_,rfl,?_⟩
        have n0_:=Aside0.mk (Kd.R_below (by (with_reducible repeat (first | apply Kd.R_alloc | apply Kd.R_drewN | apply Kd.R_drew));exact HO_9.out) hb)
        have n1_:=Aside0.mk (blk_below (g:=gb410) (o:=.cells #[.int .i64 0,.int .i64 0,.float .f64 0,.int .i64 0,.float .f64 0,.int .i64 0] 58 (0,0)) (by (with_reducible repeat (first | refine blk_drewN ?_ _ | refine blk_drew ?_ | refine blk_alloc ?_ _));exact BK410.out) hb)
        have n2_:=Aside0.mk (below_step (by repeat (first | (with_reducible first | exact HB.out | apply below_alloc | apply pw_below_drewN | apply below_drew1 | refine below_set ?_ GE410.out) | exact HB.out)) hb)
        clear HO_9
        clear BK410
        clear HB
        have HO_9:=n0_
        have BK410:=n1_
        have HB:=n2_
        clear n0_ n1_ n2_
        (try clear hb)
        (try clear hb2)
        (try clear hk)
        (try clear hi)
        refine hK.out _ _ ⟨((HB.out.cell (World.block_lt_of_cell? w _ hw400_0)).trans hw400_0),((HB.out.cell (World.block_lt_of_cell? w _ hw400_1)).trans hw400_1),((HB.out.cell (World.block_lt_of_cell? w _ hw400_2)).trans hw400_2),((HB.out.cell (World.block_lt_of_cell? w _ hw401_0)).trans hw401_0),((HB.out.cell (World.block_lt_of_cell? w _ hw401_1)).trans hw401_1),((HB.out.cell (World.block_lt_of_cell? w _ hw401_2)).trans hw401_2),((HB.out.cell (World.block_lt_of_cell? w _ hw402_0)).trans hw402_0),((HB.out.cell (World.block_lt_of_cell? w _ hw402_1)).trans hw402_1),((HB.out.cell (World.block_lt_of_cell? w _ hw402_2)).trans hw402_2),((HB.out.cell (World.block_lt_of_cell? w _ hw402_3)).trans hw402_3),((HB.out.cell (World.block_lt_of_cell? w _ hw402_4)).trans hw402_4)⟩ (fun hHeld => ?_)
        clear hK K
        refine norm_ (a':=?_) ?_ ?_
        rotate_left
        ·show Act.put _ (some 58) _ = _
         simp only [Act.put,List.setIfInBounds_toArray,List.set_cons_zero,List.set_cons_succ,i64_w,i32_w]
         rfl
        refine manyT_ (fuel:=2) (a':=?_) ((15,0) :: (16,0) :: (17,0) :: []) #[true,true,true,true,true,true,true,true,true,true,true,true,true,true,true,true,true,true,true,false,false] rfl HT_ (by kernel_rfl) (fun _ _ _ _ _ h => h) (fun h => absurd h (by decide)) ?_ ?_
        rotate_left
        ·repeat (first | exact Chain.nil _ | (apply Chain.on;rfl;rfl;(focus intro w';go_simp;with_reducible rfl);(focus simp only [Act.put,List.setIfInBounds_toArray,List.set_cons_zero,List.set_cons_succ,i64_w,i32_w];rfl)))
        exact norm_ (by simp only [putAll,Act.put,List.setIfInBounds_toArray,List.set_cons_zero,List.set_cons_succ]) (hCont (gb410) _ ⟨hHeld,(by (with_reducible repeat (first | apply Kd.R_alloc | apply Kd.R_drewN | apply Kd.R_drew));exact Kd.R_mono HO_9.out (fun _ hk => hk.2)),(by (with_reducible repeat (first | refine blk_drewN ?_ _ | refine blk_drew ?_ | refine blk_alloc ?_ _));exact BK410.out),GW410.out,GE410.out,(by repeat (first | (with_reducible first | exact HB.out | apply below_alloc | apply pw_below_drewN | apply below_drew1 | refine below_set ?_ GE410.out) | exact HB.out))⟩)
       rintro gb410 w21 ⟨hS_,h0_,h1_,h2_,h3_,h4_⟩
       have n0_:Aside0 (Kd.R k58 58 w21 w.heap.size (fun k_ => k_ ≠ gb410) u9 x9_3):=⟨h0_⟩
       have n1_:Aside0 (w21.heap[gb410]? = some (.cells #[.int .i64 0,.int .i64 0,.float .f64 0,.int .i64 0,.float .f64 0,.int .i64 0] 58 (0,0))):=⟨h1_⟩
       have n2_:Aside0 (w.heap.size ≤ gb410):=⟨h2_⟩
       have n3_:Aside0 (w.heap.size ≤ gb410):=⟨h3_⟩
       have n4_:Aside0 (Below w.heap.size w w21):=⟨h4_⟩
       clear HO_9
       clear HB
       clear h0_ h1_ h2_ h3_ h4_
       have HO_9:=n0_
       have BK410:=n1_
       have GW410:=n2_
       have GE410:=n3_
       have HB:=n4_
       clear n0_ n1_ n2_ n3_ n4_
       have hHeld:w21.cell? (ad399.add ((x10_2).toNat * 3)) = some (.int .i64 ((rd_T54 l1 x10_2).f0)) ∧ w21.cell? ⟨(ad399.add ((x10_2).toNat * 3)).block,(ad399.add ((x10_2).toNat * 3)).off + 1,none⟩ = some (.float .f64 ((rd_T54 l1 x10_2).f1)) ∧ w21.cell? ⟨(ad399.add ((x10_2).toNat * 3)).block,(ad399.add ((x10_2).toNat * 3)).off + 2,none⟩ = some (.slice (some ad402) ((rd_T54 l1 x10_2).f2).length c400_2) ∧ w21.cell? (ad399.add ((x10_2).toNat * 3)) = some (.int .i64 ((rd_T54 l1 x10_2).f0)) ∧ w21.cell? ⟨(ad399.add ((x10_2).toNat * 3)).block,(ad399.add ((x10_2).toNat * 3)).off + 1,none⟩ = some (.float .f64 ((rd_T54 l1 x10_2).f1)) ∧ w21.cell? ⟨(ad399.add ((x10_2).toNat * 3)).block,(ad399.add ((x10_2).toNat * 3)).off + 2,none⟩ = some (.slice (some ad402) ((rd_T54 l1 x10_2).f2).length c400_2) ∧ w21.cell? (ad402.add ((x11_3).toNat * 5)) = some (.int .i64 ((rd_T56 ((rd_T54 l1 x10_2).f2) x11_3).f0)) ∧ w21.cell? ⟨(ad402.add ((x11_3).toNat * 5)).block,(ad402.add ((x11_3).toNat * 5)).off + 1,none⟩ = some (.int .i64 ((rd_T56 ((rd_T54 l1 x10_2).f2) x11_3).f1)) ∧ w21.cell? ⟨(ad402.add ((x11_3).toNat * 5)).block,(ad402.add ((x11_3).toNat * 5)).off + 2,none⟩ = some (.float .f64 ((rd_T56 ((rd_T54 l1 x10_2).f2) x11_3).f2)) ∧ w21.cell? ⟨(ad402.add ((x11_3).toNat * 5)).block,(ad402.add ((x11_3).toNat * 5)).off + 3,none⟩ = some (.float .f64 ((rd_T56 ((rd_T54 l1 x10_2).f2) x11_3).f3)) ∧ w21.cell? ⟨(ad402.add ((x11_3).toNat * 5)).block,(ad402.add ((x11_3).toNat * 5)).off + 4,none⟩ = some (.int .i64 ((rd_T56 ((rd_T54 l1 x10_2).f2) x11_3).f4)):=hS_
       refine norm_ (a':=?_) ?_ ?_
       rotate_left
       ·simp only [putAll,Act.put,List.setIfInBounds_toArray,List.set_cons_zero,List.set_cons_succ]
        rfl
       refine one_ (i:=19) (N:=none) #[true,true,true,true,true,true,true,true,true,true,true,true,true,true,true,true,true,true,true,true,false] rfl rfl (one_of HT_.out (by kernel_rfl)) (by decide) (fun K hK => ?_)
       have hs22:w21.cell? ⟨gb410,0,none⟩ = some (.int .i64 0):=(blk_cell BK410.out 0).trans rfl
       have hfs22:=blk_frozen BK410.out 0
       have hs23:w21.cell? ⟨gb410,1,none⟩ = some (.int .i64 0):=(blk_cell BK410.out 1).trans rfl
       have hfs23:=blk_frozen BK410.out 1
       have hs24:w21.cell? ⟨gb410,2,none⟩ = some (.float .f64 0):=(blk_cell BK410.out 2).trans rfl
       have hfs24:=blk_frozen BK410.out 2
       have hs25:w21.cell? ⟨gb410,3,none⟩ = some (.int .i64 0):=(blk_cell BK410.out 3).trans rfl
       have hfs25:=blk_frozen BK410.out 3
       have hs26:w21.cell? ⟨gb410,4,none⟩ = some (.float .f64 0):=(blk_cell BK410.out 4).trans rfl
       have hfs26:=blk_frozen BK410.out 4
       have hs27:w21.cell? ⟨gb410,5,none⟩ = some (.int .i64 0):=(blk_cell BK410.out 5).trans rfl
       have hfs27:=blk_frozen BK410.out 5
       refine skip_ (w1:=?_) (by rfl) rfl ?_ ?_
       rotate_left
       ·go_simp
        rfl
       refine hK.out _ _ ⟨((cell_far (p:=⟨gb410,_,none⟩) (Nat.ne_of_lt (Nat.lt_of_lt_of_le (World.block_lt_of_cell? _ _ hw400_0) GW410.out)) _).trans (((cell_far (p:=⟨gb410,_,none⟩) (Nat.ne_of_lt (Nat.lt_of_lt_of_le (World.block_lt_of_cell? _ _ hw400_0) GW410.out)) _).trans (((cell_far (p:=⟨gb410,_,none⟩) (Nat.ne_of_lt (Nat.lt_of_lt_of_le (World.block_lt_of_cell? _ _ hw400_0) GW410.out)) _).trans (((cell_far (p:=⟨gb410,_,none⟩) (Nat.ne_of_lt (Nat.lt_of_lt_of_le (World.block_lt_of_cell? _ _ hw400_0) GW410.out)) _).trans (((cell_far (p:=⟨gb410,_,none⟩) (Nat.ne_of_lt (Nat.lt_of_lt_of_le (World.block_lt_of_cell? _ _ hw400_0) GW410.out)) _).trans (((cell_far (p:=⟨gb410,_,none⟩) (Nat.ne_of_lt (Nat.lt_of_lt_of_le (World.block_lt_of_cell? _ _ hw400_0) GW410.out)) _).trans (hHeld.1)))))))))))),((cell_far (p:=⟨gb410,_,none⟩) (Nat.ne_of_lt (Nat.lt_of_lt_of_le (World.block_lt_of_cell? _ _ hw400_1) GW410.out)) _).trans (((cell_far (p:=⟨gb410,_,none⟩) (Nat.ne_of_lt (Nat.lt_of_lt_of_le (World.block_lt_of_cell? _ _ hw400_1) GW410.out)) _).trans (((cell_far (p:=⟨gb410,_,none⟩) (Nat.ne_of_lt (Nat.lt_of_lt_of_le (World.block_lt_of_cell? _ _ hw400_1) GW410.out)) _).trans (((cell_far (p:=⟨gb410,_,none⟩) (Nat.ne_of_lt (Nat.lt_of_lt_of_le (World.block_lt_of_cell? _ _ hw400_1) GW410.out)) _).trans (((cell_far (p:=⟨gb410,_,none⟩) (Nat.ne_of_lt (Nat.lt_of_lt_of_le (World.block_lt_of_cell? _ _ hw400_1) GW410.out)) _).trans (((cell_far (p:=⟨gb410,_,none⟩) (Nat.ne_of_lt (Nat.lt_of_lt_of_le (World.block_lt_of_cell? _ _ hw400_1) GW410.out)) _).trans (hHeld.2.1)))))))))))),((cell_far (p:=⟨gb410,_,none⟩) (Nat.ne_of_lt (Nat.lt_of_lt_of_le (World.block_lt_of_cell? _ _ hw400_2) GW410.out)) _).trans (((cell_far (p:=⟨gb410,_,none⟩) (Nat.ne_of_lt (Nat.lt_of_lt_of_le (World.block_lt_of_cell? _ _ hw400_2) GW410.out)) _).trans (((cell_far (p:=⟨gb410,_,none⟩) (Nat.ne_of_lt (Nat.lt_of_lt_of_le (World.block_lt_of_cell? _ _ hw400_2) GW410.out)) _).trans (((cell_far (p:=⟨gb410,_,none⟩) (Nat.ne_of_lt (Nat.lt_of_lt_of_le (World.block_lt_of_cell? _ _ hw400_2) GW410.out)) _).trans (((cell_far (p:=⟨gb410,_,none⟩) (Nat.ne_of_lt (Nat.lt_of_lt_of_le (World.block_lt_of_cell? _ _ hw400_2) GW410.out)) _).trans (((cell_far (p:=⟨gb410,_,none⟩) (Nat.ne_of_lt (Nat.lt_of_lt_of_le (World.block_lt_of_cell? _ _ hw400_2) GW410.out)) _).trans (hHeld.2.2.1)))))))))))),((cell_far (p:=⟨gb410,_,none⟩) (Nat.ne_of_lt (Nat.lt_of_lt_of_le (World.block_lt_of_cell? _ _ hw401_0) GW410.out)) _).trans (((cell_far (p:=⟨gb410,_,none⟩) (Nat.ne_of_lt (Nat.lt_of_lt_of_le (World.block_lt_of_cell? _ _ hw401_0) GW410.out)) _).trans (((cell_far (p:=⟨gb410,_,none⟩) (Nat.ne_of_lt (Nat.lt_of_lt_of_le (World.block_lt_of_cell? _ _ hw401_0) GW410.out)) _).trans (((cell_far (p:=⟨gb410,_,none⟩) (Nat.ne_of_lt (Nat.lt_of_lt_of_le (World.block_lt_of_cell? _ _ hw401_0) GW410.out)) _).trans (((cell_far (p:=⟨gb410,_,none⟩) (Nat.ne_of_lt (Nat.lt_of_lt_of_le (World.block_lt_of_cell? _ _ hw401_0) GW410.out)) _).trans (((cell_far (p:=⟨gb410,_,none⟩) (Nat.ne_of_lt (Nat.lt_of_lt_of_le (World.block_lt_of_cell? _ _ hw401_0) GW410.out)) _).trans (hHeld.2.2.2.1)))))))))))),((cell_far (p:=⟨gb410,_,none⟩) (Nat.ne_of_lt (Nat.lt_of_lt_of_le (World.block_lt_of_cell? _ _ hw401_1) GW410.out)) _).trans (((cell_far (p:=⟨gb410,_,none⟩) (Nat.ne_of_lt (Nat.lt_of_lt_of_le (World.block_lt_of_cell? _ _ hw401_1) GW410.out)) _).trans (((cell_far (p:=⟨gb410,_,none⟩) (Nat.ne_of_lt (Nat.lt_of_lt_of_le (World.block_lt_of_cell? _ _ hw401_1) GW410.out)) _).trans (((cell_far (p:=⟨gb410,_,none⟩) (Nat.ne_of_lt (Nat.lt_of_lt_of_le (World.block_lt_of_cell? _ _ hw401_1) GW410.out)) _).trans (((cell_far (p:=⟨gb410,_,none⟩) (Nat.ne_of_lt (Nat.lt_of_lt_of_le (World.block_lt_of_cell? _ _ hw401_1) GW410.out)) _).trans (((cell_far (p:=⟨gb410,_,none⟩) (Nat.ne_of_lt (Nat.lt_of_lt_of_le (World.block_lt_of_cell? _ _ hw401_1) GW410.out)) _).trans (hHeld.2.2.2.2.1)))))))))))),((cell_far (p:=⟨gb410,_,none⟩) (Nat.ne_of_lt (Nat.lt_of_lt_of_le (World.block_lt_of_cell? _ _ hw401_2) GW410.out)) _).trans (((cell_far (p:=⟨gb410,_,none⟩) (Nat.ne_of_lt (Nat.lt_of_lt_of_le (World.block_lt_of_cell? _ _ hw401_2) GW410.out)) _).trans (((cell_far (p:=⟨gb410,_,none⟩) (Nat.ne_of_lt (Nat.lt_of_lt_of_le (World.block_lt_of_cell? _ _ hw401_2) GW410.out)) _).trans (((cell_far (p:=⟨gb410,_,none⟩) (Nat.ne_of_lt (Nat.lt_of_lt_of_le (World.block_lt_of_cell? _ _ hw401_2) GW410.out)) _).trans (((cell_far (p:=⟨gb410,_,none⟩) (Nat.ne_of_lt (Nat.lt_of_lt_of_le (World.block_lt_of_cell? _ _ hw401_2) GW410.out)) _).trans (((cell_far (p:=⟨gb410,_,none⟩) (Nat.ne_of_lt (Nat.lt_of_lt_of_le (World.block_lt_of_cell? _ _ hw401_2) GW410.out)) _).trans (hHeld.2.2.2.2.2.1)))))))))))),((cell_far (p:=⟨gb410,_,none⟩) (Nat.ne_of_lt (Nat.lt_of_lt_of_le (World.block_lt_of_cell? _ _ hw402_0) GW410.out)) _).trans (((cell_far (p:=⟨gb410,_,none⟩) (Nat.ne_of_lt (Nat.lt_of_lt_of_le (World.block_lt_of_cell? _ _ hw402_0) GW410.out)) _).trans (((cell_far (p:=⟨gb410,_,none⟩) (Nat.ne_of_lt (Nat.lt_of_lt_of_le (World.block_lt_of_cell? _ _ hw402_0) GW410.out)) _).trans (((cell_far (p:=⟨gb410,_,none⟩) (Nat.ne_of_lt (Nat.lt_of_lt_of_le (World.block_lt_of_cell? _ _ hw402_0) GW410.out)) _).trans (((cell_far (p:=⟨gb410,_,none⟩) (Nat.ne_of_lt (Nat.lt_of_lt_of_le (World.block_lt_of_cell? _ _ hw402_0) GW410.out)) _).trans (((cell_far (p:=⟨gb410,_,none⟩) (Nat.ne_of_lt (Nat.lt_of_lt_of_le (World.block_lt_of_cell? _ _ hw402_0) GW410.out)) _).trans (hHeld.2.2.2.2.2.2.1)))))))))))),((cell_far (p:=⟨gb410,_,none⟩) (Nat.ne_of_lt (Nat.lt_of_lt_of_le (World.block_lt_of_cell? _ _ hw402_1) GW410.out)) _).trans (((cell_far (p:=⟨gb410,_,none⟩) (Nat.ne_of_lt (Nat.lt_of_lt_of_le (World.block_lt_of_cell? _ _ hw402_1) GW410.out)) _).trans (((cell_far (p:=⟨gb410,_,none⟩) (Nat.ne_of_lt (Nat.lt_of_lt_of_le (World.block_lt_of_cell? _ _ hw402_1) GW410.out)) _).trans (((cell_far (p:=⟨gb410,_,none⟩) (Nat.ne_of_lt (Nat.lt_of_lt_of_le (World.block_lt_of_cell? _ _ hw402_1) GW410.out)) _).trans (((cell_far (p:=⟨gb410,_,none⟩) (Nat.ne_of_lt (Nat.lt_of_lt_of_le (World.block_lt_of_cell? _ _ hw402_1) GW410.out)) _).trans (((cell_far (p:=⟨gb410,_,none⟩) (Nat.ne_of_lt (Nat.lt_of_lt_of_le (World.block_lt_of_cell? _ _ hw402_1) GW410.out)) _).trans (hHeld.2.2.2.2.2.2.2.1)))))))))))),((cell_far (p:=⟨gb410,_,none⟩) (Nat.ne_of_lt (Nat.lt_of_lt_of_le (World.block_lt_of_cell? _ _ hw402_2) GW410.out)) _).trans (((cell_far (p:=⟨gb410,_,none⟩) (Nat.ne_of_lt (Nat.lt_of_lt_of_le (World.block_lt_of_cell? _ _ hw402_2) GW410.out)) _).trans (((cell_far (p:=⟨gb410,_,none⟩) (Nat.ne_of_lt (Nat.lt_of_lt_of_le (World.block_lt_of_cell? _ _ hw402_2) GW410.out)) _).trans (((cell_far (p:=⟨gb410,_,none⟩) (Nat.ne_of_lt (Nat.lt_of_lt_of_le (World.block_lt_of_cell? _ _ hw402_2) GW410.out)) _).trans (((cell_far (p:=⟨gb410,_,none⟩) (Nat.ne_of_lt (Nat.lt_of_lt_of_le (World.block_lt_of_cell? _ _ hw402_2) GW410.out)) _).trans (((cell_far (p:=⟨gb410,_,none⟩) (Nat.ne_of_lt (Nat.lt_of_lt_of_le (World.block_lt_of_cell? _ _ hw402_2) GW410.out)) _).trans (hHeld.2.2.2.2.2.2.2.2.1)))))))))))),((cell_far (p:=⟨gb410,_,none⟩) (Nat.ne_of_lt (Nat.lt_of_lt_of_le (World.block_lt_of_cell? _ _ hw402_3) GW410.out)) _).trans (((cell_far (p:=⟨gb410,_,none⟩) (Nat.ne_of_lt (Nat.lt_of_lt_of_le (World.block_lt_of_cell? _ _ hw402_3) GW410.out)) _).trans (((cell_far (p:=⟨gb410,_,none⟩) (Nat.ne_of_lt (Nat.lt_of_lt_of_le (World.block_lt_of_cell? _ _ hw402_3) GW410.out)) _).trans (((cell_far (p:=⟨gb410,_,none⟩) (Nat.ne_of_lt (Nat.lt_of_lt_of_le (World.block_lt_of_cell? _ _ hw402_3) GW410.out)) _).trans (((cell_far (p:=⟨gb410,_,none⟩) (Nat.ne_of_lt (Nat.lt_of_lt_of_le (World.block_lt_of_cell? _ _ hw402_3) GW410.out)) _).trans (((cell_far (p:=⟨gb410,_,none⟩) (Nat.ne_of_lt (Nat.lt_of_lt_of_le (World.block_lt_of_cell? _ _ hw402_3) GW410.out)) _).trans (hHeld.2.2.2.2.2.2.2.2.2.1)))))))))))),((cell_far (p:=⟨gb410,_,none⟩) (Nat.ne_of_lt (Nat.lt_of_lt_of_le (World.block_lt_of_cell? _ _ hw402_4) GW410.out)) _).trans (((cell_far (p:=⟨gb410,_,none⟩) (Nat.ne_of_lt (Nat.lt_of_lt_of_le (World.block_lt_of_cell? _ _ hw402_4) GW410.out)) _).trans (((cell_far (p:=⟨gb410,_,none⟩) (Nat.ne_of_lt (Nat.lt_of_lt_of_le (World.block_lt_of_cell? _ _ hw402_4) GW410.out)) _).trans (((cell_far (p:=⟨gb410,_,none⟩) (Nat.ne_of_lt (Nat.lt_of_lt_of_le (World.block_lt_of_cell? _ _ hw402_4) GW410.out)) _).trans (((cell_far (p:=⟨gb410,_,none⟩) (Nat.ne_of_lt (Nat.lt_of_lt_of_le (World.block_lt_of_cell? _ _ hw402_4) GW410.out)) _).trans (((cell_far (p:=⟨gb410,_,none⟩) (Nat.ne_of_lt (Nat.lt_of_lt_of_le (World.block_lt_of_cell? _ _ hw402_4) GW410.out)) _).trans (hHeld.2.2.2.2.2.2.2.2.2.2))))))))))))⟩ (fun hHeld => ?_)
       clear hK K
       refine manyT_ (fuel:=0) (a':=?_) ((20,0) :: []) #[true,true,true,true,true,true,true,true,true,true,true,true,true,true,true,true,true,true,true,true,true] rfl HT_ (by kernel_rfl) (fun _ _ _ _ _ h => h) (fun h => absurd h (by decide)) ?_ ?_
       rotate_left
       ·repeat (first | exact Chain.nil _ | (apply Chain.on;rfl;rfl;(focus intro w';go_simp;with_reducible rfl);(focus simp only [Act.put,List.setIfInBounds_toArray,List.set_cons_zero,List.set_cons_succ,i64_w,i32_w];rfl)))
       refine done_ (done_of HT_.out (by kernel_rfl)) ?_
       go_upto_block 4 with (fail)
       go_cut [14] (fun v14 wc => ∃ (kq:Nat) (x14_16:Int),v14 = .int .i64 x14_16 ∧ Aside0 (beaconref16_Balls.j4 kq a0 l1 a2 x9_3 x10_2 x11_3 x14_16 t403 t404 t405 t406 t407 t408 = some (r1,r2)) ∧ Aside0 (kq ≤ k3) ∧ Aside0 (Kd.R k58 58 wc w.heap.size (fun k_ => k_ ≠ gb410) u9 x9_3) ∧ Aside0 (wc.heap[gb410]? = some (.cells #[.int .i64 t403,.int .i64 t404,.float .f64 t405,.int .i64 t406,.float .f64 t407,.int .i64 t408] 58 (0,0))) ∧ Aside0 (Below w.heap.size w wc))
       case first =>
        have H:=HC17.out
        clear HC17
        have H':=Aside0.mk H
        clear H
        go_wp2
        go_loopg [14] k3 (fun kq v14 w' => ∃ (x14_4:Int),v14 = .int .i64 x14_4 ∧ Aside0 (beaconref16_Balls.l2 kq a0 l1 a2 x9_3 x10_2 x11_3 x14_4 t403 t404 t405 t406 t407 t408 = some (r1,r2)) ∧ Aside0 (kq ≤ k3) ∧ Aside0 (Kd.R k58 58 w' w.heap.size (fun k_ => k_ ≠ gb410) u9 x9_3) ∧ Aside0 (w'.heap[gb410]? = some (.cells #[.int .i64 t403,.int .i64 t404,.float .f64 t405,.int .i64 t406,.float .f64 t407,.int .i64 t408] 58 (0,0))) ∧ Aside0 (Below w.heap.size w w'))
        case atStart => exact ⟨(0),(by first | rfl | (simp;done) | (simp [*];done)),H',⟨Nat.le_refl _⟩,⟨by (with_reducible repeat (first | apply Kd.R_alloc | apply Kd.R_drewN | apply Kd.R_drew));exact Kd.R_mono (Kd.R_far (p:=⟨gb410,5,none⟩) (Kd.R_far (p:=⟨gb410,4,none⟩) (Kd.R_far (p:=⟨gb410,3,none⟩) (Kd.R_far (p:=⟨gb410,2,none⟩) (Kd.R_far (p:=⟨gb410,1,none⟩) (Kd.R_far (p:=⟨gb410,0,none⟩) (Kd.R_mono HO_9.out (fun k_ hk => (⟨hk,hk⟩:_ ∧ k_ ≠ gb410))) (fun _ hk => hk.2) (.int .i64 t403)) (fun _ hk => hk.2) (.int .i64 t404)) (fun _ hk => hk.2) (.float .f64 t405)) (fun _ hk => hk.2) (.int .i64 t406)) (fun _ hk => hk.2) (.float .f64 t407)) (fun _ hk => hk.2) (.int .i64 t408)) (fun _ hk => hk.1)⟩,⟨by (with_reducible repeat (first | refine blk_drewN ?_ _ | refine blk_drew ?_ | refine blk_alloc ?_ _));refine blk_put (cs:=#[.int .i64 t403,.int .i64 t404,.float .f64 t405,.int .i64 t406,.float .f64 t407,.int .i64 0]) ?_ 5 _ rfl;(with_reducible repeat (first | refine blk_drewN ?_ _ | refine blk_drew ?_ | refine blk_alloc ?_ _));refine blk_put (cs:=#[.int .i64 t403,.int .i64 t404,.float .f64 t405,.int .i64 t406,.float .f64 0,.int .i64 0]) ?_ 4 _ rfl;(with_reducible repeat (first | refine blk_drewN ?_ _ | refine blk_drew ?_ | refine blk_alloc ?_ _));refine blk_put (cs:=#[.int .i64 t403,.int .i64 t404,.float .f64 t405,.int .i64 0,.float .f64 0,.int .i64 0]) ?_ 3 _ rfl;(with_reducible repeat (first | refine blk_drewN ?_ _ | refine blk_drew ?_ | refine blk_alloc ?_ _));refine blk_put (cs:=#[.int .i64 t403,.int .i64 t404,.float .f64 0,.int .i64 0,.float .f64 0,.int .i64 0]) ?_ 2 _ rfl;(with_reducible repeat (first | refine blk_drewN ?_ _ | refine blk_drew ?_ | refine blk_alloc ?_ _));refine blk_put (cs:=#[.int .i64 t403,.int .i64 0,.float .f64 0,.int .i64 0,.float .f64 0,.int .i64 0]) ?_ 1 _ rfl;(with_reducible repeat (first | refine blk_drewN ?_ _ | refine blk_drew ?_ | refine blk_alloc ?_ _));refine blk_put (cs:=#[.int .i64 0,.int .i64 0,.float .f64 0,.int .i64 0,.float .f64 0,.int .i64 0]) ?_ 0 _ rfl;(with_reducible repeat (first | refine blk_drewN ?_ _ | refine blk_drew ?_ | refine blk_alloc ?_ _));exact BK410.out⟩,⟨by repeat (first | (with_reducible first | exact HB.out | apply below_alloc | apply pw_below_drewN | apply below_drew1 | refine below_set ?_ GE410.out) | exact HB.out)⟩⟩
        case round =>
         clear H'
         obtain ⟨x14_4,rfl,HA,HK4,HO_9,BK410,HB⟩:=hrel
         cases gk with
         | zero => exact absurd HA.out (by simp [beaconref16_Balls.l2])
         | succ k4 =>
          have H:=HA.out
          clear HA
          simp only [beaconref16_Balls.l2] at H
          by_cases c28:x14_4 < (x9_3.length:Int)
          rotate_left
          ·rw [if_neg c28] at H
           have c28b0:decide (x14_4 < (x9_3.length:Int)) = false:=decide_eq_false c28
           clear c28
           (first | rw [c28b0] | (simp only [i64_w,i32_w];rw [c28b0]) | skip)
           have H':=Aside0.mk H
           clear H
           try go_wp2
           have n0_:=Aside0.mk (Kd.R_drew HO_9.out)
           have n1_:=Aside0.mk (blk_drew BK410.out)
           have n2_:=Aside0.mk (below_drew1 HB.out)
           clear HO_9
           clear BK410
           clear HB
           have HO_9:=n0_
           have BK410:=n1_
           have HB:=n2_
           clear n0_ n1_ n2_
           obtain ⟨Ao36,co36,eo36⟩:=Kd.R_slice HO_9.out
           (first | subst eo36 | (injection eo36 with f1_ f2_ f3_;have f4_:=f1_.symm;have f5_:=f3_.symm;clear f1_ f2_ f3_;subst f4_;subst f5_))
           refine start_ (n:=14) (S:=fun w' => True) (ds:=[]) #[false,false,false,false,false,false,false,false,false,false,false,false,false,false] (by kernel_rfl) rfl rfl trivial (fun hHeld => ?_);refine with_tabW beaconref16_Balls.tab16 beaconref16_Balls.bits16 (fun HT_ HW_ => ?_)
           generalize wr.drew = w35 at HO_9 BK410 HB hHeld ⊢
           refine manyT_ (fuel:=0) (a':=?_) ((0,0) :: (1,0) :: (2,0) :: (3,0) :: (4,0) :: (5,1) :: (6,1) :: (7,1) :: (8,1) :: (9,1) :: (10,1) :: (11,1) :: (12,1) :: (13,0) :: []) #[true,true,true,true,true,true,true,true,true,true,true,true,true,true] rfl HT_ (by kernel_rfl) (fun _ _ _ _ _ h => h) (fun h => absurd h (by decide)) ?_ ?_
           rotate_left
           ·repeat (first | exact Chain.nil _ | (apply Chain.on;rfl;rfl;(focus intro w';go_simp;with_reducible rfl);(focus simp only [Act.put,List.setIfInBounds_toArray,List.set_cons_zero,List.set_cons_succ,i64_w,i32_w];rfl)) | (apply Chain.off;rfl;rfl;(focus simp only [Act.put,List.setIfInBounds_toArray,List.set_cons_zero,List.set_cons_succ,i64_w,i32_w];rfl)))
           refine done_ (done_of HT_.out (by kernel_rfl)) ?_
           try go_wp2
           go_meet
           case rel => exact ⟨_,(x14_4),(by first | rfl | (simp;done) | (simp [*];done)),H',⟨by have:=HJ4.out;have:=HK2.out;have:=HK3.out;have:=HK4.out;first | omega | exact Nat.le_refl _⟩,⟨by (with_reducible repeat (first | apply Kd.R_alloc | apply Kd.R_drewN | apply Kd.R_drew));exact HO_9.out⟩,⟨by (with_reducible repeat (first | refine blk_drewN ?_ _ | refine blk_drew ?_ | refine blk_alloc ?_ _));exact BK410.out⟩,⟨by repeat (first | (with_reducible first | exact HB.out | apply below_alloc | apply pw_below_drewN | apply below_drew1 | refine below_set ?_ GE410.out) | exact HB.out)⟩⟩
          rw [if_pos c28] at H
          have c28b0:decide (x14_4 < (x9_3.length:Int)) = true:=decide_eq_true c28
          clear c28
          (first | rw [c28b0] | (simp only [i64_w,i32_w];rw [c28b0]) | skip)
          by_cases c29:0 ≤ x14_4
          rotate_left
          ·rw [if_neg c29] at H
           exact absurd H (by simp)
          rw [if_pos c29] at H
          have c29b0:decide (0 ≤ x14_4) = true:=decide_eq_true c29
          clear c29
          by_cases c30:((rd_T58 x9_3 x14_4).f0) = t403
          ·rw [if_pos c30] at H
           have c30b0:(((rd_T58 x9_3 x14_4).f0) == t403) = true:=beq_iff_eq.mpr c30
           have c30b1:(((rd_T58 x9_3 x14_4).f0) != t403) = false:=bne_eq_false_iff_eq.mpr c30
           clear c30
           have H':=Aside0.mk H
           clear H
           try go_wp2
           have n0_:=Aside0.mk (Kd.R_drew HO_9.out)
           have n1_:=Aside0.mk (blk_drew BK410.out)
           have n2_:=Aside0.mk (below_drew1 HB.out)
           clear HO_9
           clear BK410
           clear HB
           have HO_9:=n0_
           have BK410:=n1_
           have HB:=n2_
           clear n0_ n1_ n2_
           obtain ⟨Ao32,co32,eo32⟩:=Kd.R_slice HO_9.out
           (first | subst eo32 | (injection eo32 with f1_ f2_ f3_;have f4_:=f1_.symm;have f5_:=f3_.symm;clear f1_ f2_ f3_;subst f4_;subst f5_))
           have p411:0 ≤ (x14_4:Int):=of_decide_eq_true (by first | (with_reducible assumption) | assumption)
           have q411:x14_4 < (x9_3.length:Int):=of_decide_eq_true (by first | (with_reducible assumption) | assumption)
           obtain ⟨ad411,e411,hx411_0,hx411_1,hx411_2,hx411_3,hx411_4,hx411_5⟩:=at_T58 (Kd.R_reads' HO_9.out).2.2 x14_4 p411 q411
           cases e411
           replace p411:=eq_true p411
           replace q411:=eq_true q411
           refine start_ (n:=14) (S:=fun w' => w'.cell? ⟨gb410,0,none⟩ = some (.int .i64 t403) ∧ w'.cell? ⟨gb410,1,none⟩ = some (.int .i64 t404) ∧ w'.cell? ⟨gb410,2,none⟩ = some (.float .f64 t405) ∧ w'.cell? ⟨gb410,3,none⟩ = some (.int .i64 t406) ∧ w'.cell? ⟨gb410,4,none⟩ = some (.float .f64 t407) ∧ w'.cell? ⟨gb410,5,none⟩ = some (.int .i64 t408) ∧ w'.cell? (ad411.add ((x14_4).toNat * 6)) = some (.int .i64 ((rd_T58 x9_3 x14_4).f0)) ∧ w'.cell? ⟨(ad411.add ((x14_4).toNat * 6)).block,(ad411.add ((x14_4).toNat * 6)).off + 1,none⟩ = some (.int .i64 ((rd_T58 x9_3 x14_4).f1)) ∧ w'.cell? ⟨(ad411.add ((x14_4).toNat * 6)).block,(ad411.add ((x14_4).toNat * 6)).off + 2,none⟩ = some (.float .f64 ((rd_T58 x9_3 x14_4).f2)) ∧ w'.cell? ⟨(ad411.add ((x14_4).toNat * 6)).block,(ad411.add ((x14_4).toNat * 6)).off + 3,none⟩ = some (.int .i64 ((rd_T58 x9_3 x14_4).f3)) ∧ w'.cell? ⟨(ad411.add ((x14_4).toNat * 6)).block,(ad411.add ((x14_4).toNat * 6)).off + 4,none⟩ = some (.float .f64 ((rd_T58 x9_3 x14_4).f4)) ∧ w'.cell? ⟨(ad411.add ((x14_4).toNat * 6)).block,(ad411.add ((x14_4).toNat * 6)).off + 5,none⟩ = some (.int .i64 ((rd_T58 x9_3 x14_4).f5))) (ds:=[]) #[false,false,false,false,false,false,false,false,false,false,false,false,false,false] (by kernel_rfl) rfl rfl ⟨(blk_cell BK410.out 0).trans rfl,(blk_cell BK410.out 1).trans rfl,(blk_cell BK410.out 2).trans rfl,(blk_cell BK410.out 3).trans rfl,(blk_cell BK410.out 4).trans rfl,(blk_cell BK410.out 5).trans rfl,hx411_0,hx411_1,hx411_2,hx411_3,hx411_4,hx411_5⟩ (fun hHeld => ?_);refine with_tabW beaconref16_Balls.tab16 beaconref16_Balls.bits16 (fun HT_ HW_ => ?_)
           generalize wr.drew = w31 at HO_9 BK410 HB hx411_0 hx411_1 hx411_2 hx411_3 hx411_4 hx411_5 hHeld ⊢
           refine manyW_ (fuel:=0) (a':=?_) ((0,0) :: (1,0) :: (2,0) :: (3,0) :: (4,0) :: (5,0) :: (6,0) :: (7,0) :: (8,0) :: (10,0) :: (9,2) :: (11,2) :: (12,0) :: (13,0) :: []) #[true,true,true,true,true,true,true,true,true,true,true,true,true,true] rfl HT_ HW_ (by kernel_rfl) (fun _ _ _ _ _ h => h) (fun _ => hHeld) ?_ ?_
           rotate_left
           ·repeat (first | exact Chain.nil _ | (apply Chain.on;rfl;rfl;(focus intro w';go_simp;with_reducible rfl);(focus simp only [Act.put,List.setIfInBounds_toArray,List.set_cons_zero,List.set_cons_succ,i64_w,i32_w];rfl)) | (apply Chain.take;rfl;rfl;(focus rintro w' ⟨s0,s1,s2,s3,s4,s5,s6,s7,s8,s9,s10,s11⟩;go_simp;with_reducible rfl);(focus simp only [Act.put,List.setIfInBounds_toArray,List.set_cons_zero,List.set_cons_succ,i64_w,i32_w];rfl)))
           refine done_ (done_of HT_.out (by kernel_rfl)) ?_
           try go_wp2
           go_meet
           case rel => exact ⟨_,(x14_4),(by first | rfl | (simp;done) | (simp [*];done)),H',⟨by have:=HJ4.out;have:=HK2.out;have:=HK3.out;have:=HK4.out;first | omega | exact Nat.le_refl _⟩,⟨by (with_reducible repeat (first | apply Kd.R_alloc | apply Kd.R_drewN | apply Kd.R_drew));exact HO_9.out⟩,⟨by (with_reducible repeat (first | refine blk_drewN ?_ _ | refine blk_drew ?_ | refine blk_alloc ?_ _));exact BK410.out⟩,⟨by repeat (first | (with_reducible first | exact HB.out | apply below_alloc | apply pw_below_drewN | apply below_drew1 | refine below_set ?_ GE410.out) | exact HB.out)⟩⟩
          rw [if_neg c30] at H
          have c30b0:(((rd_T58 x9_3 x14_4).f0) == t403) = false:=beq_eq_false_iff_ne.mpr c30
          have c30b1:(((rd_T58 x9_3 x14_4).f0) != t403) = true:=bne_iff_ne.mpr c30
          have H':=Aside0.mk H
          clear H
          try go_wp2
          have n0_:=Aside0.mk (Kd.R_drew HO_9.out)
          have n1_:=Aside0.mk (blk_drew BK410.out)
          have n2_:=Aside0.mk (below_drew1 HB.out)
          clear HO_9
          clear BK410
          clear HB
          have HO_9:=n0_
          have BK410:=n1_
          have HB:=n2_
          clear n0_ n1_ n2_
          obtain ⟨Ao34,co34,eo34⟩:=Kd.R_slice HO_9.out
          (first | subst eo34 | (injection eo34 with f1_ f2_ f3_;have f4_:=f1_.symm;have f5_:=f3_.symm;clear f1_ f2_ f3_;subst f4_;subst f5_))
          have p411:0 ≤ (x14_4:Int):=of_decide_eq_true (by first | (with_reducible assumption) | assumption)
          have q411:x14_4 < (x9_3.length:Int):=of_decide_eq_true (by first | (with_reducible assumption) | assumption)
          obtain ⟨ad411,e411,hx411_0,hx411_1,hx411_2,hx411_3,hx411_4,hx411_5⟩:=at_T58 (Kd.R_reads' HO_9.out).2.2 x14_4 p411 q411
          cases e411
          replace p411:=eq_true p411
          replace q411:=eq_true q411
          refine start_ (n:=14) (S:=fun w' => w'.cell? ⟨gb410,0,none⟩ = some (.int .i64 t403) ∧ w'.cell? ⟨gb410,1,none⟩ = some (.int .i64 t404) ∧ w'.cell? ⟨gb410,2,none⟩ = some (.float .f64 t405) ∧ w'.cell? ⟨gb410,3,none⟩ = some (.int .i64 t406) ∧ w'.cell? ⟨gb410,4,none⟩ = some (.float .f64 t407) ∧ w'.cell? ⟨gb410,5,none⟩ = some (.int .i64 t408) ∧ w'.cell? (ad411.add ((x14_4).toNat * 6)) = some (.int .i64 ((rd_T58 x9_3 x14_4).f0)) ∧ w'.cell? ⟨(ad411.add ((x14_4).toNat * 6)).block,(ad411.add ((x14_4).toNat * 6)).off + 1,none⟩ = some (.int .i64 ((rd_T58 x9_3 x14_4).f1)) ∧ w'.cell? ⟨(ad411.add ((x14_4).toNat * 6)).block,(ad411.add ((x14_4).toNat * 6)).off + 2,none⟩ = some (.float .f64 ((rd_T58 x9_3 x14_4).f2)) ∧ w'.cell? ⟨(ad411.add ((x14_4).toNat * 6)).block,(ad411.add ((x14_4).toNat * 6)).off + 3,none⟩ = some (.int .i64 ((rd_T58 x9_3 x14_4).f3)) ∧ w'.cell? ⟨(ad411.add ((x14_4).toNat * 6)).block,(ad411.add ((x14_4).toNat * 6)).off + 4,none⟩ = some (.float .f64 ((rd_T58 x9_3 x14_4).f4)) ∧ w'.cell? ⟨(ad411.add ((x14_4).toNat * 6)).block,(ad411.add ((x14_4).toNat * 6)).off + 5,none⟩ = some (.int .i64 ((rd_T58 x9_3 x14_4).f5))) (ds:=[]) #[false,false,false,false,false,false,false,false,false,false,false,false,false,false] (by kernel_rfl) rfl rfl ⟨(blk_cell BK410.out 0).trans rfl,(blk_cell BK410.out 1).trans rfl,(blk_cell BK410.out 2).trans rfl,(blk_cell BK410.out 3).trans rfl,(blk_cell BK410.out 4).trans rfl,(blk_cell BK410.out 5).trans rfl,hx411_0,hx411_1,hx411_2,hx411_3,hx411_4,hx411_5⟩ (fun hHeld => ?_);refine with_tabW beaconref16_Balls.tab16 beaconref16_Balls.bits16 (fun HT_ HW_ => ?_)
          generalize wr.drew = w33 at HO_9 BK410 HB hx411_0 hx411_1 hx411_2 hx411_3 hx411_4 hx411_5 hHeld ⊢
          refine manyW_ (fuel:=0) (a':=?_) ((0,0) :: (1,0) :: (2,0) :: (3,0) :: (4,0) :: (5,0) :: (6,0) :: (7,0) :: (8,0) :: (10,0) :: (9,2) :: (11,2) :: (12,0) :: (13,0) :: []) #[true,true,true,true,true,true,true,true,true,true,true,true,true,true] rfl HT_ HW_ (by kernel_rfl) (fun _ _ _ _ _ h => h) (fun _ => hHeld) ?_ ?_
          rotate_left
          ·repeat (first | exact Chain.nil _ | (apply Chain.on;rfl;rfl;(focus intro w';go_simp;with_reducible rfl);(focus simp only [Act.put,List.setIfInBounds_toArray,List.set_cons_zero,List.set_cons_succ,i64_w,i32_w];rfl)) | (apply Chain.take;rfl;rfl;(focus rintro w' ⟨s0,s1,s2,s3,s4,s5,s6,s7,s8,s9,s10,s11⟩;go_simp;with_reducible rfl);(focus simp only [Act.put,List.setIfInBounds_toArray,List.set_cons_zero,List.set_cons_succ,i64_w,i32_w];rfl)))
          refine done_ (done_of HT_.out (by kernel_rfl)) ?_
          try go_wp2
          go_roundg k4
          case measure => have:=HJ4.out;have:=HK2.out;have:=HK3.out;have:=HK4.out;omega
          case rel => exact ⟨(wrap64 (x14_4 + 1)),(by first | rfl | (simp;done) | (simp [*];done)),H',⟨by have:=HJ4.out;have:=HK2.out;have:=HK3.out;have:=HK4.out;omega⟩,⟨by (with_reducible repeat (first | apply Kd.R_alloc | apply Kd.R_drewN | apply Kd.R_drew));exact HO_9.out⟩,⟨by (with_reducible repeat (first | refine blk_drewN ?_ _ | refine blk_drew ?_ | refine blk_alloc ?_ _));exact BK410.out⟩,⟨by repeat (first | (with_reducible first | exact HB.out | apply below_alloc | apply pw_below_drewN | apply below_drew1 | refine below_set ?_ GE410.out) | exact HB.out)⟩⟩
       case rest =>
        clear HC17
        obtain ⟨kq,x14_16,rfl,HA,HJ16,HO_9,BK410,HB⟩:=hcut
        cases kq with
        | zero => exact absurd HA.out (by simp [beaconref16_Balls.j4])
        | succ kj16 =>
         have H:=HA.out
         clear HA
         simp only [beaconref16_Balls.j4] at H
         by_cases c37:x14_16 = (x9_3.length:Int)
         ·rw [if_pos c37] at H
          have c37b0:(x14_16 == (x9_3.length:Int)) = true:=beq_iff_eq.mpr c37
          have c37b1:(x14_16 != (x9_3.length:Int)) = false:=bne_eq_false_iff_eq.mpr c37
          clear c37
          by_cases c38:x9_3.length < 2932031007402
          ·rw [if_pos c38] at H
           have LMc38:=Aside0.mk c38
           clear c38
           obtain ⟨y412,hy412⟩:∃ y_:List (S58),y_ = (x9_3 ++ [(⟨t403,t404,t405,t406,t407,t408⟩:S58)]):=⟨_,rfl⟩
           replace H:(beaconref16_Balls.l1 kj16 a0 l1 a2 y412 x10_2 (wrap64 (x11_3 + 1))) = some (r1,r2):=by first | (rw [hy412];with_reducible exact H) | (have H2_:=(Option.bind_some _ _).symm.trans H;rw [hy412];with_reducible exact H2_) | (have H2_:=(Option.bind_some _ _).symm.trans H;with_reducible exact H2_) | with_reducible exact H | (rw [hy412];exact H) | exact H
           have Ny412:=Aside0.mk hy412
           clear hy412
           have H':=Aside0.mk H
           clear H
           obtain ⟨Ao39,co39,eo39⟩:=Kd.R_slice HO_9.out
           subst eo39
           have hcz40_0:wc.cell? ⟨gb410,0,none⟩ = some (.int .i64 t403):=(blk_cell BK410.out 0).trans rfl
           have hcz40_1:wc.cell? ⟨gb410,1,none⟩ = some (.int .i64 t404):=(blk_cell BK410.out 1).trans rfl
           have hcz40_2:wc.cell? ⟨gb410,2,none⟩ = some (.float .f64 t405):=(blk_cell BK410.out 2).trans rfl
           have hcz40_3:wc.cell? ⟨gb410,3,none⟩ = some (.int .i64 t406):=(blk_cell BK410.out 3).trans rfl
           have hcz40_4:wc.cell? ⟨gb410,4,none⟩ = some (.float .f64 t407):=(blk_cell BK410.out 4).trans rfl
           have hcz40_5:wc.cell? ⟨gb410,5,none⟩ = some (.int .i64 t408):=(blk_cell BK410.out 5).trans rfl
           have hfz40_0:=blk_frozen BK410.out 0
           have hfz40_1:=blk_frozen BK410.out 1
           have hfz40_2:=blk_frozen BK410.out 2
           have hfz40_3:=blk_frozen BK410.out 3
           have hfz40_4:=blk_frozen BK410.out 4
           have hfz40_5:=blk_frozen BK410.out 5
           go_wp2_with (first | ((with_reducible refine gate_builtin (b:=.append) (xs:=#[.tmp 83,.tmp 85]) rfl ?_);at_builtin;refine Kd.R_append k58 (w0:=w) w.heap.size rfl (.tmp 83) (.tmp 85) 24 58 (.agg #[(.int .i64 0),(.int .i64 0),(.float .f64 0),(.int .i64 0),(.float .f64 0),(.int .i64 0)]) 48 rfl Try.underlying24 info58 rfl (by decide) (by omega) (.slice Ao39 x9_3.length co39) x9_3 (⟨t403,t404,t405,t406,t407,t408⟩:S58) [.int .i64 t403,.int .i64 t404,.float .f64 t405,.int .i64 t406,.float .f64 t407,.int .i64 t408] (fun k_ => k_ ≠ gb410) (fun _ => False) rfl rfl ?aP (fun _ hk => hk.elim) ?aF ?aO ?aB ?aS ?aL ?_;(case aP => exact k58_mkM _ _ _ (⟨t403,t404,t405,t406,t407,t408⟩:S58));(case aB => exact (by repeat (first | (with_reducible first | exact HB.out | apply below_alloc | apply pw_below_drewN | apply below_drew1 | refine below_set ?_ GE410.out) | exact HB.out)));(case aF => exact (fun k_ hk => Kd.freshB (g:=gb410) (o:=.cells #[.int .i64 t403,.int .i64 t404,.float .f64 t405,.int .i64 t406,.float .f64 t407,.int .i64 t408] 58 (0,0)) (by (with_reducible repeat (first | refine blk_drewN ?_ _ | refine blk_drew ?_ | refine blk_alloc ?_ _));exact BK410.out) k_ hk));(case aO => exact (by (with_reducible repeat (first | apply Kd.R_alloc | apply Kd.R_drewN | apply Kd.R_drew));exact HO_9.out));(case aS => exact (below_size (by repeat (first | (with_reducible first | exact HB.out | apply below_alloc | apply pw_below_drewN | apply below_drew1 | refine below_set ?_ GE410.out) | exact HB.out))));(case aL => have:=LMc38.out;omega);intro v413 w41 ho hb hg hat;rw [← Ny412.out] at ho;have n0_:=Aside0.mk (blk_grown (g:=gb410) (o:=.cells #[.int .i64 t403,.int .i64 t404,.float .f64 t405,.int .i64 t406,.float .f64 t407,.int .i64 t408] 58 (0,0)) (by (with_reducible repeat (first | refine blk_drewN ?_ _ | refine blk_drew ?_ | refine blk_alloc ?_ _));exact BK410.out) hg (Kd.R_away HO_9.out (fun _ hk => hk)));have n1_:=Aside0.mk (hb);have n2_:=Aside0.mk (ho);clear BK410;clear HB;clear HO_9;have BK410:=n0_;have HB:=n1_;have HO414:=n2_;clear n0_ n1_ n2_;clear ho hb hg hat))
           go_roundg kj16
           case measure => have:=HJ4.out;have:=HK2.out;have:=HK3.out;have:=HJ16.out;omega
           case rel => exact ⟨(y412),(wrap64 (x11_3 + 1)),(by first | rfl | (simp;done) | (simp [*];done)),H',⟨by have:=HJ4.out;have:=HK2.out;have:=HK3.out;have:=HJ16.out;omega⟩,⟨by (with_reducible repeat (first | apply Kd.R_alloc | apply Kd.R_drewN | apply Kd.R_drew));exact Kd.R_mono HO414.out (fun _ hk => trivial)⟩,⟨by repeat (first | (with_reducible first | exact HB.out | apply below_alloc | apply pw_below_drewN | apply below_drew1 | refine below_set ?_ GE410.out) | exact HB.out)⟩⟩
          rw [if_neg c38] at H
          exact absurd H (by simp)
         rw [if_neg c37] at H
         have c37b0:(x14_16 == (x9_3.length:Int)) = false:=beq_eq_false_iff_ne.mpr c37
         have c37b1:(x14_16 != (x9_3.length:Int)) = true:=bne_iff_ne.mpr c37
         by_cases c42:0 ≤ x14_16
         rotate_left
         ·rw [if_neg c42] at H
          exact absurd H (by simp)
         rw [if_pos c42] at H
         have c42b0:decide (0 ≤ x14_16) = true:=decide_eq_true c42
         clear c42
         by_cases c43:x14_16 < (x9_3.length:Int)
         rotate_left
         ·rw [if_neg c43] at H
          exact absurd H (by simp)
         rw [if_pos c43] at H
         have c43b0:decide (x14_16 < (x9_3.length:Int)) = true:=decide_eq_true c43
         clear c43
         by_cases c44:(FloatKind.f64.format.order t405 ((rd_T58 x9_3 x14_16).f2) == some .lt) = true
         rotate_left
         ·rw [if_neg c44] at H
          have c44b0:(FloatKind.f64.format.order t405 ((rd_T58 x9_3 x14_16).f2) == some .lt) = false:=by simpa using c44
          (try (have c44b1:decide (FloatKind.f64.format.order t405 ((rd_T58 x9_3 x14_16).f2) = some .lt) = false:=by simpa using c44))
          (try (have c44b2:(FloatKind.f64.format.order t405 ((rd_T58 x9_3 x14_16).f2) == some .lt) = false:=by simpa using c44))
          (try (have c44b3:¬ (FloatKind.f64.format.order t405 ((rd_T58 x9_3 x14_16).f2) = some .lt):=by simpa using c44))
          clear c44
          have H':=Aside0.mk H
          clear H
          obtain ⟨Ao51,co51,eo51⟩:=Kd.R_slice HO_9.out
          subst eo51
          try go_wp2
          have n0_:=Aside0.mk (Kd.R_drew HO_9.out)
          have n1_:=Aside0.mk (blk_drew BK410.out)
          have n2_:=Aside0.mk (below_drew1 HB.out)
          clear HO_9
          clear BK410
          clear HB
          have HO_9:=n0_
          have BK410:=n1_
          have HB:=n2_
          clear n0_ n1_ n2_
          have p415:0 ≤ (x14_16:Int):=of_decide_eq_true (by first | (with_reducible assumption) | assumption)
          have q415:x14_16 < (x9_3.length:Int):=of_decide_eq_true (by first | (with_reducible assumption) | assumption)
          obtain ⟨ad415,e415,hx415_0,hx415_1,hx415_2,hx415_3,hx415_4,hx415_5⟩:=at_T58 (Kd.R_reads' HO_9.out).2.2 x14_16 p415 q415
          cases e415
          replace p415:=eq_true p415
          replace q415:=eq_true q415
          refine start_ (n:=8) (S:=fun w' => w'.cell? ⟨gb410,0,none⟩ = some (.int .i64 t403) ∧ w'.cell? ⟨gb410,1,none⟩ = some (.int .i64 t404) ∧ w'.cell? ⟨gb410,2,none⟩ = some (.float .f64 t405) ∧ w'.cell? ⟨gb410,3,none⟩ = some (.int .i64 t406) ∧ w'.cell? ⟨gb410,4,none⟩ = some (.float .f64 t407) ∧ w'.cell? ⟨gb410,5,none⟩ = some (.int .i64 t408) ∧ w'.cell? (ad415.add ((x14_16).toNat * 6)) = some (.int .i64 ((rd_T58 x9_3 x14_16).f0)) ∧ w'.cell? ⟨(ad415.add ((x14_16).toNat * 6)).block,(ad415.add ((x14_16).toNat * 6)).off + 1,none⟩ = some (.int .i64 ((rd_T58 x9_3 x14_16).f1)) ∧ w'.cell? ⟨(ad415.add ((x14_16).toNat * 6)).block,(ad415.add ((x14_16).toNat * 6)).off + 2,none⟩ = some (.float .f64 ((rd_T58 x9_3 x14_16).f2)) ∧ w'.cell? ⟨(ad415.add ((x14_16).toNat * 6)).block,(ad415.add ((x14_16).toNat * 6)).off + 3,none⟩ = some (.int .i64 ((rd_T58 x9_3 x14_16).f3)) ∧ w'.cell? ⟨(ad415.add ((x14_16).toNat * 6)).block,(ad415.add ((x14_16).toNat * 6)).off + 4,none⟩ = some (.float .f64 ((rd_T58 x9_3 x14_16).f4)) ∧ w'.cell? ⟨(ad415.add ((x14_16).toNat * 6)).block,(ad415.add ((x14_16).toNat * 6)).off + 5,none⟩ = some (.int .i64 ((rd_T58 x9_3 x14_16).f5))) (ds:=[]) #[false,false,false,false,false,false,false,false] (by kernel_rfl) rfl rfl ⟨(blk_cell BK410.out 0).trans rfl,(blk_cell BK410.out 1).trans rfl,(blk_cell BK410.out 2).trans rfl,(blk_cell BK410.out 3).trans rfl,(blk_cell BK410.out 4).trans rfl,(blk_cell BK410.out 5).trans rfl,hx415_0,hx415_1,hx415_2,hx415_3,hx415_4,hx415_5⟩ (fun hHeld => ?_);refine with_tabW beaconref16_Balls.tab20 beaconref16_Balls.bits20 (fun HT_ HW_ => ?_)
          generalize wc.drew = w52 at HO_9 BK410 HB hx415_0 hx415_1 hx415_2 hx415_3 hx415_4 hx415_5 hHeld ⊢
          refine manyW_ (fuel:=0) (a':=?_) ((0,0) :: (2,0) :: (3,0) :: (4,0) :: (5,0) :: (1,2) :: (6,2) :: (7,0) :: []) #[true,true,true,true,true,true,true,true] rfl HT_ HW_ (by kernel_rfl) (fun _ _ _ _ _ h => h) (fun _ => hHeld) ?_ ?_
          rotate_left
          ·repeat (first | exact Chain.nil _ | (apply Chain.on;rfl;rfl;(focus intro w';go_simp;with_reducible rfl);(focus simp only [Act.put,List.setIfInBounds_toArray,List.set_cons_zero,List.set_cons_succ,i64_w,i32_w];rfl)) | (apply Chain.take;rfl;rfl;(focus rintro w' ⟨s0,s1,s2,s3,s4,s5,s6,s7,s8,s9,s10,s11⟩;go_simp;with_reducible rfl);(focus simp only [Act.put,List.setIfInBounds_toArray,List.set_cons_zero,List.set_cons_succ,i64_w,i32_w];rfl)))
          refine done_ (done_of HT_.out (by kernel_rfl)) ?_
          try go_wp2
          go_roundg kj16
          case measure => have:=HJ4.out;have:=HK2.out;have:=HK3.out;have:=HJ16.out;omega
          case rel => exact ⟨(x9_3),(wrap64 (x11_3 + 1)),(by first | rfl | (simp;done) | (simp [*];done)),H',⟨by have:=HJ4.out;have:=HK2.out;have:=HK3.out;have:=HJ16.out;omega⟩,⟨by (with_reducible repeat (first | apply Kd.R_alloc | apply Kd.R_drewN | apply Kd.R_drew));exact Kd.R_mono HO_9.out (fun _ hk => trivial)⟩,⟨by repeat (first | (with_reducible first | exact HB.out | apply below_alloc | apply pw_below_drewN | apply below_drew1 | refine below_set ?_ GE410.out) | exact HB.out)⟩⟩
         rw [if_pos c44] at H
         have c44b0:(FloatKind.f64.format.order t405 ((rd_T58 x9_3 x14_16).f2) == some .lt) = true:=c44
         (try (have c44b1:decide (FloatKind.f64.format.order t405 ((rd_T58 x9_3 x14_16).f2) = some .lt) = true:=by simpa using c44))
         (try (have c44b2:(FloatKind.f64.format.order t405 ((rd_T58 x9_3 x14_16).f2) == some .lt) = true:=by simpa using c44))
         clear c44
         obtain ⟨y416,hy416⟩:∃ y_:List (S58),y_ = (x9_3.set (x14_16:Int).toNat (⟨t403,t404,t405,t406,t407,t408⟩:S58)):=⟨_,rfl⟩
         replace H:(beaconref16_Balls.l1 kj16 a0 l1 a2 y416 x10_2 (wrap64 (x11_3 + 1))) = some (r1,r2):=by first | (rw [hy416];with_reducible exact H) | (have H2_:=(Option.bind_some _ _).symm.trans H;rw [hy416];with_reducible exact H2_) | (have H2_:=(Option.bind_some _ _).symm.trans H;with_reducible exact H2_) | with_reducible exact H | (rw [hy416];exact H) | exact H
         have Ny416:=Aside0.mk hy416
         clear hy416
         have H':=Aside0.mk H
         clear H
         obtain ⟨Ao46,co46,eo46⟩:=Kd.R_slice HO_9.out
         subst eo46
         try go_wp2
         have n0_:=Aside0.mk (Kd.R_drew HO_9.out)
         have n1_:=Aside0.mk (blk_drew BK410.out)
         have n2_:=Aside0.mk (below_drew1 HB.out)
         clear HO_9
         clear BK410
         clear HB
         have HO_9:=n0_
         have BK410:=n1_
         have HB:=n2_
         clear n0_ n1_ n2_
         have p415:0 ≤ (x14_16:Int):=of_decide_eq_true (by first | (with_reducible assumption) | assumption)
         have q415:x14_16 < (x9_3.length:Int):=of_decide_eq_true (by first | (with_reducible assumption) | assumption)
         obtain ⟨ad415,e415,hx415_0,hx415_1,hx415_2,hx415_3,hx415_4,hx415_5⟩:=at_T58 (Kd.R_reads' HO_9.out).2.2 x14_16 p415 q415
         cases e415
         replace p415:=eq_true p415
         replace q415:=eq_true q415
         refine start_ (n:=8) (S:=fun w' => w'.cell? ⟨gb410,0,none⟩ = some (.int .i64 t403) ∧ w'.cell? ⟨gb410,1,none⟩ = some (.int .i64 t404) ∧ w'.cell? ⟨gb410,2,none⟩ = some (.float .f64 t405) ∧ w'.cell? ⟨gb410,3,none⟩ = some (.int .i64 t406) ∧ w'.cell? ⟨gb410,4,none⟩ = some (.float .f64 t407) ∧ w'.cell? ⟨gb410,5,none⟩ = some (.int .i64 t408) ∧ w'.cell? (ad415.add ((x14_16).toNat * 6)) = some (.int .i64 ((rd_T58 x9_3 x14_16).f0)) ∧ w'.cell? ⟨(ad415.add ((x14_16).toNat * 6)).block,(ad415.add ((x14_16).toNat * 6)).off + 1,none⟩ = some (.int .i64 ((rd_T58 x9_3 x14_16).f1)) ∧ w'.cell? ⟨(ad415.add ((x14_16).toNat * 6)).block,(ad415.add ((x14_16).toNat * 6)).off + 2,none⟩ = some (.float .f64 ((rd_T58 x9_3 x14_16).f2)) ∧ w'.cell? ⟨(ad415.add ((x14_16).toNat * 6)).block,(ad415.add ((x14_16).toNat * 6)).off + 3,none⟩ = some (.int .i64 ((rd_T58 x9_3 x14_16).f3)) ∧ w'.cell? ⟨(ad415.add ((x14_16).toNat * 6)).block,(ad415.add ((x14_16).toNat * 6)).off + 4,none⟩ = some (.float .f64 ((rd_T58 x9_3 x14_16).f4)) ∧ w'.cell? ⟨(ad415.add ((x14_16).toNat * 6)).block,(ad415.add ((x14_16).toNat * 6)).off + 5,none⟩ = some (.int .i64 ((rd_T58 x9_3 x14_16).f5))) (ds:=[]) #[false,false,false,false,false,false,false,false] (by kernel_rfl) rfl rfl ⟨(blk_cell BK410.out 0).trans rfl,(blk_cell BK410.out 1).trans rfl,(blk_cell BK410.out 2).trans rfl,(blk_cell BK410.out 3).trans rfl,(blk_cell BK410.out 4).trans rfl,(blk_cell BK410.out 5).trans rfl,hx415_0,hx415_1,hx415_2,hx415_3,hx415_4,hx415_5⟩ (fun hHeld => ?_);refine with_tabW beaconref16_Balls.tab20 beaconref16_Balls.bits20 (fun HT_ HW_ => ?_)
         generalize wc.drew = w47 at HO_9 BK410 HB hx415_0 hx415_1 hx415_2 hx415_3 hx415_4 hx415_5 hHeld ⊢
         refine manyW_ (fuel:=0) (a':=?_) ((0,0) :: (2,0) :: (3,0) :: (4,0) :: (5,0) :: (1,2) :: (6,2) :: (7,0) :: []) #[true,true,true,true,true,true,true,true] rfl HT_ HW_ (by kernel_rfl) (fun _ _ _ _ _ h => h) (fun _ => hHeld) ?_ ?_
         rotate_left
         ·repeat (first | exact Chain.nil _ | (apply Chain.on;rfl;rfl;(focus intro w';go_simp;with_reducible rfl);(focus simp only [Act.put,List.setIfInBounds_toArray,List.set_cons_zero,List.set_cons_succ,i64_w,i32_w];rfl)) | (apply Chain.take;rfl;rfl;(focus rintro w' ⟨s0,s1,s2,s3,s4,s5,s6,s7,s8,s9,s10,s11⟩;go_simp;with_reducible rfl);(focus simp only [Act.put,List.setIfInBounds_toArray,List.set_cons_zero,List.set_cons_succ,i64_w,i32_w];rfl)))
         refine done_ (done_of HT_.out (by kernel_rfl)) ?_
         have hcz48_0:w47.cell? ⟨gb410,0,none⟩ = some (.int .i64 t403):=(blk_cell BK410.out 0).trans rfl
         have hcz48_1:w47.cell? ⟨gb410,1,none⟩ = some (.int .i64 t404):=(blk_cell BK410.out 1).trans rfl
         have hcz48_2:w47.cell? ⟨gb410,2,none⟩ = some (.float .f64 t405):=(blk_cell BK410.out 2).trans rfl
         have hcz48_3:w47.cell? ⟨gb410,3,none⟩ = some (.int .i64 t406):=(blk_cell BK410.out 3).trans rfl
         have hcz48_4:w47.cell? ⟨gb410,4,none⟩ = some (.float .f64 t407):=(blk_cell BK410.out 4).trans rfl
         have hcz48_5:w47.cell? ⟨gb410,5,none⟩ = some (.int .i64 t408):=(blk_cell BK410.out 5).trans rfl
         have hfz48_0:=blk_frozen BK410.out 0
         have hfz48_1:=blk_frozen BK410.out 1
         have hfz48_2:=blk_frozen BK410.out 2
         have hfz48_3:=blk_frozen BK410.out 3
         have hfz48_4:=blk_frozen BK410.out 4
         have hfz48_5:=blk_frozen BK410.out 5
         have p45:0 ≤ (x14_16:Int):=of_decide_eq_true (by first | (with_reducible assumption) | assumption)
         have q45:(x14_16:Int) < ((x9_3.length:Int):Int):=of_decide_eq_true (by first | (with_reducible assumption) | assumption)
         obtain ⟨go45,co45,eo45,gb45,gl45,cl45,HG45⟩:=Kd.R_form HO_9.out (by omega)
         (first | cases eo45 | (injection eo45 with ea_ en_ ec_;(first | subst ea_ | (injection ea_ with ea_;subst ea_));subst ec_;clear en_))
         have GB45:=Aside0.mk gb45
         have GG45:=Aside0.mk HG45
         clear gb45 gl45 HG45
         (first | simp only [add_plain] at hx415_0 | skip)
         (first | simp only [add_plain] at hx415_1 | skip)
         (first | simp only [add_plain] at hx415_2 | skip)
         (first | simp only [add_plain] at hx415_3 | skip)
         (first | simp only [add_plain] at hx415_4 | skip)
         (first | simp only [add_plain] at hx415_5 | skip)
         obtain ⟨ce45,hcl45,hM45,hcc45,hfr45⟩:=Kd.R_elem HO_9.out z58 (x14_16:Int) p45 q45
         obtain rfl:=k58_openM hM45
         have hx45_0:w47.cell? ⟨go45,(x14_16:Int).toNat * 6,none⟩ = some (.int .i64 ((rd_T58 x9_3 x14_16).f0)):=hcc45 0 _ rfl
         have hx45_1:w47.cell? ⟨go45,(x14_16:Int).toNat * 6 + 1,none⟩ = some (.int .i64 ((rd_T58 x9_3 x14_16).f1)):=hcc45 1 _ rfl
         have hx45_2:w47.cell? ⟨go45,(x14_16:Int).toNat * 6 + 2,none⟩ = some (.float .f64 ((rd_T58 x9_3 x14_16).f2)):=hcc45 2 _ rfl
         have hx45_3:w47.cell? ⟨go45,(x14_16:Int).toNat * 6 + 3,none⟩ = some (.int .i64 ((rd_T58 x9_3 x14_16).f3)):=hcc45 3 _ rfl
         have hx45_4:w47.cell? ⟨go45,(x14_16:Int).toNat * 6 + 4,none⟩ = some (.float .f64 ((rd_T58 x9_3 x14_16).f4)):=hcc45 4 _ rfl
         have hx45_5:w47.cell? ⟨go45,(x14_16:Int).toNat * 6 + 5,none⟩ = some (.int .i64 ((rd_T58 x9_3 x14_16).f5)):=hcc45 5 _ rfl
         have hf45_0:w47.frozen? ⟨go45,(x14_16:Int).toNat * 6,none⟩ = false:=hfr45 0
         have hf45_1:w47.frozen? ⟨go45,(x14_16:Int).toNat * 6 + 1,none⟩ = false:=hfr45 1
         have hf45_2:w47.frozen? ⟨go45,(x14_16:Int).toNat * 6 + 2,none⟩ = false:=hfr45 2
         have hf45_3:w47.frozen? ⟨go45,(x14_16:Int).toNat * 6 + 3,none⟩ = false:=hfr45 3
         have hf45_4:w47.frozen? ⟨go45,(x14_16:Int).toNat * 6 + 4,none⟩ = false:=hfr45 4
         have hf45_5:w47.frozen? ⟨go45,(x14_16:Int).toNat * 6 + 5,none⟩ = false:=hfr45 5
         clear hcl45 hcc45 hfr45 hM45
         replace p45:=eq_true p45
         replace q45:=eq_true q45
         have HX49:=Aside0.mk (show Kd.R k58 58 w47 w.heap.size (fun k_ => k_ ≠ gb410) (.slice (some ⟨go45,0,none⟩) x9_3.length co46) x9_3 from (by (with_reducible repeat (first | apply Kd.R_alloc | apply Kd.R_drewN | apply Kd.R_drew));exact HO_9.out))
         obtain ⟨ce49,hcl49,hM49,hcc49,hfr49⟩:=Kd.R_elem HX49.out z58 (x14_16:Int) (of_decide_eq_true (by first | (with_reducible assumption) | assumption)) (by have h_:(x14_16:Int) < ((x9_3.length:Int):Int):=of_decide_eq_true (by first | (with_reducible assumption) | assumption);first | exact h_ | (have e_:=(Kd.R_reads' HO_9.out).1;omega) | simpa using h_)
         obtain rfl:=k58_openM hM49
         have HP49:=Kd.R_seg HX49.out (x14_16:Int) (of_decide_eq_true (by first | (with_reducible assumption) | assumption)) (by have h_:(x14_16:Int) < ((x9_3.length:Int):Int):=of_decide_eq_true (by first | (with_reducible assumption) | assumption);first | exact h_ | (have e_:=(Kd.R_reads' HO_9.out).1;omega) | simpa using h_) (seg:=[.int .i64 t403,.int .i64 t404,.float .f64 t405,.int .i64 t406,.float .f64 t407,.int .i64 t408]) (j:=0) hcl49 hcc49 (show 6 ≤ 6 from by decide) (x':=(⟨t403,t404,t405,t406,t407,t408⟩:S58)) (k58_mkM _ _ _ (⟨t403,t404,t405,t406,t407,t408⟩:S58) ) (fun _ hk => hk)
         have hx49_0:=hcc49 0 _ rfl
         (try simp only [show (k58).sz = 6 from rfl,Nat.mul_one,Nat.add_zero] at hx49_0)
         have hf49_0:=hfr49 0
         (try simp only [show (k58).sz = 6 from rfl,Nat.mul_one,Nat.add_zero] at hf49_0)
         have hx49_1:=hcc49 1 _ rfl
         (try simp only [show (k58).sz = 6 from rfl,Nat.mul_one,Nat.add_zero] at hx49_1)
         have hf49_1:=hfr49 1
         (try simp only [show (k58).sz = 6 from rfl,Nat.mul_one,Nat.add_zero] at hf49_1)
         have hx49_2:=hcc49 2 _ rfl
         (try simp only [show (k58).sz = 6 from rfl,Nat.mul_one,Nat.add_zero] at hx49_2)
         have hf49_2:=hfr49 2
         (try simp only [show (k58).sz = 6 from rfl,Nat.mul_one,Nat.add_zero] at hf49_2)
         have hx49_3:=hcc49 3 _ rfl
         (try simp only [show (k58).sz = 6 from rfl,Nat.mul_one,Nat.add_zero] at hx49_3)
         have hf49_3:=hfr49 3
         (try simp only [show (k58).sz = 6 from rfl,Nat.mul_one,Nat.add_zero] at hf49_3)
         have hx49_4:=hcc49 4 _ rfl
         (try simp only [show (k58).sz = 6 from rfl,Nat.mul_one,Nat.add_zero] at hx49_4)
         have hf49_4:=hfr49 4
         (try simp only [show (k58).sz = 6 from rfl,Nat.mul_one,Nat.add_zero] at hf49_4)
         have hx49_5:=hcc49 5 _ rfl
         (try simp only [show (k58).sz = 6 from rfl,Nat.mul_one,Nat.add_zero] at hx49_5)
         have hf49_5:=hfr49 5
         (try simp only [show (k58).sz = 6 from rfl,Nat.mul_one,Nat.add_zero] at hf49_5)
         clear hcl49 hcc49 hfr49 hM49
         try go_wp2_with (first | ((with_reducible refine gate_store (t:=58) (p:=98) rfl ?_);refine store_event (t:=58) (p:=98) (v:=?vo_w50) (w1:=((((((w47.setCell ⟨go45,(x14_16:Int).toNat * 6,none⟩ (.int .i64 t403)).setCell ⟨go45,(x14_16:Int).toNat * 6 + 1,none⟩ (.int .i64 t404)).setCell ⟨go45,(x14_16:Int).toNat * 6 + 2,none⟩ (.float .f64 t405)).setCell ⟨go45,(x14_16:Int).toNat * 6 + 3,none⟩ (.int .i64 t406)).setCell ⟨go45,(x14_16:Int).toNat * 6 + 4,none⟩ (.float .f64 t407)).setCell ⟨go45,(x14_16:Int).toNat * 6 + 5,none⟩ (.int .i64 t408))) ?hg ?ho ?hn ?hr ?_;(case ho => rfl);(case hg => rfl);(case hn => rfl);(case hr => first | (go_simp;done) | (go_simp;rfl));intro w50 hw;have hg:w47.grownBy w50 (some go45):=(by rw [hw];exact HP49.2);have hp_:Kd.R k58 58 w50 w.heap.size (fun k_ => k_ ≠ gb410) (.slice (some ⟨go45,0,none⟩) x9_3.length co46) y416:=(by rw [hw,Ny416.out];exact HP49.1);clear HP49;have n0_:=Aside0.mk (hp_);have n1_:=Aside0.mk (blk_grown (g:=gb410) (o:=.cells #[.int .i64 t403,.int .i64 t404,.float .f64 t405,.int .i64 t406,.float .f64 t407,.int .i64 t408] 58 (0,0)) (by (with_reducible repeat (first | refine blk_drewN ?_ _ | refine blk_drew ?_ | refine blk_alloc ?_ _));exact BK410.out) hg (Kd.R_away HO_9.out (fun _ hk => hk)));have n2_:=Aside0.mk ((by rw [hw];exact below_set (below_set (below_set (below_set (below_set (below_set (HB.out) GB45.out) GB45.out) GB45.out) GB45.out) GB45.out) GB45.out:Below w.heap.size w w50));clear HO_9;clear BK410;clear HB;have HO_9:=n0_;have BK410:=n1_;have HB:=n2_;clear n0_ n1_ n2_;clear hg hw hp_))
         go_roundg kj16
         case measure => have:=HJ4.out;have:=HK2.out;have:=HK3.out;have:=HJ16.out;omega
         case rel => exact ⟨(y416),(wrap64 (x11_3 + 1)),(by first | rfl | (simp;done) | (simp [*];done)),H',⟨by have:=HJ4.out;have:=HK2.out;have:=HK3.out;have:=HJ16.out;omega⟩,⟨by (with_reducible repeat (first | apply Kd.R_alloc | apply Kd.R_drewN | apply Kd.R_drew));exact Kd.R_mono HO_9.out (fun _ hk => trivial)⟩,⟨by repeat (first | (with_reducible first | exact HB.out | apply below_alloc | apply pw_below_drewN | apply below_drew1 | refine below_set ?_ GE410.out) | exact HB.out)⟩⟩
end Go.Proofs.Ytjcnmpkaiopihaa.PA
