/- Printed by a program of this session (wip/tools/patch_print.py and pr.py, over the kit's print): each Go function as a plain Lean function, and that the Go code comes to just its answers. Conditions: those that each theorem names. -/
import Derived.Test.YtjcnmpkaiopihaaZmPAx0
import Derived.Test.YtjcnmpkaiopihaaZmPAx2
import Derived.Test.YtjcnmpkaiopihaaZmPAx3
namespace Go.Proofs.Ytjcnmpkaiopihaa.PA
open Go.RowKit Go.Proofs.YtjcnmpkaiopihaaW.PrintWords Go.Proofs.YtjcnmpkaiopihaaW.PrintLast Go.Proofs.YtjcnmpkaiopihaaW.PrintMore
attribute [local go_sem] max2_int min2_int max_two min_two max_three min_three max_four min_four
set_option linter.unusedVariables false
set_option linter.unusedSimpArgs false
def beaconref14_List.l0:Nat → List (S56) → Int → Option (Bool)
 | 0,_,_ => none
 | k + 1,x0,x3 => if x3 < (x0.length:Int) then (if 0 ≤ x3 then ((math_IsInf.f ((rd_T56 x0 x3).f2) 1).bind fun t127 => (if t127 = true then (some false) else (beaconref14_List.l0 k x0 (wrap64 (x3 + 1))))) else (none)) else ((beaconref14_rising.f k x0).bind fun t125 => (some t125))
def beaconref14_List.f (k:Nat) (l0:List (S56)):Option (Bool):=beaconref14_List.l0 k l0 0
set_option maxHeartbeats 8000000 in
set_option maxRecDepth 100000 in
theorem beaconref14_List.calls (k:Nat) (A0:Option Addr) (c0:Nat) (l0:List (S56)) (r:Bool) (w:World) (hr0:Kd.C k56 w A0 l0.length l0) (hc0:l0.length ≤ c0) (h:beaconref14_List.f k l0 = some r) :
  Calls Try.prog 25 #[.slice A0 l0.length c0] w fun e w' => e = .returned (.bool r) ∧ Below w.heap.size w w':=by
 have HR0:=Aside0.mk hr0
 have HC0:=Aside0.mk hc0
 clear hr0 hc0
 have HB:=Aside0.mk (Below.refl w.heap.size w)
 have H:(beaconref14_List.l0 k l0 0) = some r:=h
 clear h
 have H':=Aside0.mk H
 clear H
 go_enter Try.func25,Try.ntmps25
 go_wp2
 go_loopg [3] k (fun kq v3 w' => ∃ (x3_1:Int),v3 = .int .i64 x3_1 ∧ Aside0 (beaconref14_List.l0 kq l0 x3_1 = some r) ∧ Aside0 (kq ≤ k) ∧ Aside0 (Below w.heap.size w w'))
 case atStart => exact ⟨(0),(by first | rfl | (simp;done) | (simp [*];done)),H',⟨Nat.le_refl _⟩,⟨by repeat (first | (with_reducible first | exact HB.out | apply below_alloc | apply pw_below_drewN | apply below_drew1) | exact HB.out)⟩⟩
 case round =>
  clear H'
  obtain ⟨x3_1,rfl,HA,HK1,HB⟩:=hrel
  cases gk with
  | zero => exact absurd HA.out (by simp [beaconref14_List.l0])
  | succ k1 =>
   have H:=HA.out
   clear HA
   simp only [beaconref14_List.l0] at H
   by_cases c2:x3_1 < (l0.length:Int)
   rotate_left
   ·rw [if_neg c2] at H
    have c2b0:decide (x3_1 < (l0.length:Int)) = false:=decide_eq_false c2
    clear c2
    replace H:=Option.bind_eq_some_iff.mp H
    obtain ⟨t125,A60,H⟩:=H
    replace H:(some t125) = some r:=H
    have A6:=Aside0.mk A60
    clear A60
    obtain rfl:=Option.some.inj H
    go_wp2_with (first | ((with_reducible refine gate_callee (f:=63) rfl ?_);refine goesL_ (some 17) rfl rfl Try.func63 (by kernel_rfl) rfl #[.slice A0 l0.length c0] rfl (by (try simp only [List.map_toArray,List.map_cons,List.map_nil]);first | done | rfl | (simp only [List.length_drop,List.length_take];rfl)) ?_;(with_reducible refine (beaconref14_rising.calls k1 _ _ l0 t125 _ ?side1 ?side2 A6.out).mono ?_);(case side1 => repeat (first | exact (Kd.C_below HR0.out HB.out) | (with_reducible refine Kd.C_alloc ?_ _) | (with_reducible refine Kd.C_drewN ?_ _) | (with_reducible refine Kd.C_drew ?_)));(case side2 => exact HC0.out);rintro e w7 ⟨rfl,hb⟩;refine ⟨_,rfl,?_⟩;have n0_:=Aside0.mk (below_step (by repeat (first | (with_reducible first | exact HB.out | apply below_alloc | apply pw_below_drewN | apply below_drew1) | exact HB.out)) hb);clear HB;have HB:=n0_;clear n0_;(try clear hb);(try clear hb2);(try clear hk);(try clear hi)))
    go_ret
    exact ⟨by first | rfl | (simp [errW_none,errW_some] <;> rfl) | (simp [*,errW_none,errW_some] <;> rfl),by repeat (first | (with_reducible first | exact HB.out | apply below_alloc | apply pw_below_drewN | apply below_drew1) | exact HB.out)⟩
   rw [if_pos c2] at H
   have c2b0:decide (x3_1 < (l0.length:Int)) = true:=decide_eq_true c2
   clear c2
   by_cases c3:0 ≤ x3_1
   rotate_left
   ·rw [if_neg c3] at H
    exact absurd H (by simp)
   rw [if_pos c3] at H
   have c3b0:decide (0 ≤ x3_1) = true:=decide_eq_true c3
   clear c3
   replace H:=Option.bind_eq_some_iff.mp H
   obtain ⟨t127,A40,H⟩:=H
   replace H:(if t127 = true then (some false) else (beaconref14_List.l0 k1 l0 (wrap64 (x3_1 + 1)))) = some r:=H
   have A4:=Aside0.mk A40
   clear A40
   by_cases c5:t127 = true
   ·subst c5
    have H1:(some false) = some r:=by rw [if_pos rfl] at H;exact H
    clear H
    have H:=H1
    clear H1
    obtain rfl:=Option.some.inj H
    have p126:0 ≤ (x3_1:Int):=of_decide_eq_true (by first | (with_reducible assumption) | assumption)
    have q126:x3_1 < (l0.length:Int):=of_decide_eq_true (by first | (with_reducible assumption) | assumption)
    obtain ⟨ad126,e126,hx126_0,hx126_1,hx126_2,hx126_3,hx126_4⟩:=at_T56 HR0.out x3_1 p126 q126
    cases e126
    replace hx126_0:=(HB.out.cell (World.block_lt_of_cell? w _ hx126_0)).trans hx126_0
    replace hx126_1:=(HB.out.cell (World.block_lt_of_cell? w _ hx126_1)).trans hx126_1
    replace hx126_2:=(HB.out.cell (World.block_lt_of_cell? w _ hx126_2)).trans hx126_2
    replace hx126_3:=(HB.out.cell (World.block_lt_of_cell? w _ hx126_3)).trans hx126_3
    replace hx126_4:=(HB.out.cell (World.block_lt_of_cell? w _ hx126_4)).trans hx126_4
    replace p126:=eq_true p126
    replace q126:=eq_true q126
    go_wp2_with (first | ((with_reducible refine gate_callee (f:=62) rfl ?_);refine goesL_ (some 15) rfl rfl Try.func62 (by kernel_rfl) rfl #[.float .f64 ((rd_T56 l0 x3_1).f2),.int .i64 1] rfl (by (try simp only [List.map_toArray,List.map_cons,List.map_nil]);first | done | rfl | (simp only [List.length_drop,List.length_take];rfl)) ?_;(with_reducible refine (math_IsInf.calls ((rd_T56 l0 x3_1).f2) 1 true _ A4.out).mono ?_);rintro e w' ⟨rfl,⟨nd,rfl⟩⟩;refine ⟨_,rfl,?_⟩))
    go_ret
    exact ⟨by first | rfl | (simp [errW_none,errW_some] <;> rfl) | (simp [*,errW_none,errW_some] <;> rfl),by repeat (first | (with_reducible first | exact HB.out | apply below_alloc | apply pw_below_drewN | apply below_drew1) | exact HB.out)⟩
   replace c5:=Bool.eq_false_iff.mpr c5
   subst c5
   have H1:(beaconref14_List.l0 k1 l0 (wrap64 (x3_1 + 1))) = some r:=by rw [if_neg (show ¬ (false = true) by decide)] at H;exact H
   clear H
   have H:=H1
   clear H1
   have H':=Aside0.mk H
   clear H
   have p126:0 ≤ (x3_1:Int):=of_decide_eq_true (by first | (with_reducible assumption) | assumption)
   have q126:x3_1 < (l0.length:Int):=of_decide_eq_true (by first | (with_reducible assumption) | assumption)
   obtain ⟨ad126,e126,hx126_0,hx126_1,hx126_2,hx126_3,hx126_4⟩:=at_T56 HR0.out x3_1 p126 q126
   cases e126
   replace hx126_0:=(HB.out.cell (World.block_lt_of_cell? w _ hx126_0)).trans hx126_0
   replace hx126_1:=(HB.out.cell (World.block_lt_of_cell? w _ hx126_1)).trans hx126_1
   replace hx126_2:=(HB.out.cell (World.block_lt_of_cell? w _ hx126_2)).trans hx126_2
   replace hx126_3:=(HB.out.cell (World.block_lt_of_cell? w _ hx126_3)).trans hx126_3
   replace hx126_4:=(HB.out.cell (World.block_lt_of_cell? w _ hx126_4)).trans hx126_4
   replace p126:=eq_true p126
   replace q126:=eq_true q126
   go_wp2_with (first | ((with_reducible refine gate_callee (f:=62) rfl ?_);refine goesL_ (some 15) rfl rfl Try.func62 (by kernel_rfl) rfl #[.float .f64 ((rd_T56 l0 x3_1).f2),.int .i64 1] rfl (by (try simp only [List.map_toArray,List.map_cons,List.map_nil]);first | done | rfl | (simp only [List.length_drop,List.length_take];rfl)) ?_;(with_reducible refine (math_IsInf.calls ((rd_T56 l0 x3_1).f2) 1 false _ A4.out).mono ?_);rintro e w' ⟨rfl,⟨nd,rfl⟩⟩;refine ⟨_,rfl,?_⟩))
   go_roundg k1
   case measure => have:=HK1.out;omega
   case rel => exact ⟨(wrap64 (x3_1 + 1)),(by first | rfl | (simp;done) | (simp [*];done)),H',⟨by have:=HK1.out;omega⟩,⟨by repeat (first | (with_reducible first | exact HB.out | apply below_alloc | apply pw_below_drewN | apply below_drew1) | exact HB.out)⟩⟩
def beaconref15_number.f (a0:Int):Option (Bool):=(beaconref02_CheckId.f a0).bind fun t128 => (some (t128 == 0))
set_option maxHeartbeats 8000000 in
set_option maxRecDepth 100000 in
theorem beaconref15_number.calls (a0:Int) (r:Bool) (w:World) (h:beaconref15_number.f a0 = some r) :
  Calls Try.prog 52 #[.int .i64 a0] w fun e w' => e = .returned (.bool r) ∧ Drawn0 w w':=by
 have H:((beaconref02_CheckId.f a0).bind fun t128 => (some (t128 == 0))) = some r:=h
 clear h
 replace H:=Option.bind_eq_some_iff.mp H
 obtain ⟨t128,A20,H⟩:=H
 replace H:(some (t128 == 0)) = some r:=H
 have A2:=Aside0.mk A20
 clear A20
 obtain rfl:=Option.some.inj H
 go_enter Try.func52,Try.ntmps52
 go_wp2_with (first | ((with_reducible refine gate_callee (f:=82) rfl ?_);refine goesL_ (some 4) rfl rfl Try.func82 (by kernel_rfl) rfl #[.int .i64 a0] rfl (by (try simp only [List.map_toArray,List.map_cons,List.map_nil]);first | done | rfl | (simp only [List.length_drop,List.length_take];rfl)) ?_;(with_reducible refine (beaconref02_CheckId.calls a0 t128 _ A2.out).mono ?_);rintro e w' ⟨rfl,⟨nd,rfl⟩⟩;refine ⟨_,rfl,?_⟩))
 go_ret
 exact ⟨by first | rfl | (simp;done) | (simp [*];done),by repeat (first | exact Drawn0.refl _ | apply Drawn0.step)⟩
def beaconref01_nan.f (a0:Nat):Option (Bool):=some (FloatKind.f64.format.order a0 a0 != some .eq)
set_option maxHeartbeats 8000000 in
set_option maxRecDepth 100000 in
theorem beaconref01_nan.calls (a0:Nat) (r:Bool) (w:World) (h:beaconref01_nan.f a0 = some r) :
  Calls Try.prog 79 #[.float .f64 a0] w fun e w' => e = .returned (.bool r) ∧ Drawn0 w w':=by
 have H:(some (FloatKind.f64.format.order a0 a0 != some .eq)) = some r:=h
 clear h
 obtain rfl:=Option.some.inj H
 go_enter Try.func79,Try.ntmps79
 go_wp2
 go_ret
 exact ⟨by first | rfl | (simp;done) | (simp [*];done),by repeat (first | exact Drawn0.refl _ | apply Drawn0.step)⟩
def beaconref01_inf.f (a0:Nat):Option (Bool):=if (FloatKind.f64.format.order a0 9218868437227405311 == some .gt) = true then (some true) else (some (FloatKind.f64.format.order a0 18442240474082181119 == some .lt))
set_option maxHeartbeats 8000000 in
set_option maxRecDepth 100000 in
theorem beaconref01_inf.calls (a0:Nat) (r:Bool) (w:World) (h:beaconref01_inf.f a0 = some r) :
  Calls Try.prog 102 #[.float .f64 a0] w fun e w' => e = .returned (.bool r) ∧ Drawn0 w w':=by
 have H:(if (FloatKind.f64.format.order a0 9218868437227405311 == some .gt) = true then (some true) else (some (FloatKind.f64.format.order a0 18442240474082181119 == some .lt))) = some r:=h
 clear h
 by_cases c2:(FloatKind.f64.format.order a0 9218868437227405311 == some .gt) = true
 ·rw [if_pos c2] at H
  have c2b0:(FloatKind.f64.format.order a0 9218868437227405311 == some .gt) = true:=c2
  (try (have c2b1:decide (FloatKind.f64.format.order a0 9218868437227405311 = some .gt) = true:=by simpa using c2))
  (try (have c2b2:(FloatKind.f64.format.order a0 9218868437227405311 == some .gt) = true:=by simpa using c2))
  clear c2
  obtain rfl:=Option.some.inj H
  go_enter Try.func102,Try.ntmps102
  go_wp2
  go_ret
  exact ⟨by first | rfl | (simp;done) | (simp [*];done),by repeat (first | exact Drawn0.refl _ | apply Drawn0.step)⟩
 rw [if_neg c2] at H
 have c2b0:(FloatKind.f64.format.order a0 9218868437227405311 == some .gt) = false:=by simpa using c2
 (try (have c2b1:decide (FloatKind.f64.format.order a0 9218868437227405311 = some .gt) = false:=by simpa using c2))
 (try (have c2b2:(FloatKind.f64.format.order a0 9218868437227405311 == some .gt) = false:=by simpa using c2))
 (try (have c2b3:¬ (FloatKind.f64.format.order a0 9218868437227405311 = some .gt):=by simpa using c2))
 clear c2
 obtain rfl:=Option.some.inj H
 go_enter Try.func102,Try.ntmps102
 go_wp2
 go_ret
 exact ⟨by first | rfl | (simp;done) | (simp [*];done),by repeat (first | exact Drawn0.refl _ | apply Drawn0.step)⟩
def beaconref01_sign.f (a0:Nat):Option (Bool):=some (((a0:Int) / 9223372036854775808) == 1)
set_option maxHeartbeats 8000000 in
set_option maxRecDepth 100000 in
theorem beaconref01_sign.calls (a0:Nat) (r:Bool) (w:World) (h:beaconref01_sign.f a0 = some r) :
  Calls Try.prog 103 #[.float .f64 a0] w fun e w' => e = .returned (.bool r) ∧ Drawn0 w w':=by
 have hX39:=run_Float64bits Try.func39 (by kernel_rfl) (by kernel_rfl) (by kernel_rfl) (by kernel_rfl)
 have H:(some (((a0:Int) / 9223372036854775808) == 1)) = some r:=h
 clear h
 obtain rfl:=Option.some.inj H
 go_enter Try.func103,Try.ntmps103
 go_wp2
 go_ret
 exact ⟨by first | rfl | (simp;done) | (simp [*];done),by repeat (first | exact Drawn0.refl _ | apply Drawn0.step)⟩
def beaconref01_quarter.f (a0:Nat):Option (Bool):=(floatBits .mul .f64 a0 4616189618054758400).bind fun t129 => ((math_Trunc.f t129).bind fun t130 => (some (FloatKind.f64.format.order t130 t129 == some .eq)))
set_option maxHeartbeats 8000000 in
set_option maxRecDepth 100000 in
theorem beaconref01_quarter.calls (a0:Nat) (r:Bool) (w:World) (h:beaconref01_quarter.f a0 = some r) :
  Calls Try.prog 104 #[.float .f64 a0] w fun e w' => e = .returned (.bool r) ∧ Drawn0 w w':=by
 have H:((floatBits .mul .f64 a0 4616189618054758400).bind fun t129 => ((math_Trunc.f t129).bind fun t130 => (some (FloatKind.f64.format.order t130 t129 == some .eq)))) = some r:=h
 clear h
 replace H:=Option.bind_eq_some_iff.mp H
 obtain ⟨t129,A20,H⟩:=H
 replace H:((math_Trunc.f t129).bind fun t130 => (some (FloatKind.f64.format.order t130 t129 == some .eq))) = some r:=H
 have A2f:∀ W_:World,(binOp .mul 23 (.float .f64 a0) (.float .f64 4616189618054758400)).run Try.prog W_ = .ok (.float .f64 t129) W_:=fun W_ => run_float_arith W_ .mul 23 .f64 _ _ _ A20
 have A2:=Aside0.mk A20
 clear A20
 replace H:=Option.bind_eq_some_iff.mp H
 obtain ⟨t130,A30,H⟩:=H
 replace H:(some (FloatKind.f64.format.order t130 t129 == some .eq)) = some r:=H
 have A3:=Aside0.mk A30
 clear A30
 obtain rfl:=Option.some.inj H
 go_enter Try.func104,Try.ntmps104
 go_wp2_with (first | ((with_reducible refine gate_callee (f:=85) rfl ?_);refine goesL_ (some 5) rfl rfl Try.func85 (by kernel_rfl) rfl #[.float .f64 t129] rfl (by (try simp only [List.map_toArray,List.map_cons,List.map_nil]);first | done | rfl | (simp only [List.length_drop,List.length_take];rfl)) ?_;(with_reducible refine (math_Trunc.calls t129 t130 _ A3.out).mono ?_);rintro e w' ⟨rfl,⟨nd,rfl⟩⟩;refine ⟨_,rfl,?_⟩))
 go_ret
 exact ⟨by first | rfl | (simp;done) | (simp [*];done),by repeat (first | exact Drawn0.refl _ | apply Drawn0.step)⟩
def beaconref01_bounded.f (a0:Nat) (a1:Nat):Option (Int):=(beaconref01_nan.f a0).bind fun t131 => (if t131 = true then (some 10) else ((beaconref01_inf.f a0).bind fun t132 => (if t132 = true then (some 11) else ((beaconref01_sign.f a0).bind fun t133 => (if t133 = true then (some 12) else (if (FloatKind.f64.format.order a0 4607182418800017408 == some .lt) = true then (some 13) else (if (FloatKind.f64.format.order a0 a1 == some .gt) = true then (some 14) else ((beaconref01_quarter.f a0).bind fun t134 => (if t134 = true then (some 0) else (some 15))))))))))
set_option maxHeartbeats 8000000 in
set_option maxRecDepth 100000 in
theorem beaconref01_bounded.calls (a0:Nat) (a1:Nat) (r:Int) (w:World) (h:beaconref01_bounded.f a0 a1 = some r) :
  Calls Try.prog 71 #[.float .f64 a0,.float .f64 a1] w fun e w' => e = .returned (.int .i64 r) ∧ Drawn0 w w':=by
 have H:((beaconref01_nan.f a0).bind fun t131 => (if t131 = true then (some 10) else ((beaconref01_inf.f a0).bind fun t132 => (if t132 = true then (some 11) else ((beaconref01_sign.f a0).bind fun t133 => (if t133 = true then (some 12) else (if (FloatKind.f64.format.order a0 4607182418800017408 == some .lt) = true then (some 13) else (if (FloatKind.f64.format.order a0 a1 == some .gt) = true then (some 14) else ((beaconref01_quarter.f a0).bind fun t134 => (if t134 = true then (some 0) else (some 15))))))))))) = some r:=h
 clear h
 replace H:=Option.bind_eq_some_iff.mp H
 obtain ⟨t131,A30,H⟩:=H
 replace H:(if t131 = true then (some 10) else ((beaconref01_inf.f a0).bind fun t132 => (if t132 = true then (some 11) else ((beaconref01_sign.f a0).bind fun t133 => (if t133 = true then (some 12) else (if (FloatKind.f64.format.order a0 4607182418800017408 == some .lt) = true then (some 13) else (if (FloatKind.f64.format.order a0 a1 == some .gt) = true then (some 14) else ((beaconref01_quarter.f a0).bind fun t134 => (if t134 = true then (some 0) else (some 15)))))))))) = some r:=H
 have A3:=Aside0.mk A30
 clear A30
 by_cases c4:t131 = true
 ·subst c4
  have H1:(some 10) = some r:=by rw [if_pos rfl] at H;exact H
  clear H
  have H:=H1
  clear H1
  obtain rfl:=Option.some.inj H
  go_enter Try.func71,Try.ntmps71
  go_wp2_with (first | ((with_reducible refine gate_callee (f:=79) rfl ?_);refine goesL_ (some 6) rfl rfl Try.func79 (by kernel_rfl) rfl #[.float .f64 a0] rfl (by (try simp only [List.map_toArray,List.map_cons,List.map_nil]);first | done | rfl | (simp only [List.length_drop,List.length_take];rfl)) ?_;(with_reducible refine (beaconref01_nan.calls a0 true _ A3.out).mono ?_);rintro e w' ⟨rfl,⟨nd,rfl⟩⟩;refine ⟨_,rfl,?_⟩))
  go_ret
  exact ⟨by first | rfl | (simp;done) | (simp [*];done),by repeat (first | exact Drawn0.refl _ | apply Drawn0.step)⟩
 replace c4:=Bool.eq_false_iff.mpr c4
 subst c4
 have H1:((beaconref01_inf.f a0).bind fun t132 => (if t132 = true then (some 11) else ((beaconref01_sign.f a0).bind fun t133 => (if t133 = true then (some 12) else (if (FloatKind.f64.format.order a0 4607182418800017408 == some .lt) = true then (some 13) else (if (FloatKind.f64.format.order a0 a1 == some .gt) = true then (some 14) else ((beaconref01_quarter.f a0).bind fun t134 => (if t134 = true then (some 0) else (some 15))))))))) = some r:=by rw [if_neg (show ¬ (false = true) by decide)] at H;exact H
 clear H
 have H:=H1
 clear H1
 replace H:=Option.bind_eq_some_iff.mp H
 obtain ⟨t132,A50,H⟩:=H
 replace H:(if t132 = true then (some 11) else ((beaconref01_sign.f a0).bind fun t133 => (if t133 = true then (some 12) else (if (FloatKind.f64.format.order a0 4607182418800017408 == some .lt) = true then (some 13) else (if (FloatKind.f64.format.order a0 a1 == some .gt) = true then (some 14) else ((beaconref01_quarter.f a0).bind fun t134 => (if t134 = true then (some 0) else (some 15)))))))) = some r:=H
 have A5:=Aside0.mk A50
 clear A50
 by_cases c6:t132 = true
 ·subst c6
  have H1:(some 11) = some r:=by rw [if_pos rfl] at H;exact H
  clear H
  have H:=H1
  clear H1
  obtain rfl:=Option.some.inj H
  go_enter Try.func71,Try.ntmps71
  go_wp2_with (first | ((with_reducible refine gate_callee (f:=79) rfl ?_);refine goesL_ (some 6) rfl rfl Try.func79 (by kernel_rfl) rfl #[.float .f64 a0] rfl (by (try simp only [List.map_toArray,List.map_cons,List.map_nil]);first | done | rfl | (simp only [List.length_drop,List.length_take];rfl)) ?_;(with_reducible refine (beaconref01_nan.calls a0 false _ A3.out).mono ?_);rintro e w' ⟨rfl,⟨nd,rfl⟩⟩;refine ⟨_,rfl,?_⟩) | ((with_reducible refine gate_callee (f:=102) rfl ?_);refine goesL_ (some 8) rfl rfl Try.func102 (by kernel_rfl) rfl #[.float .f64 a0] rfl (by (try simp only [List.map_toArray,List.map_cons,List.map_nil]);first | done | rfl | (simp only [List.length_drop,List.length_take];rfl)) ?_;(with_reducible refine (beaconref01_inf.calls a0 true _ A5.out).mono ?_);rintro e w' ⟨rfl,⟨nd,rfl⟩⟩;refine ⟨_,rfl,?_⟩))
  go_ret
  exact ⟨by first | rfl | (simp;done) | (simp [*];done),by repeat (first | exact Drawn0.refl _ | apply Drawn0.step)⟩
 replace c6:=Bool.eq_false_iff.mpr c6
 subst c6
 have H1:((beaconref01_sign.f a0).bind fun t133 => (if t133 = true then (some 12) else (if (FloatKind.f64.format.order a0 4607182418800017408 == some .lt) = true then (some 13) else (if (FloatKind.f64.format.order a0 a1 == some .gt) = true then (some 14) else ((beaconref01_quarter.f a0).bind fun t134 => (if t134 = true then (some 0) else (some 15))))))) = some r:=by rw [if_neg (show ¬ (false = true) by decide)] at H;exact H
 clear H
 have H:=H1
 clear H1
 replace H:=Option.bind_eq_some_iff.mp H
 obtain ⟨t133,A70,H⟩:=H
 replace H:(if t133 = true then (some 12) else (if (FloatKind.f64.format.order a0 4607182418800017408 == some .lt) = true then (some 13) else (if (FloatKind.f64.format.order a0 a1 == some .gt) = true then (some 14) else ((beaconref01_quarter.f a0).bind fun t134 => (if t134 = true then (some 0) else (some 15)))))) = some r:=H
 have A7:=Aside0.mk A70
 clear A70
 by_cases c8:t133 = true
 ·subst c8
  have H1:(some 12) = some r:=by rw [if_pos rfl] at H;exact H
  clear H
  have H:=H1
  clear H1
  obtain rfl:=Option.some.inj H
  go_enter Try.func71,Try.ntmps71
  go_wp2_with (first | ((with_reducible refine gate_callee (f:=79) rfl ?_);refine goesL_ (some 6) rfl rfl Try.func79 (by kernel_rfl) rfl #[.float .f64 a0] rfl (by (try simp only [List.map_toArray,List.map_cons,List.map_nil]);first | done | rfl | (simp only [List.length_drop,List.length_take];rfl)) ?_;(with_reducible refine (beaconref01_nan.calls a0 false _ A3.out).mono ?_);rintro e w' ⟨rfl,⟨nd,rfl⟩⟩;refine ⟨_,rfl,?_⟩) | ((with_reducible refine gate_callee (f:=102) rfl ?_);refine goesL_ (some 8) rfl rfl Try.func102 (by kernel_rfl) rfl #[.float .f64 a0] rfl (by (try simp only [List.map_toArray,List.map_cons,List.map_nil]);first | done | rfl | (simp only [List.length_drop,List.length_take];rfl)) ?_;(with_reducible refine (beaconref01_inf.calls a0 false _ A5.out).mono ?_);rintro e w' ⟨rfl,⟨nd,rfl⟩⟩;refine ⟨_,rfl,?_⟩) | ((with_reducible refine gate_callee (f:=103) rfl ?_);refine goesL_ (some 10) rfl rfl Try.func103 (by kernel_rfl) rfl #[.float .f64 a0] rfl (by (try simp only [List.map_toArray,List.map_cons,List.map_nil]);first | done | rfl | (simp only [List.length_drop,List.length_take];rfl)) ?_;(with_reducible refine (beaconref01_sign.calls a0 true _ A7.out).mono ?_);rintro e w' ⟨rfl,⟨nd,rfl⟩⟩;refine ⟨_,rfl,?_⟩))
  go_ret
  exact ⟨by first | rfl | (simp;done) | (simp [*];done),by repeat (first | exact Drawn0.refl _ | apply Drawn0.step)⟩
 replace c8:=Bool.eq_false_iff.mpr c8
 subst c8
 have H1:(if (FloatKind.f64.format.order a0 4607182418800017408 == some .lt) = true then (some 13) else (if (FloatKind.f64.format.order a0 a1 == some .gt) = true then (some 14) else ((beaconref01_quarter.f a0).bind fun t134 => (if t134 = true then (some 0) else (some 15))))) = some r:=by rw [if_neg (show ¬ (false = true) by decide)] at H;exact H
 clear H
 have H:=H1
 clear H1
 by_cases c9:(FloatKind.f64.format.order a0 4607182418800017408 == some .lt) = true
 ·rw [if_pos c9] at H
  have c9b0:(FloatKind.f64.format.order a0 4607182418800017408 == some .lt) = true:=c9
  (try (have c9b1:decide (FloatKind.f64.format.order a0 4607182418800017408 = some .lt) = true:=by simpa using c9))
  (try (have c9b2:(FloatKind.f64.format.order a0 4607182418800017408 == some .lt) = true:=by simpa using c9))
  clear c9
  obtain rfl:=Option.some.inj H
  go_enter Try.func71,Try.ntmps71
  go_wp2_with (first | ((with_reducible refine gate_callee (f:=79) rfl ?_);refine goesL_ (some 6) rfl rfl Try.func79 (by kernel_rfl) rfl #[.float .f64 a0] rfl (by (try simp only [List.map_toArray,List.map_cons,List.map_nil]);first | done | rfl | (simp only [List.length_drop,List.length_take];rfl)) ?_;(with_reducible refine (beaconref01_nan.calls a0 false _ A3.out).mono ?_);rintro e w' ⟨rfl,⟨nd,rfl⟩⟩;refine ⟨_,rfl,?_⟩) | ((with_reducible refine gate_callee (f:=102) rfl ?_);refine goesL_ (some 8) rfl rfl Try.func102 (by kernel_rfl) rfl #[.float .f64 a0] rfl (by (try simp only [List.map_toArray,List.map_cons,List.map_nil]);first | done | rfl | (simp only [List.length_drop,List.length_take];rfl)) ?_;(with_reducible refine (beaconref01_inf.calls a0 false _ A5.out).mono ?_);rintro e w' ⟨rfl,⟨nd,rfl⟩⟩;refine ⟨_,rfl,?_⟩) | ((with_reducible refine gate_callee (f:=103) rfl ?_);refine goesL_ (some 10) rfl rfl Try.func103 (by kernel_rfl) rfl #[.float .f64 a0] rfl (by (try simp only [List.map_toArray,List.map_cons,List.map_nil]);first | done | rfl | (simp only [List.length_drop,List.length_take];rfl)) ?_;(with_reducible refine (beaconref01_sign.calls a0 false _ A7.out).mono ?_);rintro e w' ⟨rfl,⟨nd,rfl⟩⟩;refine ⟨_,rfl,?_⟩))
  go_ret
  exact ⟨by first | rfl | (simp;done) | (simp [*];done),by repeat (first | exact Drawn0.refl _ | apply Drawn0.step)⟩
 rw [if_neg c9] at H
 have c9b0:(FloatKind.f64.format.order a0 4607182418800017408 == some .lt) = false:=by simpa using c9
 (try (have c9b1:decide (FloatKind.f64.format.order a0 4607182418800017408 = some .lt) = false:=by simpa using c9))
 (try (have c9b2:(FloatKind.f64.format.order a0 4607182418800017408 == some .lt) = false:=by simpa using c9))
 (try (have c9b3:¬ (FloatKind.f64.format.order a0 4607182418800017408 = some .lt):=by simpa using c9))
 clear c9
 by_cases c10:(FloatKind.f64.format.order a0 a1 == some .gt) = true
 ·rw [if_pos c10] at H
  have c10b0:(FloatKind.f64.format.order a0 a1 == some .gt) = true:=c10
  (try (have c10b1:decide (FloatKind.f64.format.order a0 a1 = some .gt) = true:=by simpa using c10))
  (try (have c10b2:(FloatKind.f64.format.order a0 a1 == some .gt) = true:=by simpa using c10))
  clear c10
  obtain rfl:=Option.some.inj H
  go_enter Try.func71,Try.ntmps71
  go_wp2_with (first | ((with_reducible refine gate_callee (f:=79) rfl ?_);refine goesL_ (some 6) rfl rfl Try.func79 (by kernel_rfl) rfl #[.float .f64 a0] rfl (by (try simp only [List.map_toArray,List.map_cons,List.map_nil]);first | done | rfl | (simp only [List.length_drop,List.length_take];rfl)) ?_;(with_reducible refine (beaconref01_nan.calls a0 false _ A3.out).mono ?_);rintro e w' ⟨rfl,⟨nd,rfl⟩⟩;refine ⟨_,rfl,?_⟩) | ((with_reducible refine gate_callee (f:=102) rfl ?_);refine goesL_ (some 8) rfl rfl Try.func102 (by kernel_rfl) rfl #[.float .f64 a0] rfl (by (try simp only [List.map_toArray,List.map_cons,List.map_nil]);first | done | rfl | (simp only [List.length_drop,List.length_take];rfl)) ?_;(with_reducible refine (beaconref01_inf.calls a0 false _ A5.out).mono ?_);rintro e w' ⟨rfl,⟨nd,rfl⟩⟩;refine ⟨_,rfl,?_⟩) | ((with_reducible refine gate_callee (f:=103) rfl ?_);refine goesL_ (some 10) rfl rfl Try.func103 (by kernel_rfl) rfl #[.float .f64 a0] rfl (by (try simp only [List.map_toArray,List.map_cons,List.map_nil]);first | done | rfl | (simp only [List.length_drop,List.length_take];rfl)) ?_;(with_reducible refine (beaconref01_sign.calls a0 false _ A7.out).mono ?_);rintro e w' ⟨rfl,⟨nd,rfl⟩⟩;refine ⟨_,rfl,?_⟩))
  go_ret
  exact ⟨by first | rfl | (simp;done) | (simp [*];done),by repeat (first | exact Drawn0.refl _ | apply Drawn0.step)⟩
 rw [if_neg c10] at H
 have c10b0:(FloatKind.f64.format.order a0 a1 == some .gt) = false:=by simpa using c10
 (try (have c10b1:decide (FloatKind.f64.format.order a0 a1 = some .gt) = false:=by simpa using c10))
 (try (have c10b2:(FloatKind.f64.format.order a0 a1 == some .gt) = false:=by simpa using c10))
 (try (have c10b3:¬ (FloatKind.f64.format.order a0 a1 = some .gt):=by simpa using c10))
 clear c10
 replace H:=Option.bind_eq_some_iff.mp H
 obtain ⟨t134,A110,H⟩:=H
 replace H:(if t134 = true then (some 0) else (some 15)) = some r:=H
 have A11:=Aside0.mk A110
 clear A110
 by_cases c12:t134 = true
 ·subst c12
  have H1:(some 0) = some r:=by rw [if_pos rfl] at H;exact H
  clear H
  have H:=H1
  clear H1
  obtain rfl:=Option.some.inj H
  go_enter Try.func71,Try.ntmps71
  go_wp2_with (first | ((with_reducible refine gate_callee (f:=79) rfl ?_);refine goesL_ (some 6) rfl rfl Try.func79 (by kernel_rfl) rfl #[.float .f64 a0] rfl (by (try simp only [List.map_toArray,List.map_cons,List.map_nil]);first | done | rfl | (simp only [List.length_drop,List.length_take];rfl)) ?_;(with_reducible refine (beaconref01_nan.calls a0 false _ A3.out).mono ?_);rintro e w' ⟨rfl,⟨nd,rfl⟩⟩;refine ⟨_,rfl,?_⟩) | ((with_reducible refine gate_callee (f:=102) rfl ?_);refine goesL_ (some 8) rfl rfl Try.func102 (by kernel_rfl) rfl #[.float .f64 a0] rfl (by (try simp only [List.map_toArray,List.map_cons,List.map_nil]);first | done | rfl | (simp only [List.length_drop,List.length_take];rfl)) ?_;(with_reducible refine (beaconref01_inf.calls a0 false _ A5.out).mono ?_);rintro e w' ⟨rfl,⟨nd,rfl⟩⟩;refine ⟨_,rfl,?_⟩) | ((with_reducible refine gate_callee (f:=103) rfl ?_);refine goesL_ (some 10) rfl rfl Try.func103 (by kernel_rfl) rfl #[.float .f64 a0] rfl (by (try simp only [List.map_toArray,List.map_cons,List.map_nil]);first | done | rfl | (simp only [List.length_drop,List.length_take];rfl)) ?_;(with_reducible refine (beaconref01_sign.calls a0 false _ A7.out).mono ?_);rintro e w' ⟨rfl,⟨nd,rfl⟩⟩;refine ⟨_,rfl,?_⟩) | ((with_reducible refine gate_callee (f:=104) rfl ?_);refine goesL_ (some 17) rfl rfl Try.func104 (by kernel_rfl) rfl #[.float .f64 a0] rfl (by (try simp only [List.map_toArray,List.map_cons,List.map_nil]);first | done | rfl | (simp only [List.length_drop,List.length_take];rfl)) ?_;(with_reducible refine (beaconref01_quarter.calls a0 true _ A11.out).mono ?_);rintro e w' ⟨rfl,⟨nd,rfl⟩⟩;refine ⟨_,rfl,?_⟩))
  go_ret
  exact ⟨by first | rfl | (simp;done) | (simp [*];done),by repeat (first | exact Drawn0.refl _ | apply Drawn0.step)⟩
 replace c12:=Bool.eq_false_iff.mpr c12
 subst c12
 have H1:(some 15) = some r:=by rw [if_neg (show ¬ (false = true) by decide)] at H;exact H
 clear H
 have H:=H1
 clear H1
 obtain rfl:=Option.some.inj H
 go_enter Try.func71,Try.ntmps71
 go_wp2_with (first | ((with_reducible refine gate_callee (f:=79) rfl ?_);refine goesL_ (some 6) rfl rfl Try.func79 (by kernel_rfl) rfl #[.float .f64 a0] rfl (by (try simp only [List.map_toArray,List.map_cons,List.map_nil]);first | done | rfl | (simp only [List.length_drop,List.length_take];rfl)) ?_;(with_reducible refine (beaconref01_nan.calls a0 false _ A3.out).mono ?_);rintro e w' ⟨rfl,⟨nd,rfl⟩⟩;refine ⟨_,rfl,?_⟩) | ((with_reducible refine gate_callee (f:=102) rfl ?_);refine goesL_ (some 8) rfl rfl Try.func102 (by kernel_rfl) rfl #[.float .f64 a0] rfl (by (try simp only [List.map_toArray,List.map_cons,List.map_nil]);first | done | rfl | (simp only [List.length_drop,List.length_take];rfl)) ?_;(with_reducible refine (beaconref01_inf.calls a0 false _ A5.out).mono ?_);rintro e w' ⟨rfl,⟨nd,rfl⟩⟩;refine ⟨_,rfl,?_⟩) | ((with_reducible refine gate_callee (f:=103) rfl ?_);refine goesL_ (some 10) rfl rfl Try.func103 (by kernel_rfl) rfl #[.float .f64 a0] rfl (by (try simp only [List.map_toArray,List.map_cons,List.map_nil]);first | done | rfl | (simp only [List.length_drop,List.length_take];rfl)) ?_;(with_reducible refine (beaconref01_sign.calls a0 false _ A7.out).mono ?_);rintro e w' ⟨rfl,⟨nd,rfl⟩⟩;refine ⟨_,rfl,?_⟩) | ((with_reducible refine gate_callee (f:=104) rfl ?_);refine goesL_ (some 17) rfl rfl Try.func104 (by kernel_rfl) rfl #[.float .f64 a0] rfl (by (try simp only [List.map_toArray,List.map_cons,List.map_nil]);first | done | rfl | (simp only [List.length_drop,List.length_take];rfl)) ?_;(with_reducible refine (beaconref01_quarter.calls a0 false _ A11.out).mono ?_);rintro e w' ⟨rfl,⟨nd,rfl⟩⟩;refine ⟨_,rfl,?_⟩))
 go_ret
 exact ⟨by first | rfl | (simp;done) | (simp [*];done),by repeat (first | exact Drawn0.refl _ | apply Drawn0.step)⟩
def beaconref01_Weight.f (a0:Nat):Option (Int):=(beaconref01_bounded.f a0 4697254411347427328).bind fun t135 => (some t135)
set_option maxHeartbeats 8000000 in
set_option maxRecDepth 100000 in
theorem beaconref01_Weight.calls (a0:Nat) (r:Int) (w:World) (h:beaconref01_Weight.f a0 = some r) :
  Calls Try.prog 53 #[.float .f64 a0] w fun e w' => e = .returned (.int .i64 r) ∧ Drawn0 w w':=by
 have H:((beaconref01_bounded.f a0 4697254411347427328).bind fun t135 => (some t135)) = some r:=h
 clear h
 replace H:=Option.bind_eq_some_iff.mp H
 obtain ⟨t135,A20,H⟩:=H
 replace H:(some t135) = some r:=H
 have A2:=Aside0.mk A20
 clear A20
 obtain rfl:=Option.some.inj H
 go_enter Try.func53,Try.ntmps53
 go_wp2_with (first | ((with_reducible refine gate_callee (f:=71) rfl ?_);refine goesL_ (some 4) rfl rfl Try.func71 (by kernel_rfl) rfl #[.float .f64 a0,.float .f64 4697254411347427328] rfl (by (try simp only [List.map_toArray,List.map_cons,List.map_nil]);first | done | rfl | (simp only [List.length_drop,List.length_take];rfl)) ?_;(with_reducible refine (beaconref01_bounded.calls a0 4697254411347427328 t135 _ A2.out).mono ?_);rintro e w' ⟨rfl,⟨nd,rfl⟩⟩;refine ⟨_,rfl,?_⟩))
 go_ret
 exact ⟨by first | rfl | (simp;done) | (simp [*];done),by repeat (first | exact Drawn0.refl _ | apply Drawn0.step)⟩
end Go.Proofs.Ytjcnmpkaiopihaa.PA
