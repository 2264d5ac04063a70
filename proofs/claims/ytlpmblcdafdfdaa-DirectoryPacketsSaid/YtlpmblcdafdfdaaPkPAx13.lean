/- Printed by a program of this session (wip/tools/patch_print.py and pr.py, over the kit's print): each Go function as a plain Lean function, and that the Go code comes to just its answers. Conditions: those that each theorem names. -/
import Derived.Test.YtlpmblcdafdfdaaPkPAx0
import Derived.Test.YtlpmblcdafdfdaaPkPAx6
import Derived.Test.YtlpmblcdafdfdaaPkPAx12
import Derived.Test.YtlpmblcdafdfdaaPkDr
namespace Go.Proofs.Ytlpmblcdafdfdaa.PA
open Go.RowKit Go.Proofs.YtlpmblcdafdfdaaW.PrintWords Go.Proofs.YtlpmblcdafdfdaaW.PrintLast Go.Proofs.YtlpmblcdafdfdaaW.PrintMore
attribute [local go_sem] max2_int min2_int max_two min_two max_three min_three max_four min_four
set_option linter.unusedVariables false
set_option linter.unusedSimpArgs false
def beaconref02_score.f (k:Nat) (a0:Int) (a1:ByteArray):Option (Int):=(beaconref02_Sum.f k a1).bind fun t182 => ((beaconref02_Mix.f (IntKind.u64.wrap (a0))).bind fun t183 => ((beaconref02_Mix.f (Go.bits .xor .u64 t182 t183)).bind fun t184 => (some t184)))
set_option maxHeartbeats 8000000 in
set_option maxRecDepth 100000 in
theorem beaconref02_score.calls (k:Nat) (a0:Int) (a1:ByteArray) (r:Int) (w:World) (h:beaconref02_score.f k a0 a1 = some r) :
  Calls Try.prog 52 #[.int .i64 a0,.string a1] w fun e w' => e = .returned (.int .u64 r) ∧ Drawn0 w w':=by
 have H:((beaconref02_Sum.f k a1).bind fun t182 => ((beaconref02_Mix.f (IntKind.u64.wrap (a0))).bind fun t183 => ((beaconref02_Mix.f (Go.bits .xor .u64 t182 t183)).bind fun t184 => (some t184)))) = some r:=h
 clear h
 replace H:=Option.bind_eq_some_iff.mp H
 obtain ⟨t182,A30,H⟩:=H
 replace H:((beaconref02_Mix.f (IntKind.u64.wrap (a0))).bind fun t183 => ((beaconref02_Mix.f (Go.bits .xor .u64 t182 t183)).bind fun t184 => (some t184))) = some r:=H
 have A3:=Aside0.mk A30
 clear A30
 replace H:=Option.bind_eq_some_iff.mp H
 obtain ⟨t183,A40,H⟩:=H
 replace H:((beaconref02_Mix.f (Go.bits .xor .u64 t182 t183)).bind fun t184 => (some t184)) = some r:=H
 have A4:=Aside0.mk A40
 clear A40
 replace H:=Option.bind_eq_some_iff.mp H
 obtain ⟨t184,A50,H⟩:=H
 replace H:(some t184) = some r:=H
 have A5:=Aside0.mk A50
 clear A50
 obtain rfl:=Option.some.inj H
 go_enter Try.func52,Try.ntmps52
 go_wp2_with (first | ((with_reducible refine gate_callee (f:=73) rfl ?_);refine goesL_ (some 6) rfl rfl Try.func73 (by kernel_rfl) rfl #[.string a1] rfl (by (try simp only [List.map_toArray,List.map_cons,List.map_nil]);first | done | rfl | (simp only [List.length_drop,List.length_take];rfl)) ?_;(with_reducible refine (beaconref02_Sum.calls k a1 t182 _ A3.out).mono ?_);rintro e w' ⟨rfl,⟨nd,rfl⟩⟩;refine ⟨_,rfl,?_⟩) | ((with_reducible refine gate_callee (f:=72) rfl ?_);refine goesL_ (some 9) rfl rfl Try.func72 (by kernel_rfl) rfl #[.int .u64 (IntKind.u64.wrap (a0))] rfl (by (try simp only [List.map_toArray,List.map_cons,List.map_nil]);first | done | rfl | (simp only [List.length_drop,List.length_take];rfl)) ?_;(with_reducible refine (beaconref02_Mix.calls (IntKind.u64.wrap (a0)) t183 _ A4.out).mono ?_);rintro e w' ⟨rfl,⟨nd,rfl⟩⟩;refine ⟨_,rfl,?_⟩) | ((with_reducible refine gate_callee (f:=72) rfl ?_);refine goesL_ (some 11) rfl rfl Try.func72 (by kernel_rfl) rfl #[.int .u64 (Go.bits .xor .u64 t182 t183)] rfl (by (try simp only [List.map_toArray,List.map_cons,List.map_nil]);first | done | rfl | (simp only [List.length_drop,List.length_take];rfl)) ?_;(with_reducible refine (beaconref02_Mix.calls (Go.bits .xor .u64 t182 t183) t184 _ A5.out).mono ?_);rintro e w' ⟨rfl,⟨nd,rfl⟩⟩;refine ⟨_,rfl,?_⟩))
 go_ret
 exact ⟨by first | rfl | (simp;done) | (simp [*];done),by repeat (first | exact Drawn0.refl _ | apply Drawn0.step)⟩
def beaconref02_more.f (k:Nat) (a0:Int) (a1:Int) (a2:ByteArray):Option (Bool):=(beaconref02_score.f k a0 a2).bind fun t185 => ((beaconref02_score.f k a1 a2).bind fun t186 => (if t185 > t186 then (some true) else (if t185 = t186 then (some (decide (a0 < a1))) else (some false))))
set_option maxHeartbeats 8000000 in
set_option maxRecDepth 100000 in
theorem beaconref02_more.calls (k:Nat) (a0:Int) (a1:Int) (a2:ByteArray) (r:Bool) (w:World) (h:beaconref02_more.f k a0 a1 a2 = some r) :
  Calls Try.prog 33 #[.int .i64 a0,.int .i64 a1,.string a2] w fun e w' => e = .returned (.bool r) ∧ Drawn0 w w':=by
 have H:((beaconref02_score.f k a0 a2).bind fun t185 => ((beaconref02_score.f k a1 a2).bind fun t186 => (if t185 > t186 then (some true) else (if t185 = t186 then (some (decide (a0 < a1))) else (some false))))) = some r:=h
 clear h
 replace H:=Option.bind_eq_some_iff.mp H
 obtain ⟨t185,A40,H⟩:=H
 replace H:((beaconref02_score.f k a1 a2).bind fun t186 => (if t185 > t186 then (some true) else (if t185 = t186 then (some (decide (a0 < a1))) else (some false)))) = some r:=H
 have A4:=Aside0.mk A40
 clear A40
 replace H:=Option.bind_eq_some_iff.mp H
 obtain ⟨t186,A50,H⟩:=H
 replace H:(if t185 > t186 then (some true) else (if t185 = t186 then (some (decide (a0 < a1))) else (some false))) = some r:=H
 have A5:=Aside0.mk A50
 clear A50
 by_cases c6:t185 > t186
 ·rw [if_pos c6] at H
  have c6b0:decide (t186 < t185) = true:=decide_eq_true c6
  clear c6
  obtain rfl:=Option.some.inj H
  go_enter Try.func33,Try.ntmps33
  go_wp2_with (first | ((with_reducible refine gate_callee (f:=52) rfl ?_);refine goesL_ (some 11) rfl rfl Try.func52 (by kernel_rfl) rfl #[.int .i64 a0,.string a2] rfl (by (try simp only [List.map_toArray,List.map_cons,List.map_nil]);first | done | rfl | (simp only [List.length_drop,List.length_take];rfl)) ?_;(with_reducible refine (beaconref02_score.calls k a0 a2 t185 _ A4.out).mono ?_);rintro e w' ⟨rfl,⟨nd,rfl⟩⟩;refine ⟨_,rfl,?_⟩) | ((with_reducible refine gate_callee (f:=52) rfl ?_);refine goesL_ (some 14) rfl rfl Try.func52 (by kernel_rfl) rfl #[.int .i64 a1,.string a2] rfl (by (try simp only [List.map_toArray,List.map_cons,List.map_nil]);first | done | rfl | (simp only [List.length_drop,List.length_take];rfl)) ?_;(with_reducible refine (beaconref02_score.calls k a1 a2 t186 _ A5.out).mono ?_);rintro e w' ⟨rfl,⟨nd,rfl⟩⟩;refine ⟨_,rfl,?_⟩))
  go_ret
  exact ⟨by first | rfl | (simp;done) | (simp [*];done),by repeat (first | exact Drawn0.refl _ | apply Drawn0.step)⟩
 ·rw [if_neg c6] at H
  have c6b0:decide (t186 < t185) = false:=decide_eq_false c6
  clear c6
  by_cases c7:t185 = t186
  ·rw [if_pos c7] at H
   have c7b0:(t185 == t186) = true:=beq_iff_eq.mpr c7
   have c7b1:(t185 != t186) = false:=bne_eq_false_iff_eq.mpr c7
   clear c7
   obtain rfl:=Option.some.inj H
   go_enter Try.func33,Try.ntmps33
   go_wp2_with (first | ((with_reducible refine gate_callee (f:=52) rfl ?_);refine goesL_ (some 11) rfl rfl Try.func52 (by kernel_rfl) rfl #[.int .i64 a0,.string a2] rfl (by (try simp only [List.map_toArray,List.map_cons,List.map_nil]);first | done | rfl | (simp only [List.length_drop,List.length_take];rfl)) ?_;(with_reducible refine (beaconref02_score.calls k a0 a2 t185 _ A4.out).mono ?_);rintro e w' ⟨rfl,⟨nd,rfl⟩⟩;refine ⟨_,rfl,?_⟩) | ((with_reducible refine gate_callee (f:=52) rfl ?_);refine goesL_ (some 14) rfl rfl Try.func52 (by kernel_rfl) rfl #[.int .i64 a1,.string a2] rfl (by (try simp only [List.map_toArray,List.map_cons,List.map_nil]);first | done | rfl | (simp only [List.length_drop,List.length_take];rfl)) ?_;(with_reducible refine (beaconref02_score.calls k a1 a2 t186 _ A5.out).mono ?_);rintro e w' ⟨rfl,⟨nd,rfl⟩⟩;refine ⟨_,rfl,?_⟩))
   go_ret
   exact ⟨by first | rfl | (simp;done) | (simp [*];done),by repeat (first | exact Drawn0.refl _ | apply Drawn0.step)⟩
  ·rw [if_neg c7] at H
   have c7b0:(t185 == t186) = false:=beq_eq_false_iff_ne.mpr c7
   have c7b1:(t185 != t186) = true:=bne_iff_ne.mpr c7
   obtain rfl:=Option.some.inj H
   go_enter Try.func33,Try.ntmps33
   go_wp2_with (first | ((with_reducible refine gate_callee (f:=52) rfl ?_);refine goesL_ (some 11) rfl rfl Try.func52 (by kernel_rfl) rfl #[.int .i64 a0,.string a2] rfl (by (try simp only [List.map_toArray,List.map_cons,List.map_nil]);first | done | rfl | (simp only [List.length_drop,List.length_take];rfl)) ?_;(with_reducible refine (beaconref02_score.calls k a0 a2 t185 _ A4.out).mono ?_);rintro e w' ⟨rfl,⟨nd,rfl⟩⟩;refine ⟨_,rfl,?_⟩) | ((with_reducible refine gate_callee (f:=52) rfl ?_);refine goesL_ (some 14) rfl rfl Try.func52 (by kernel_rfl) rfl #[.int .i64 a1,.string a2] rfl (by (try simp only [List.map_toArray,List.map_cons,List.map_nil]);first | done | rfl | (simp only [List.length_drop,List.length_take];rfl)) ?_;(with_reducible refine (beaconref02_score.calls k a1 a2 t186 _ A5.out).mono ?_);rintro e w' ⟨rfl,⟨nd,rfl⟩⟩;refine ⟨_,rfl,?_⟩))
   go_ret
   exact ⟨by first | rfl | (simp;done) | (simp [*];done),by repeat (first | exact Drawn0.refl _ | apply Drawn0.step)⟩
mutual
def beaconref02_Draw.j0:Nat → List Int → ByteArray → Int → Option (Int × Int)
 | 0,_,_,_ => none
 | k + 1,x0,x1,x6 => if x6 = 0 then (if (x0.length:Int) = 0 then (some (0,4)) else (if 0 < (x0.length:Int) then (beaconref02_Draw.l0 k x0 x1 (rd x0 0) 0) else (none))) else (some (0,x6))
def beaconref02_Draw.l0:Nat → List Int → ByteArray → Int → Int → Option (Int × Int)
 | 0,_,_,_,_ => none
 | k + 1,x0,x1,x7,x8 => if x8 < (x0.length:Int) then (if 0 ≤ x8 then ((beaconref02_more.f k (rd x0 x8) x7 x1).bind fun t191 => (if t191 = true then (beaconref02_Draw.l0 k x0 x1 (rd x0 x8) (wrap64 (x8 + 1))) else (beaconref02_Draw.l0 k x0 x1 x7 (wrap64 (x8 + 1))))) else (none)) else (some (x7,0))
end
def beaconref02_Draw.f (k:Nat) (l0:List Int) (a1:ByteArray):Option (Int × Int):=(beaconref02_CheckName.f k a1).bind fun t187 => (if t187 = 0 then ((beaconref02_list.f k l0).bind fun t188 => (beaconref02_Draw.j0 k l0 a1 t188)) else (beaconref02_Draw.j0 k l0 a1 t187))
set_option maxHeartbeats 8000000 in
set_option maxRecDepth 100000 in
theorem beaconref02_Draw.calls (k:Nat) (A0:Option Addr) (c0:Nat) (l0:List Int) (a1:ByteArray) (r1:Int) (r2:Int) (w:World) (hr0:Kd.C (Kd.int .i64) w A0 l0.length l0) (hc0:l0.length ≤ c0) (h:beaconref02_Draw.f k l0 a1 = some (r1,r2)) :
  Calls Try.prog 9 #[.slice A0 l0.length c0,.string a1] w fun e w' => e = .returned (.tuple #[.int .i64 r1,.int .i64 r2]) ∧ Drawn0 w w':=by
 have HR0:=Aside0.mk hr0
 have HC0:=Aside0.mk hc0
 clear hr0 hc0
 have H:((beaconref02_CheckName.f k a1).bind fun t187 => (if t187 = 0 then ((beaconref02_list.f k l0).bind fun t188 => (beaconref02_Draw.j0 k l0 a1 t188)) else (beaconref02_Draw.j0 k l0 a1 t187))) = some (r1,r2):=h
 clear h
 replace H:=Option.bind_eq_some_iff.mp H
 obtain ⟨t187,A30,H⟩:=H
 replace H:(if t187 = 0 then ((beaconref02_list.f k l0).bind fun t188 => (beaconref02_Draw.j0 k l0 a1 t188)) else (beaconref02_Draw.j0 k l0 a1 t187)) = some (r1,r2):=H
 have A3:=Aside0.mk A30
 clear A30
 have HC4:=Aside0.mk H
 clear H
 go_enter Try.func9,Try.ntmps9
 go_upto_if 12 with (first | ((with_reducible refine gate_callee (f:=31) rfl ?_);refine goesL_ (some 10) rfl rfl Try.func31 (by kernel_rfl) rfl #[.string a1] rfl (by (try simp only [List.map_toArray,List.map_cons,List.map_nil]);first | done | rfl | (simp only [List.length_drop,List.length_take];rfl)) ?_;(with_reducible refine (beaconref02_CheckName.calls k a1 t187 _ A3.out).mono ?_);rintro e w' ⟨rfl,⟨nd,rfl⟩⟩;refine ⟨_,rfl,?_⟩))
 (try simp only [Act.put,List.setIfInBounds_toArray,List.set_cons_zero,List.set_cons_succ])
 go_cut [6] (fun v6 wc => ∃ (kq:Nat) (x6_3:Int),v6 = .int .i64 x6_3 ∧ Aside0 (beaconref02_Draw.j0 kq l0 a1 x6_3 = some (r1,r2)) ∧ Aside0 (kq ≤ k) ∧ Drawn0 w wc)
 case first =>
  have H:=HC4.out
  clear HC4
  by_cases c5:t187 = 0
  ·rw [if_pos c5] at H
   have c5b0:(t187 == 0) = true:=beq_iff_eq.mpr c5
   have c5b1:(t187 != 0) = false:=bne_eq_false_iff_eq.mpr c5
   clear c5
   (first | rw [c5b0] | (simp only [i64_w,i32_w];rw [c5b0]) | skip)
   replace H:=Option.bind_eq_some_iff.mp H
   obtain ⟨t188,A60,H⟩:=H
   replace H:(beaconref02_Draw.j0 k l0 a1 t188) = some (r1,r2):=H
   have A6:=Aside0.mk A60
   clear A60
   have H':=Aside0.mk H
   clear H
   go_wp2_with (first | ((with_reducible refine gate_callee (f:=32) rfl ?_);refine goesL_ (some 14) rfl rfl Try.func32 (by kernel_rfl) rfl #[.slice A0 l0.length c0] rfl (by (try simp only [List.map_toArray,List.map_cons,List.map_nil]);first | done | rfl | (simp only [List.length_drop,List.length_take];rfl)) ?_;(with_reducible refine (beaconref02_list.calls k _ _ l0 t188 _ ?side1 ?side2 A6.out).mono ?_);(case side1 => repeat (first | exact HR0.out | (with_reducible refine Kd.C_alloc ?_ _) | (with_reducible refine Kd.C_drewN ?_ _) | (with_reducible refine Kd.C_drew ?_)));(case side2 => exact HC0.out);rintro e w' ⟨rfl,⟨nd,rfl⟩⟩;refine ⟨_,rfl,?_⟩))
   go_meet
   case rel => exact ⟨_,(t188),(by first | rfl | (simp;done) | (simp [*];done)),H',⟨by first | omega | exact Nat.le_refl _⟩,by repeat (first | exact Drawn0.refl _ | apply Drawn0.step)⟩
  ·rw [if_neg c5] at H
   have c5b0:(t187 == 0) = false:=beq_eq_false_iff_ne.mpr c5
   have c5b1:(t187 != 0) = true:=bne_iff_ne.mpr c5
   (first | rw [c5b0] | (simp only [i64_w,i32_w];rw [c5b0]) | skip)
   have H':=Aside0.mk H
   clear H
   go_wp2
   go_meet
   case rel => exact ⟨_,(t187),(by first | rfl | (simp;done) | (simp [*];done)),H',⟨by first | omega | exact Nat.le_refl _⟩,by repeat (first | exact Drawn0.refl _ | apply Drawn0.step)⟩
 case rest =>
  clear HC4
  try clear p2
  try clear c3
  try clear c5
  try clear c5b0
  try clear c5b1
  obtain ⟨kq,x6_3,rfl,HA,HJ3,⟨mc3,rfl⟩⟩:=hcut
  cases kq with
  | zero => exact absurd HA.out (by simp [beaconref02_Draw.j0])
  | succ kj3 =>
   have H:=HA.out
   clear HA
   simp only [beaconref02_Draw.j0] at H
   by_cases c7:x6_3 = 0
   ·rw [if_pos c7] at H
    have c7b0:(x6_3 == 0) = true:=beq_iff_eq.mpr c7
    have c7b1:(x6_3 != 0) = false:=bne_eq_false_iff_eq.mpr c7
    clear c7
    by_cases c8:(l0.length:Int) = 0
    ·rw [if_pos c8] at H
     have c8b0:((l0.length:Int) == 0) = true:=beq_iff_eq.mpr c8
     have c8b1:((l0.length:Int) != 0) = false:=bne_eq_false_iff_eq.mpr c8
     clear c8
     simp only [Option.some.injEq,Prod.mk.injEq] at H
     obtain ⟨rfl,rfl⟩:=H
     go_wp2
     go_ret2
     exact ⟨by first | rfl | (simp;done) | (simp [*];done),by repeat (first | exact Drawn0.refl _ | apply Drawn0.step)⟩
    ·rw [if_neg c8] at H
     have c8b0:((l0.length:Int) == 0) = false:=beq_eq_false_iff_ne.mpr c8
     have c8b1:((l0.length:Int) != 0) = true:=bne_iff_ne.mpr c8
     have c8b2:¬ (l0 = []):=fun h_ => c8 (by rw [h_];rfl)
     by_cases c9:0 < (l0.length:Int)
     ·rw [if_pos c9] at H
      have c9b0:decide (0 < (l0.length:Int)) = true:=decide_eq_true c9
      have c9b1:decide (0 < l0.length) = true:=decide_eq_true (by omega)
      clear c9
      have H':=Aside0.mk H
      clear H
      have p189:0 ≤ (0:Int):=(by omega)
      have q189:0 < (l0.length:Int):=of_decide_eq_true (by first | (with_reducible assumption) | assumption)
      obtain ⟨ad189,e189,hx189_0⟩:=Kd.at_int HR0.out 0 p189 q189
      cases e189
      have qi189:(0 < l0.length) = True:=eq_true (by omega)
      (try rw [show ((0:Int)).toNat = 0 from rfl] at hx189_0)
      (try rw [Addr.add_zero'] at hx189_0)
      replace p189:=eq_true p189
      replace q189:=eq_true q189
      go_wp2
      go_loopg [7,8] kj3 (fun kq v7 v8 w' => ∃ (x7_2:Int) (x8_2:Int),v7 = .int .i64 x7_2 ∧ v8 = .int .i64 x8_2 ∧ Aside0 (beaconref02_Draw.l0 kq l0 a1 x7_2 x8_2 = some (r1,r2)) ∧ Aside0 (kq ≤ kj3) ∧ Drawn0 w w')
      case atStart => exact ⟨(rd l0 0),(0),(by first | rfl | (simp;done) | (simp [*];done)),(by first | rfl | (simp;done) | (simp [*];done)),H',⟨Nat.le_refl _⟩,by repeat (first | exact Drawn0.refl _ | apply Drawn0.step)⟩
      case round =>
       clear H'
       try clear p1
       try clear q1
       try clear hx1
       try clear qi1
       try clear p2
       try clear c3
       try clear c5
       try clear c5b0
       try clear c5b1
       try clear c7
       try clear c7b0
       try clear c7b1
       try clear c8
       try clear c8b0
       try clear c8b1
       try clear c8b2
       try clear c9
       try clear c9b0
       try clear c9b1
       try clear hx189_0
       try clear p189
       try clear p2
       try clear q189
       obtain ⟨x7_2,x8_2,rfl,rfl,HA,HK2,⟨m2,rfl⟩⟩:=hrel
       cases gk with
       | zero => exact absurd HA.out (by simp [beaconref02_Draw.l0])
       | succ k2 =>
        have H:=HA.out
        clear HA
        simp only [beaconref02_Draw.l0] at H
        by_cases c10:x8_2 < (l0.length:Int)
        ·rw [if_pos c10] at H
         have c10b0:decide (x8_2 < (l0.length:Int)) = true:=decide_eq_true c10
         clear c10
         by_cases c11:0 ≤ x8_2
         ·rw [if_pos c11] at H
          have c11b0:decide (0 ≤ x8_2) = true:=decide_eq_true c11
          clear c11
          replace H:=Option.bind_eq_some_iff.mp H
          obtain ⟨t191,A120,H⟩:=H
          replace H:(if t191 = true then (beaconref02_Draw.l0 k2 l0 a1 (rd l0 x8_2) (wrap64 (x8_2 + 1))) else (beaconref02_Draw.l0 k2 l0 a1 x7_2 (wrap64 (x8_2 + 1)))) = some (r1,r2):=H
          have A12:=Aside0.mk A120
          clear A120
          by_cases c13:t191 = true
          ·subst c13
           have H1:(beaconref02_Draw.l0 k2 l0 a1 (rd l0 x8_2) (wrap64 (x8_2 + 1))) = some (r1,r2):=by rw [if_pos rfl] at H;exact H
           clear H
           have H:=H1
           clear H1
           have H':=Aside0.mk H
           clear H
           have p190:0 ≤ (x8_2:Int):=of_decide_eq_true (by first | (with_reducible assumption) | assumption)
           have q190:x8_2 < (l0.length:Int):=of_decide_eq_true (by first | (with_reducible assumption) | assumption)
           obtain ⟨ad190,e190,hx190_0⟩:=Kd.at_int HR0.out x8_2 p190 q190
           obtain rfl:ad189 = ad190:=(by injection e190)
           replace p190:=eq_true p190
           replace q190:=eq_true q190
           go_wp2_with (first | ((with_reducible refine gate_callee (f:=33) rfl ?_);refine goesL_ (some 36) rfl rfl Try.func33 (by kernel_rfl) rfl #[.int .i64 (rd l0 x8_2),.int .i64 x7_2,.string a1] rfl (by (try simp only [List.map_toArray,List.map_cons,List.map_nil]);first | done | rfl | (simp only [List.length_drop,List.length_take];rfl)) ?_;(with_reducible refine (beaconref02_more.calls k2 (rd l0 x8_2) x7_2 a1 true _ A12.out).mono ?_);rintro e w' ⟨rfl,⟨nd,rfl⟩⟩;refine ⟨_,rfl,?_⟩;have p192:0 ≤ (x8_2:Int):=of_decide_eq_true (by first | (with_reducible assumption) | assumption);have q192:x8_2 < (l0.length:Int):=of_decide_eq_true (by first | (with_reducible assumption) | assumption);obtain ⟨ad192,e192,hx192_0⟩:=Kd.at_int HR0.out x8_2 p192 q192;obtain rfl:ad189 = ad192:=(by injection e192);replace p192:=eq_true p192;replace q192:=eq_true q192))
           go_roundg k2
           case measure => have:=HJ3.out;have:=HK2.out;omega
           case rel => exact ⟨(rd l0 x8_2),(wrap64 (x8_2 + 1)),(by first | rfl | (simp;done) | (simp [*];done)),(by first | rfl | (simp;done) | (simp [*];done)),H',⟨by have:=HJ3.out;have:=HK2.out;omega⟩,by repeat (first | exact Drawn0.refl _ | apply Drawn0.step)⟩
          ·replace c13:=Bool.eq_false_iff.mpr c13
           subst c13
           have H1:(beaconref02_Draw.l0 k2 l0 a1 x7_2 (wrap64 (x8_2 + 1))) = some (r1,r2):=by rw [if_neg (show ¬ (false = true) by decide)] at H;exact H
           clear H
           have H:=H1
           clear H1
           have H':=Aside0.mk H
           clear H
           have p190:0 ≤ (x8_2:Int):=of_decide_eq_true (by first | (with_reducible assumption) | assumption)
           have q190:x8_2 < (l0.length:Int):=of_decide_eq_true (by first | (with_reducible assumption) | assumption)
           obtain ⟨ad190,e190,hx190_0⟩:=Kd.at_int HR0.out x8_2 p190 q190
           obtain rfl:ad189 = ad190:=(by injection e190)
           replace p190:=eq_true p190
           replace q190:=eq_true q190
           go_wp2_with (first | ((with_reducible refine gate_callee (f:=33) rfl ?_);refine goesL_ (some 36) rfl rfl Try.func33 (by kernel_rfl) rfl #[.int .i64 (rd l0 x8_2),.int .i64 x7_2,.string a1] rfl (by (try simp only [List.map_toArray,List.map_cons,List.map_nil]);first | done | rfl | (simp only [List.length_drop,List.length_take];rfl)) ?_;(with_reducible refine (beaconref02_more.calls k2 (rd l0 x8_2) x7_2 a1 false _ A12.out).mono ?_);rintro e w' ⟨rfl,⟨nd,rfl⟩⟩;refine ⟨_,rfl,?_⟩))
           go_roundg k2
           case measure => have:=HJ3.out;have:=HK2.out;omega
           case rel => exact ⟨(x7_2),(wrap64 (x8_2 + 1)),(by first | rfl | (simp;done) | (simp [*];done)),(by first | rfl | (simp;done) | (simp [*];done)),H',⟨by have:=HJ3.out;have:=HK2.out;omega⟩,by repeat (first | exact Drawn0.refl _ | apply Drawn0.step)⟩
         ·rw [if_neg c11] at H
          exact absurd H (by simp)
        ·rw [if_neg c10] at H
         have c10b0:decide (x8_2 < (l0.length:Int)) = false:=decide_eq_false c10
         clear c10
         simp only [Option.some.injEq,Prod.mk.injEq] at H
         obtain ⟨rfl,rfl⟩:=H
         go_wp2
         go_ret2
         exact ⟨by first | rfl | (simp;done) | (simp [*];done),by repeat (first | exact Drawn0.refl _ | apply Drawn0.step)⟩
     ·rw [if_neg c9] at H
      exact absurd H (by simp)
   ·rw [if_neg c7] at H
    have c7b0:(x6_3 == 0) = false:=beq_eq_false_iff_ne.mpr c7
    have c7b1:(x6_3 != 0) = true:=bne_iff_ne.mpr c7
    simp only [Option.some.injEq,Prod.mk.injEq] at H
    obtain ⟨rfl,rfl⟩:=H
    go_wp2
    go_ret2
    exact ⟨by first | rfl | (simp;done) | (simp [*];done),by repeat (first | exact Drawn0.refl _ | apply Drawn0.step)⟩
def directory_Keeper.f (l0:List Int) (a1:ByteArray):Option (Int × Int):=(ident_Draw.f l0 a1).bind fun bt194 => (some (bt194.1,bt194.2))
set_option maxHeartbeats 8000000 in
set_option maxRecDepth 100000 in
theorem directory_Keeper.calls (A0:Option Addr) (c0:Nat) (l0:List Int) (a1:ByteArray) (r1:Int) (r2:Int) (w:World) (hr0:Kd.C (Kd.int .i64) w A0 l0.length l0) (hc0:l0.length ≤ c0) (h:directory_Keeper.f l0 a1 = some (r1,r2)) :
  Calls Try.prog 8 #[.slice A0 l0.length c0,.string a1] w fun e w' => e = .returned (.tuple #[.int .i64 r1,.int .i64 r2]) ∧ Below w.heap.size w w':=by
 have HR0:=Aside0.mk hr0
 have HC0:=Aside0.mk hc0
 clear hr0 hc0
 have HB:=Aside0.mk (Below.refl w.heap.size w)
 have H:((ident_Draw.f l0 a1).bind fun bt194 => (some (bt194.1,bt194.2))) = some (r1,r2):=h
 clear h
 replace H:=Option.bind_eq_some_iff.mp H
 obtain ⟨⟨t194,t195⟩,A30,H⟩:=H
 replace H:(some (t194,t195)) = some (r1,r2):=H
 have A3:=Aside0.mk A30
 clear A30
 simp only [Option.some.injEq,Prod.mk.injEq] at H
 obtain ⟨rfl,rfl⟩:=H
 go_enter Try.func8,Try.ntmps8
 go_wp2_with (first | ((with_reducible refine gate_callee (f:=30) rfl ?_);refine goesL_ (some 8) rfl rfl Try.func30 (by kernel_rfl) rfl #[.slice A0 l0.length c0,.string a1] rfl (by (try simp only [List.map_toArray,List.map_cons,List.map_nil]);first | done | rfl | (simp only [List.length_drop,List.length_take];rfl)) ?_;(with_reducible refine (ident_Draw.calls _ _ l0 a1 t194 t195 _ ?side1 ?side2 A3.out).mono ?_);(case side1 => repeat (first | exact HR0.out | (with_reducible refine Kd.C_alloc ?_ _) | (with_reducible refine Kd.C_drewN ?_ _) | (with_reducible refine Kd.C_drew ?_)));(case side2 => exact HC0.out);rintro e w4 ⟨rfl,hb⟩;refine ⟨_,rfl,?_⟩;have n0_:=Aside0.mk (below_step (by repeat (first | (with_reducible first | exact HB.out | apply below_alloc | apply pw_below_drewN | apply below_drew1) | exact HB.out)) hb);clear HB;have HB:=n0_;clear n0_;(try clear hb);(try clear hb2);(try clear hk);(try clear hi)))
 go_ret2
 exact ⟨by first | rfl | (simp [errW_none,errW_some] <;> rfl) | (simp [*,errW_none,errW_some] <;> rfl),by repeat (first | (with_reducible first | exact HB.out | apply below_alloc | apply pw_below_drewN | apply below_drew1) | exact HB.out)⟩
end Go.Proofs.Ytlpmblcdafdfdaa.PA
