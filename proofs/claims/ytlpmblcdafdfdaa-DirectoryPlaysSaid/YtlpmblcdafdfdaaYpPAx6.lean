/- Printed by a program of this session (wip/tools/patch_print.py and pr.py, over the kit's print): each Go function as a plain Lean function, and that the Go code comes to just its answers. Conditions: those that each theorem names. -/
import Derived.Test.YtlpmblcdafdfdaaYpPAx0
import Derived.Test.YtlpmblcdafdfdaaYpPAx5
namespace Go.Proofs.Ytlpmblcdafdfdaa.PA
open Go.RowKit Go.Proofs.YtlpmblcdafdfdaaW.PrintWords Go.Proofs.YtlpmblcdafdfdaaW.PrintLast Go.Proofs.YtlpmblcdafdfdaaW.PrintMore
attribute [local go_sem] max2_int min2_int max_two min_two max_three min_three max_four min_four
set_option linter.unusedVariables false
set_option linter.unusedSimpArgs false
mutual
def beaconref02_CheckName.j0:Nat → ByteArray → Int → Bool → Option (Int)
 | 0,_,_,_ => none
 | k + 1,x0,x3,x25 => if x25 = true then (some 21) else (beaconref02_CheckName.l0 k x0 x3 0)
def beaconref02_CheckName.l0:Nat → ByteArray → Int → Int → Option (Int)
 | 0,_,_,_ => none
 | k + 1,x0,x3,x4 => if x4 < x3 then (if 0 ≤ x4 then (if x4 < (x0.size:Int) then ((beaconref02_letter.f (bt x0 x4)).bind fun t124 => (if t124 = true then (beaconref02_CheckName.j2 k x0 x3 x4 false) else ((beaconref02_digit.f (bt x0 x4)).bind fun t125 => (if t125 = true then (beaconref02_CheckName.j2 k x0 x3 x4 false) else (beaconref02_CheckName.j2 k x0 x3 x4 ((bt x0 x4) != 45)))))) else (none)) else (none)) else (some 0)
def beaconref02_CheckName.j2:Nat → ByteArray → Int → Int → Bool → Option (Int)
 | 0,_,_,_,_ => none
 | k + 1,x0,x3,x4,x48 => if x48 = true then (some 21) else (beaconref02_CheckName.l0 k x0 x3 (wrap64 (x4 + 1)))
end
def beaconref02_CheckName.f (k:Nat) (a0:ByteArray):Option (Int):=if (a0.size:Int) < 1 then (beaconref02_CheckName.j0 k a0 (a0.size:Int) true) else (if (a0.size:Int) > 32 then (beaconref02_CheckName.j0 k a0 (a0.size:Int) true) else (if 0 < (a0.size:Int) then ((beaconref02_letter.f (bt a0 0)).bind fun t123 => (if t123 = true then (if 0 ≤ (wrap64 ((a0.size:Int) - 1)) then (if (wrap64 ((a0.size:Int) - 1)) < (a0.size:Int) then (beaconref02_CheckName.j0 k a0 (a0.size:Int) ((bt a0 (wrap64 ((a0.size:Int) - 1))) == 45)) else (none)) else (none)) else (beaconref02_CheckName.j0 k a0 (a0.size:Int) true))) else (none)))
set_option maxHeartbeats 8000000 in
set_option maxRecDepth 100000 in
theorem beaconref02_CheckName.calls (k:Nat) (a0:ByteArray) (r:Int) (w:World) (h:beaconref02_CheckName.f k a0 = some r) :
  Calls Try.prog 31 #[.string a0] w fun e w' => e = .returned (.int .i64 r) ∧ Drawn0 w w':=by
 have H:(if (a0.size:Int) < 1 then (beaconref02_CheckName.j0 k a0 (a0.size:Int) true) else (if (a0.size:Int) > 32 then (beaconref02_CheckName.j0 k a0 (a0.size:Int) true) else (if 0 < (a0.size:Int) then ((beaconref02_letter.f (bt a0 0)).bind fun t123 => (if t123 = true then (if 0 ≤ (wrap64 ((a0.size:Int) - 1)) then (if (wrap64 ((a0.size:Int) - 1)) < (a0.size:Int) then (beaconref02_CheckName.j0 k a0 (a0.size:Int) ((bt a0 (wrap64 ((a0.size:Int) - 1))) == 45)) else (none)) else (none)) else (beaconref02_CheckName.j0 k a0 (a0.size:Int) true))) else (none)))) = some r:=h
 clear h
 have HC2:=Aside0.mk H
 clear H
 go_enter Try.func31,Try.ntmps31
 go_upto_region 2 with (fail)
 go_cut [25] (fun v25 wc => ∃ (kq:Nat) (x25_1:Bool),v25 = .bool x25_1 ∧ Aside0 (beaconref02_CheckName.j0 kq a0 (a0.size:Int) x25_1 = some r) ∧ Aside0 (kq ≤ k) ∧ Drawn0 w wc)
 case first =>
  have H:=HC2.out
  clear HC2
  by_cases c3:(a0.size:Int) < 1
  ·rw [if_pos c3] at H
   have c3b0:decide ((a0.size:Int) < 1) = true:=decide_eq_true c3
   have c3b1:decide (a0.size < 1) = true:=decide_eq_true (by omega)
   clear c3
   (first | rw [c3b0] | (simp only [i64_w,i32_w];rw [c3b0]) | skip)
   have H':=Aside0.mk H
   clear H
   go_wp2
   go_meet
   case rel => exact ⟨_,(true),(by first | rfl | (simp;done) | (simp [*];done)),H',⟨by first | omega | exact Nat.le_refl _⟩,by repeat (first | exact Drawn0.refl _ | apply Drawn0.step)⟩
  ·rw [if_neg c3] at H
   have c3b0:decide ((a0.size:Int) < 1) = false:=decide_eq_false c3
   have c3b1:decide (a0.size < 1) = false:=decide_eq_false (by omega)
   clear c3
   (first | rw [c3b0] | (simp only [i64_w,i32_w];rw [c3b0]) | skip)
   by_cases c4:(a0.size:Int) > 32
   ·rw [if_pos c4] at H
    have c4b0:decide (32 < (a0.size:Int)) = true:=decide_eq_true c4
    have c4b1:decide (32 < a0.size) = true:=decide_eq_true (by omega)
    clear c4
    have H':=Aside0.mk H
    clear H
    go_wp2
    go_meet
    case rel => exact ⟨_,(true),(by first | rfl | (simp;done) | (simp [*];done)),H',⟨by first | omega | exact Nat.le_refl _⟩,by repeat (first | exact Drawn0.refl _ | apply Drawn0.step)⟩
   ·rw [if_neg c4] at H
    have c4b0:decide (32 < (a0.size:Int)) = false:=decide_eq_false c4
    have c4b1:decide (32 < a0.size) = false:=decide_eq_false (by omega)
    clear c4
    by_cases c5:0 < (a0.size:Int)
    ·rw [if_pos c5] at H
     have c5b0:decide (0 < (a0.size:Int)) = true:=decide_eq_true c5
     have c5b1:decide (0 < a0.size) = true:=decide_eq_true (by omega)
     clear c5
     replace H:=Option.bind_eq_some_iff.mp H
     obtain ⟨t123,A70,H⟩:=H
     replace H:(if t123 = true then (if 0 ≤ (wrap64 ((a0.size:Int) - 1)) then (if (wrap64 ((a0.size:Int) - 1)) < (a0.size:Int) then (beaconref02_CheckName.j0 k a0 (a0.size:Int) ((bt a0 (wrap64 ((a0.size:Int) - 1))) == 45)) else (none)) else (none)) else (beaconref02_CheckName.j0 k a0 (a0.size:Int) true)) = some r:=H
     have A7:=Aside0.mk A70
     clear A70
     by_cases c8:t123 = true
     ·subst c8
      have H1:(if 0 ≤ (wrap64 ((a0.size:Int) - 1)) then (if (wrap64 ((a0.size:Int) - 1)) < (a0.size:Int) then (beaconref02_CheckName.j0 k a0 (a0.size:Int) ((bt a0 (wrap64 ((a0.size:Int) - 1))) == 45)) else (none)) else (none)) = some r:=by rw [if_pos rfl] at H;exact H
      clear H
      have H:=H1
      clear H1
      obtain ⟨ji9,hji9⟩:∃ j_:Int,(wrap64 ((a0.size:Int) - 1)) = j_:=⟨_,rfl⟩
      replace H:(if 0 ≤ (ji9) then (if (ji9) < (a0.size:Int) then (beaconref02_CheckName.j0 k a0 (a0.size:Int) ((bt a0 (ji9)) == 45)) else (none)) else (none)) = some r:=by first | (rw [hji9] at H;exact H) | (simp only [hji9] at H ⊢;exact H)
      (try rw [hji9] at A7)
      have hji9w:(IntKind.i64.wrap ((a0.size:Int) - 1)) = ji9:=(i64_w _).trans hji9
      by_cases c10:0 ≤ (ji9)
      ·rw [if_pos c10] at H
       have c10b0:decide (0 ≤ (ji9)) = true:=decide_eq_true c10
       clear c10
       by_cases c11:(ji9) < (a0.size:Int)
       ·rw [if_pos c11] at H
        have c11b0:decide ((ji9) < (a0.size:Int)) = true:=decide_eq_true c11
        clear c11
        have H':=Aside0.mk H
        clear H
        have p6:0 ≤ (0:Int):=(by omega)
        have q6:0 < a0.size:=(by have:(0:Int) < (a0.size:Int):=of_decide_eq_true (by first | (with_reducible assumption) | assumption);omega)
        have hx6:∀ h:0 < a0.size,((a0[0]'h).toNat:Int) = bt a0 0:=bt_at a0 0
        clear p6
        have qi6:(0 < (a0.size:Int)) = True:=eq_true (of_decide_eq_true (by first | (with_reducible assumption) | assumption))
        replace q6:=eq_true q6
        go_wp2_with (first | (go_at_call 49;(with_reducible refine (beaconref02_letter.calls (bt a0 0) true _ A7.out).mono ?_);rintro e w' ⟨rfl,⟨nd,rfl⟩⟩;have p12:0 ≤ ((ji9):Int):=of_decide_eq_true (by first | (with_reducible assumption) | assumption);have q12:(ji9) < (a0.size:Int):=of_decide_eq_true (by first | (with_reducible assumption) | assumption);have hx12:=bt_at a0 (ji9);replace p12:=eq_true p12;replace q12:=eq_true q12))
        go_meet
        case rel => exact ⟨_,(((bt a0 (ji9)) == 45)),(by first | rfl | (simp;done) | (simp only [← hji9] <;> (first | rfl | simp)) | (simp [*];done)),H',⟨by first | omega | exact Nat.le_refl _⟩,by repeat (first | exact Drawn0.refl _ | apply Drawn0.step)⟩
       ·rw [if_neg c11] at H
        exact absurd H (by simp)
      ·rw [if_neg c10] at H
       exact absurd H (by simp)
     ·replace c8:=Bool.eq_false_iff.mpr c8
      subst c8
      have H1:(beaconref02_CheckName.j0 k a0 (a0.size:Int) true) = some r:=by rw [if_neg (show ¬ (false = true) by decide)] at H;exact H
      clear H
      have H:=H1
      clear H1
      have H':=Aside0.mk H
      clear H
      have p6:0 ≤ (0:Int):=(by omega)
      have q6:0 < a0.size:=(by have:(0:Int) < (a0.size:Int):=of_decide_eq_true (by first | (with_reducible assumption) | assumption);omega)
      have hx6:∀ h:0 < a0.size,((a0[0]'h).toNat:Int) = bt a0 0:=bt_at a0 0
      clear p6
      have qi6:(0 < (a0.size:Int)) = True:=eq_true (of_decide_eq_true (by first | (with_reducible assumption) | assumption))
      replace q6:=eq_true q6
      go_wp2_with (first | (go_at_call 49;(with_reducible refine (beaconref02_letter.calls (bt a0 0) false _ A7.out).mono ?_);rintro e w' ⟨rfl,⟨nd,rfl⟩⟩))
      go_meet
      case rel => exact ⟨_,(true),(by first | rfl | (simp;done) | (simp [*];done)),H',⟨by first | omega | exact Nat.le_refl _⟩,by repeat (first | exact Drawn0.refl _ | apply Drawn0.step)⟩
    ·rw [if_neg c5] at H
     exact absurd H (by simp)
 case rest =>
  clear HC2
  try clear c1
  try clear p1
  try clear q1
  try clear hx1
  try clear p2
  try clear c3
  try clear c3b0
  try clear c3b1
  try clear c4
  try clear c4b0
  try clear c4b1
  try clear c5
  try clear c5b0
  try clear c5b1
  try clear p6
  try clear q6
  try clear hx6
  try clear qi6
  try clear c8
  try clear c10
  try clear c10b0
  try clear c11
  try clear c11b0
  try clear p12
  try clear q12
  try clear hx12
  try clear p12
  try clear p6
  try clear q12
  try clear q6
  obtain ⟨kq,x25_1,rfl,HA,HJ1,⟨mc1,rfl⟩⟩:=hcut
  cases kq with
  | zero => exact absurd HA.out (by simp [beaconref02_CheckName.j0])
  | succ kj1 =>
   have H:=HA.out
   clear HA
   simp only [beaconref02_CheckName.j0] at H
   by_cases c13:x25_1 = true
   ·subst c13
    have H1:(some 21) = some r:=by rw [if_pos rfl] at H;exact H
    clear H
    have H:=H1
    clear H1
    obtain rfl:=Option.some.inj H
    go_wp2
    go_ret
    exact ⟨by first | rfl | (simp;done) | (simp [*];done),by repeat (first | exact Drawn0.refl _ | apply Drawn0.step)⟩
   ·replace c13:=Bool.eq_false_iff.mpr c13
    subst c13
    have H1:(beaconref02_CheckName.l0 kj1 a0 (a0.size:Int) 0) = some r:=by rw [if_neg (show ¬ (false = true) by decide)] at H;exact H
    clear H
    have H:=H1
    clear H1
    have H':=Aside0.mk H
    clear H
    go_wp2
    go_loopg [4] kj1 (fun kq v4 w' => ∃ (x4_2:Int),v4 = .int .i64 x4_2 ∧ Aside0 (beaconref02_CheckName.l0 kq a0 (a0.size:Int) x4_2 = some r) ∧ Aside0 (kq ≤ kj1) ∧ Drawn0 w w')
    case atStart => exact ⟨(0),(by first | rfl | (simp;done) | (simp [*];done)),H',⟨Nat.le_refl _⟩,by repeat (first | exact Drawn0.refl _ | apply Drawn0.step)⟩
    case round =>
     clear H'
     try clear c1
     try clear p1
     try clear q1
     try clear hx1
     try clear p2
     try clear c3
     try clear c3b0
     try clear c3b1
     try clear c4
     try clear c4b0
     try clear c4b1
     try clear c5
     try clear c5b0
     try clear c5b1
     try clear p6
     try clear q6
     try clear hx6
     try clear qi6
     try clear c8
     try clear c10
     try clear c10b0
     try clear c11
     try clear c11b0
     try clear p12
     try clear q12
     try clear hx12
     try clear c13
     try clear p1
     try clear p12
     try clear p2
     try clear p6
     try clear q1
     try clear q12
     try clear q6
     obtain ⟨x4_2,rfl,HA,HK2,⟨m2,rfl⟩⟩:=hrel
     cases gk with
     | zero => exact absurd HA.out (by simp [beaconref02_CheckName.l0])
     | succ k2 =>
      have H:=HA.out
      clear HA
      simp only [beaconref02_CheckName.l0] at H
      by_cases c14:x4_2 < (a0.size:Int)
      ·rw [if_pos c14] at H
       have c14b0:decide (x4_2 < (a0.size:Int)) = true:=decide_eq_true c14
       clear c14
       have HC15:=Aside0.mk H
       clear H
       go_upto_region 7 with (fail)
       go_cut [48] (fun v48 wc => ∃ (kq:Nat) (x48_14:Bool),v48 = .bool x48_14 ∧ Aside0 (beaconref02_CheckName.j2 kq a0 (a0.size:Int) x4_2 x48_14 = some r) ∧ Aside0 (kq ≤ k2) ∧ Drawn0 w wc)
       case first =>
        have H:=HC15.out
        clear HC15
        by_cases c16:0 ≤ x4_2
        ·rw [if_pos c16] at H
         have c16b0:decide (0 ≤ x4_2) = true:=decide_eq_true c16
         clear c16
         (first | rw [c16b0] | (simp only [i64_w,i32_w];rw [c16b0]) | skip)
         by_cases c17:x4_2 < (a0.size:Int)
         ·rw [if_pos c17] at H
          have c17b0:decide (x4_2 < (a0.size:Int)) = true:=decide_eq_true c17
          clear c17
          replace H:=Option.bind_eq_some_iff.mp H
          obtain ⟨t124,A190,H⟩:=H
          replace H:(if t124 = true then (beaconref02_CheckName.j2 k2 a0 (a0.size:Int) x4_2 false) else ((beaconref02_digit.f (bt a0 x4_2)).bind fun t125 => (if t125 = true then (beaconref02_CheckName.j2 k2 a0 (a0.size:Int) x4_2 false) else (beaconref02_CheckName.j2 k2 a0 (a0.size:Int) x4_2 ((bt a0 x4_2) != 45))))) = some r:=H
          have A19:=Aside0.mk A190
          clear A190
          by_cases c20:t124 = true
          ·subst c20
           have H1:(beaconref02_CheckName.j2 k2 a0 (a0.size:Int) x4_2 false) = some r:=by rw [if_pos rfl] at H;exact H
           clear H
           have H:=H1
           clear H1
           have H':=Aside0.mk H
           clear H
           have p18:0 ≤ (x4_2:Int):=of_decide_eq_true (by first | (with_reducible assumption) | assumption)
           have q18:x4_2 < (a0.size:Int):=of_decide_eq_true (by first | (with_reducible assumption) | assumption)
           have hx18:=bt_at a0 x4_2
           replace p18:=eq_true p18
           replace q18:=eq_true q18
           go_wp2_with (first | ((with_reducible refine gate_callee (f:=49) rfl ?_);refine goesL_ (some 34) rfl rfl Try.func49 (by kernel_rfl) rfl #[.int .u8 (bt a0 x4_2)] rfl (by (try simp only [List.map_toArray,List.map_cons,List.map_nil]);first | done | rfl | (simp only [List.length_drop,List.length_take];rfl)) ?_;(with_reducible refine (beaconref02_letter.calls (bt a0 x4_2) true _ A19.out).mono ?_);rintro e w' ⟨rfl,⟨nd,rfl⟩⟩;refine ⟨_,rfl,?_⟩))
           go_meet
           case rel => exact ⟨_,(false),(by first | rfl | (simp;done) | (simp [*];done)),H',⟨by have:=HJ1.out;have:=HK2.out;first | omega | exact Nat.le_refl _⟩,by repeat (first | exact Drawn0.refl _ | apply Drawn0.step)⟩
          ·replace c20:=Bool.eq_false_iff.mpr c20
           subst c20
           have H1:((beaconref02_digit.f (bt a0 x4_2)).bind fun t125 => (if t125 = true then (beaconref02_CheckName.j2 k2 a0 (a0.size:Int) x4_2 false) else (beaconref02_CheckName.j2 k2 a0 (a0.size:Int) x4_2 ((bt a0 x4_2) != 45)))) = some r:=by rw [if_neg (show ¬ (false = true) by decide)] at H;exact H
           clear H
           have H:=H1
           clear H1
           replace H:=Option.bind_eq_some_iff.mp H
           obtain ⟨t125,A220,H⟩:=H
           replace H:(if t125 = true then (beaconref02_CheckName.j2 k2 a0 (a0.size:Int) x4_2 false) else (beaconref02_CheckName.j2 k2 a0 (a0.size:Int) x4_2 ((bt a0 x4_2) != 45))) = some r:=H
           have A22:=Aside0.mk A220
           clear A220
           by_cases c23:t125 = true
           ·subst c23
            have H1:(beaconref02_CheckName.j2 k2 a0 (a0.size:Int) x4_2 false) = some r:=by rw [if_pos rfl] at H;exact H
            clear H
            have H:=H1
            clear H1
            have H':=Aside0.mk H
            clear H
            have p18:0 ≤ (x4_2:Int):=of_decide_eq_true (by first | (with_reducible assumption) | assumption)
            have q18:x4_2 < (a0.size:Int):=of_decide_eq_true (by first | (with_reducible assumption) | assumption)
            have hx18:=bt_at a0 x4_2
            replace p18:=eq_true p18
            replace q18:=eq_true q18
            go_wp2_with (first | ((with_reducible refine gate_callee (f:=49) rfl ?_);refine goesL_ (some 34) rfl rfl Try.func49 (by kernel_rfl) rfl #[.int .u8 (bt a0 x4_2)] rfl (by (try simp only [List.map_toArray,List.map_cons,List.map_nil]);first | done | rfl | (simp only [List.length_drop,List.length_take];rfl)) ?_;(with_reducible refine (beaconref02_letter.calls (bt a0 x4_2) false _ A19.out).mono ?_);rintro e w' ⟨rfl,⟨nd,rfl⟩⟩;refine ⟨_,rfl,?_⟩;have p21:0 ≤ (x4_2:Int):=of_decide_eq_true (by first | (with_reducible assumption) | assumption);have q21:x4_2 < (a0.size:Int):=of_decide_eq_true (by first | (with_reducible assumption) | assumption);have hx21:=bt_at a0 x4_2;replace p21:=eq_true p21;replace q21:=eq_true q21) | (go_at_call 50;(with_reducible refine (beaconref02_digit.calls (bt a0 x4_2) true _ A22.out).mono ?_);rintro e w' ⟨rfl,⟨nd,rfl⟩⟩))
            go_meet
            case rel => exact ⟨_,(false),(by first | rfl | (simp;done) | (simp [*];done)),H',⟨by have:=HJ1.out;have:=HK2.out;first | omega | exact Nat.le_refl _⟩,by repeat (first | exact Drawn0.refl _ | apply Drawn0.step)⟩
           ·replace c23:=Bool.eq_false_iff.mpr c23
            subst c23
            have H1:(beaconref02_CheckName.j2 k2 a0 (a0.size:Int) x4_2 ((bt a0 x4_2) != 45)) = some r:=by rw [if_neg (show ¬ (false = true) by decide)] at H;exact H
            clear H
            have H:=H1
            clear H1
            have H':=Aside0.mk H
            clear H
            have p18:0 ≤ (x4_2:Int):=of_decide_eq_true (by first | (with_reducible assumption) | assumption)
            have q18:x4_2 < (a0.size:Int):=of_decide_eq_true (by first | (with_reducible assumption) | assumption)
            have hx18:=bt_at a0 x4_2
            replace p18:=eq_true p18
            replace q18:=eq_true q18
            go_wp2_with (first | ((with_reducible refine gate_callee (f:=49) rfl ?_);refine goesL_ (some 34) rfl rfl Try.func49 (by kernel_rfl) rfl #[.int .u8 (bt a0 x4_2)] rfl (by (try simp only [List.map_toArray,List.map_cons,List.map_nil]);first | done | rfl | (simp only [List.length_drop,List.length_take];rfl)) ?_;(with_reducible refine (beaconref02_letter.calls (bt a0 x4_2) false _ A19.out).mono ?_);rintro e w' ⟨rfl,⟨nd,rfl⟩⟩;refine ⟨_,rfl,?_⟩;have p21:0 ≤ (x4_2:Int):=of_decide_eq_true (by first | (with_reducible assumption) | assumption);have q21:x4_2 < (a0.size:Int):=of_decide_eq_true (by first | (with_reducible assumption) | assumption);have hx21:=bt_at a0 x4_2;replace p21:=eq_true p21;replace q21:=eq_true q21) | (go_at_call 50;(with_reducible refine (beaconref02_digit.calls (bt a0 x4_2) false _ A22.out).mono ?_);rintro e w' ⟨rfl,⟨nd,rfl⟩⟩;have p24:0 ≤ (x4_2:Int):=of_decide_eq_true (by first | (with_reducible assumption) | assumption);have q24:x4_2 < (a0.size:Int):=of_decide_eq_true (by first | (with_reducible assumption) | assumption);have hx24:=bt_at a0 x4_2;replace p24:=eq_true p24;replace q24:=eq_true q24))
            go_meet
            case rel => exact ⟨_,(((bt a0 x4_2) != 45)),(by first | rfl | (simp;done) | (simp [*];done)),H',⟨by have:=HJ1.out;have:=HK2.out;first | omega | exact Nat.le_refl _⟩,by repeat (first | exact Drawn0.refl _ | apply Drawn0.step)⟩
         ·rw [if_neg c17] at H
          exact absurd H (by simp)
        ·rw [if_neg c16] at H
         exact absurd H (by simp)
       case rest =>
        clear HC15
        try clear c1
        try clear p1
        try clear q1
        try clear hx1
        try clear c2
        try clear p2
        try clear q2
        try clear hx2
        try clear c3
        try clear c3b0
        try clear c3b1
        try clear c4
        try clear c4b0
        try clear c4b1
        try clear c5
        try clear c5b0
        try clear c5b1
        try clear p6
        try clear q6
        try clear hx6
        try clear qi6
        try clear c8
        try clear c10
        try clear c10b0
        try clear c11
        try clear c11b0
        try clear p12
        try clear q12
        try clear hx12
        try clear c13
        try clear c14
        try clear c14b0
        try clear c16
        try clear c16b0
        try clear c17
        try clear c17b0
        try clear p18
        try clear q18
        try clear hx18
        try clear c20
        try clear p21
        try clear q21
        try clear hx21
        try clear c23
        try clear p24
        try clear q24
        try clear hx24
        try clear p1
        try clear p12
        try clear p18
        try clear p2
        try clear p21
        try clear p24
        try clear p6
        try clear q1
        try clear q12
        try clear q18
        try clear q21
        try clear q24
        try clear q6
        obtain ⟨kq,x48_14,rfl,HA,HJ14,⟨mc14,rfl⟩⟩:=hcut
        cases kq with
        | zero => exact absurd HA.out (by simp [beaconref02_CheckName.j2])
        | succ kj14 =>
         have H:=HA.out
         clear HA
         simp only [beaconref02_CheckName.j2] at H
         by_cases c25:x48_14 = true
         ·subst c25
          have H1:(some 21) = some r:=by rw [if_pos rfl] at H;exact H
          clear H
          have H:=H1
          clear H1
          obtain rfl:=Option.some.inj H
          go_wp2
          go_ret
          exact ⟨by first | rfl | (simp;done) | (simp [*];done),by repeat (first | exact Drawn0.refl _ | apply Drawn0.step)⟩
         ·replace c25:=Bool.eq_false_iff.mpr c25
          subst c25
          have H1:(beaconref02_CheckName.l0 kj14 a0 (a0.size:Int) (wrap64 (x4_2 + 1))) = some r:=by rw [if_neg (show ¬ (false = true) by decide)] at H;exact H
          clear H
          have H:=H1
          clear H1
          have H':=Aside0.mk H
          clear H
          go_wp2
          go_roundg kj14
          case measure => have:=HJ1.out;have:=HK2.out;have:=HJ14.out;omega
          case rel => exact ⟨(wrap64 (x4_2 + 1)),(by first | rfl | (simp;done) | (simp [*];done)),H',⟨by have:=HJ1.out;have:=HK2.out;have:=HJ14.out;omega⟩,by repeat (first | exact Drawn0.refl _ | apply Drawn0.step)⟩
      ·rw [if_neg c14] at H
       have c14b0:decide (x4_2 < (a0.size:Int)) = false:=decide_eq_false c14
       clear c14
       obtain rfl:=Option.some.inj H
       go_wp2
       go_ret
       exact ⟨by first | rfl | (simp;done) | (simp [*];done),by repeat (first | exact Drawn0.refl _ | apply Drawn0.step)⟩
end Go.Proofs.Ytlpmblcdafdfdaa.PA
