/- Printed by a program of this session (wip/tools/patch_print.py and pr.py, over the kit's print): each Go function as a plain Lean function, and that the Go code comes to just its answers. Conditions: those that each theorem names. -/
import Derived.Test.YtlpmblcdafdfdaaPkPAx0
import Derived.Test.YtlpmblcdafdfdaaPkPAx7
namespace Go.Proofs.Ytlpmblcdafdfdaa.PA
open Go.RowKit Go.Proofs.YtlpmblcdafdfdaaW.PrintWords Go.Proofs.YtlpmblcdafdfdaaW.PrintLast Go.Proofs.YtlpmblcdafdfdaaW.PrintMore
attribute [local go_sem] max2_int min2_int max_two min_two max_three min_three max_four min_four
set_option linter.unusedVariables false
set_option linter.unusedSimpArgs false
mutual
def beaconref02_list.l0:Nat → List Int → Int → Option (Int)
 | 0,_,_ => none
 | k + 1,x0,x3 => if x3 < (x0.length:Int) then (if 0 ≤ x3 then ((beaconref02_CheckId.f (rd x0 x3)).bind fun t179 => (if t179 = 0 then (beaconref02_list.l0 k x0 (wrap64 (x3 + 1))) else (some t179))) else (none)) else (beaconref02_list.l1 k x0 0)
def beaconref02_list.l1:Nat → List Int → Int → Option (Int)
 | 0,_,_ => none
 | k + 1,x0,x5 => if x5 < (x0.length:Int) then (beaconref02_list.l2 k x0 x5 0) else (some 0)
def beaconref02_list.l2:Nat → List Int → Int → Int → Option (Int)
 | 0,_,_,_ => none
 | k + 1,x0,x5,x6 => if x6 < x5 then (if 0 ≤ x6 then (if x6 < (x0.length:Int) then (if 0 ≤ x5 then (if x5 < (x0.length:Int) then (if (rd x0 x6) = (rd x0 x5) then (some 72) else (beaconref02_list.l2 k x0 x5 (wrap64 (x6 + 1)))) else (none)) else (none)) else (none)) else (none)) else (beaconref02_list.l1 k x0 (wrap64 (x5 + 1)))
end
def beaconref02_list.f (k:Nat) (l0:List Int):Option (Int):=beaconref02_list.l0 k l0 0
set_option maxHeartbeats 8000000 in
set_option maxRecDepth 100000 in
theorem beaconref02_list.calls (k:Nat) (A0:Option Addr) (c0:Nat) (l0:List Int) (r:Int) (w:World) (hr0:Kd.C (Kd.int .i64) w A0 l0.length l0) (hc0:l0.length ≤ c0) (h:beaconref02_list.f k l0 = some r) :
  Calls Try.prog 32 #[.slice A0 l0.length c0] w fun e w' => e = .returned (.int .i64 r) ∧ Drawn0 w w':=by
 have HR0:=Aside0.mk hr0
 have HC0:=Aside0.mk hc0
 clear hr0 hc0
 have H:(beaconref02_list.l0 k l0 0) = some r:=h
 clear h
 have H':=Aside0.mk H
 clear H
 go_enter Try.func32,Try.ntmps32
 go_wp2
 repeat (go_quiet (fail);try go_wp2)
 go_loopg [3] k (fun kq v3 w' => ∃ (x3_1:Int),v3 = .int .i64 x3_1 ∧ Aside0 (beaconref02_list.l0 kq l0 x3_1 = some r) ∧ Aside0 (kq ≤ k) ∧ Drawn0 w w')
 case atStart => exact ⟨(0),(by first | rfl | (simp;done) | (simp [*];done)),H',⟨Nat.le_refl _⟩,by repeat (first | exact Drawn0.refl _ | apply Drawn0.step)⟩
 case round =>
  clear H'
  obtain ⟨x3_1,rfl,HA,HK1,⟨m1,rfl⟩⟩:=hrel
  cases gk with
  | zero => exact absurd HA.out (by simp [beaconref02_list.l0])
  | succ k1 =>
   have H:=HA.out
   clear HA
   simp only [beaconref02_list.l0] at H
   by_cases c2:x3_1 < (l0.length:Int)
   ·rw [if_pos c2] at H
    have c2b0:decide (x3_1 < (l0.length:Int)) = true:=decide_eq_true c2
    clear c2
    by_cases c3:0 ≤ x3_1
    ·rw [if_pos c3] at H
     have c3b0:decide (0 ≤ x3_1) = true:=decide_eq_true c3
     clear c3
     replace H:=Option.bind_eq_some_iff.mp H
     obtain ⟨t179,A40,H⟩:=H
     replace H:(if t179 = 0 then (beaconref02_list.l0 k1 l0 (wrap64 (x3_1 + 1))) else (some t179)) = some r:=H
     have A4:=Aside0.mk A40
     clear A40
     by_cases c5:t179 = 0
     ·rw [if_pos c5] at H
      have c5b0:(t179 == 0) = true:=beq_iff_eq.mpr c5
      have c5b1:(t179 != 0) = false:=bne_eq_false_iff_eq.mpr c5
      clear c5
      have H':=Aside0.mk H
      clear H
      have p178:0 ≤ (x3_1:Int):=of_decide_eq_true (by first | (with_reducible assumption) | assumption)
      have q178:x3_1 < (l0.length:Int):=of_decide_eq_true (by first | (with_reducible assumption) | assumption)
      obtain ⟨ad178,e178,hx178_0⟩:=Kd.at_int HR0.out x3_1 p178 q178
      cases e178
      replace p178:=eq_true p178
      replace q178:=eq_true q178
      go_wp2_with (first | (go_at_call 51;(with_reducible refine (beaconref02_CheckId.calls (rd l0 x3_1) t179 _ A4.out).mono ?_);rintro e w' ⟨rfl,⟨nd,rfl⟩⟩;(try first | exact ⟨rfl,_,World.drewN_drewN _ _ _⟩ | exact ⟨rfl,_,Eq.trans (World.drewN_drewN _ _ _) (congrArg (World.drewN _) (Nat.add_assoc _ _ _))⟩)))
      repeat (go_quiet (first | (go_at_call 51;(with_reducible refine (beaconref02_CheckId.calls (rd l0 x3_1) t179 _ A4.out).mono ?_);rintro e w' ⟨rfl,⟨nd,rfl⟩⟩;(try first | exact ⟨rfl,_,World.drewN_drewN _ _ _⟩ | exact ⟨rfl,_,Eq.trans (World.drewN_drewN _ _ _) (congrArg (World.drewN _) (Nat.add_assoc _ _ _))⟩)));try go_wp2_with (first | (go_at_call 51;(with_reducible refine (beaconref02_CheckId.calls (rd l0 x3_1) t179 _ A4.out).mono ?_);rintro e w' ⟨rfl,⟨nd,rfl⟩⟩;(try first | exact ⟨rfl,_,World.drewN_drewN _ _ _⟩ | exact ⟨rfl,_,Eq.trans (World.drewN_drewN _ _ _) (congrArg (World.drewN _) (Nat.add_assoc _ _ _))⟩))))
      go_roundg k1
      case measure => have:=HK1.out;omega
      case rel => exact ⟨(wrap64 (x3_1 + 1)),(by first | rfl | (simp;done) | (simp [*];done)),H',⟨by have:=HK1.out;omega⟩,by repeat (first | exact Drawn0.refl _ | apply Drawn0.step)⟩
     ·rw [if_neg c5] at H
      have c5b0:(t179 == 0) = false:=beq_eq_false_iff_ne.mpr c5
      have c5b1:(t179 != 0) = true:=bne_iff_ne.mpr c5
      obtain rfl:=Option.some.inj H
      have p178:0 ≤ (x3_1:Int):=of_decide_eq_true (by first | (with_reducible assumption) | assumption)
      have q178:x3_1 < (l0.length:Int):=of_decide_eq_true (by first | (with_reducible assumption) | assumption)
      obtain ⟨ad178,e178,hx178_0⟩:=Kd.at_int HR0.out x3_1 p178 q178
      cases e178
      replace p178:=eq_true p178
      replace q178:=eq_true q178
      go_wp2_with (first | (go_at_call 51;(with_reducible refine (beaconref02_CheckId.calls (rd l0 x3_1) t179 _ A4.out).mono ?_);rintro e w' ⟨rfl,⟨nd,rfl⟩⟩;(try first | exact ⟨rfl,_,World.drewN_drewN _ _ _⟩ | exact ⟨rfl,_,Eq.trans (World.drewN_drewN _ _ _) (congrArg (World.drewN _) (Nat.add_assoc _ _ _))⟩)))
      repeat (go_quiet (first | (go_at_call 51;(with_reducible refine (beaconref02_CheckId.calls (rd l0 x3_1) t179 _ A4.out).mono ?_);rintro e w' ⟨rfl,⟨nd,rfl⟩⟩;(try first | exact ⟨rfl,_,World.drewN_drewN _ _ _⟩ | exact ⟨rfl,_,Eq.trans (World.drewN_drewN _ _ _) (congrArg (World.drewN _) (Nat.add_assoc _ _ _))⟩)));try go_wp2_with (first | (go_at_call 51;(with_reducible refine (beaconref02_CheckId.calls (rd l0 x3_1) t179 _ A4.out).mono ?_);rintro e w' ⟨rfl,⟨nd,rfl⟩⟩;(try first | exact ⟨rfl,_,World.drewN_drewN _ _ _⟩ | exact ⟨rfl,_,Eq.trans (World.drewN_drewN _ _ _) (congrArg (World.drewN _) (Nat.add_assoc _ _ _))⟩))))
      go_ret
      exact ⟨by first | rfl | (simp;done) | (simp [*];done),by repeat (first | exact Drawn0.refl _ | apply Drawn0.step)⟩
    ·rw [if_neg c3] at H
     exact absurd H (by simp)
   ·rw [if_neg c2] at H
    have c2b0:decide (x3_1 < (l0.length:Int)) = false:=decide_eq_false c2
    clear c2
    have H':=Aside0.mk H
    clear H
    go_wp2
    repeat (go_quiet (fail);try go_wp2)
    go_loopg [5] k1 (fun kq v5 w' => ∃ (x5_2:Int),v5 = .int .i64 x5_2 ∧ Aside0 (beaconref02_list.l1 kq l0 x5_2 = some r) ∧ Aside0 (kq ≤ k1) ∧ Drawn0 w w')
    case atStart => exact ⟨(0),(by first | rfl | (simp;done) | (simp [*];done)),H',⟨Nat.le_refl _⟩,by repeat (first | exact Drawn0.refl _ | apply Drawn0.step)⟩
    case round =>
     clear H'
     try clear p1
     try clear q1
     try clear hx1
     try clear c2
     try clear c2b0
     try clear p2
     try clear c3
     try clear c3b0
     try clear c5
     try clear c5b0
     try clear c5b1
     try clear hx178_0
     try clear p178
     try clear q178
     obtain ⟨x5_2,rfl,HA,HK2,⟨m2,rfl⟩⟩:=hrel
     cases gk with
     | zero => exact absurd HA.out (by simp [beaconref02_list.l1])
     | succ k2 =>
      have H:=HA.out
      clear HA
      simp only [beaconref02_list.l1] at H
      by_cases c6:x5_2 < (l0.length:Int)
      ·rw [if_pos c6] at H
       have c6b0:decide (x5_2 < (l0.length:Int)) = true:=decide_eq_true c6
       clear c6
       have H':=Aside0.mk H
       clear H
       go_wp2
       repeat (go_quiet (fail);try go_wp2)
       go_loopg [6] k2 (fun kq v6 w' => ∃ (x6_3:Int),v6 = .int .i64 x6_3 ∧ Aside0 (beaconref02_list.l2 kq l0 x5_2 x6_3 = some r) ∧ Aside0 (kq ≤ k2) ∧ Drawn0 w w')
       case atStart => exact ⟨(0),(by first | rfl | (simp;done) | (simp [*];done)),H',⟨Nat.le_refl _⟩,by repeat (first | exact Drawn0.refl _ | apply Drawn0.step)⟩
       case round =>
        clear H'
        try clear p1
        try clear q1
        try clear hx1
        try clear c2
        try clear c2b0
        try clear p2
        try clear c3
        try clear c3b0
        try clear c5
        try clear c5b0
        try clear c5b1
        try clear c6
        try clear c6b0
        try clear p6
        try clear hx178_0
        try clear p1
        try clear p178
        try clear p2
        try clear q1
        try clear q178
        obtain ⟨x6_3,rfl,HA,HK3,⟨m3,rfl⟩⟩:=hrel
        cases gk with
        | zero => exact absurd HA.out (by simp [beaconref02_list.l2])
        | succ k3 =>
         have H:=HA.out
         clear HA
         simp only [beaconref02_list.l2] at H
         by_cases c7:x6_3 < x5_2
         ·rw [if_pos c7] at H
          have c7b0:decide (x6_3 < x5_2) = true:=decide_eq_true c7
          clear c7
          by_cases c8:0 ≤ x6_3
          ·rw [if_pos c8] at H
           have c8b0:decide (0 ≤ x6_3) = true:=decide_eq_true c8
           clear c8
           by_cases c9:x6_3 < (l0.length:Int)
           ·rw [if_pos c9] at H
            have c9b0:decide (x6_3 < (l0.length:Int)) = true:=decide_eq_true c9
            clear c9
            by_cases c10:0 ≤ x5_2
            ·rw [if_pos c10] at H
             have c10b0:decide (0 ≤ x5_2) = true:=decide_eq_true c10
             clear c10
             by_cases c11:x5_2 < (l0.length:Int)
             ·rw [if_pos c11] at H
              have c11b0:decide (x5_2 < (l0.length:Int)) = true:=decide_eq_true c11
              clear c11
              by_cases c12:(rd l0 x6_3) = (rd l0 x5_2)
              ·rw [if_pos c12] at H
               have c12b0:((rd l0 x6_3) == (rd l0 x5_2)) = true:=beq_iff_eq.mpr c12
               have c12b1:((rd l0 x6_3) != (rd l0 x5_2)) = false:=bne_eq_false_iff_eq.mpr c12
               clear c12
               obtain rfl:=Option.some.inj H
               have p180:0 ≤ (x6_3:Int):=of_decide_eq_true (by first | (with_reducible assumption) | assumption)
               have q180:x6_3 < (l0.length:Int):=of_decide_eq_true (by first | (with_reducible assumption) | assumption)
               obtain ⟨ad180,e180,hx180_0⟩:=Kd.at_int HR0.out x6_3 p180 q180
               cases e180
               replace p180:=eq_true p180
               replace q180:=eq_true q180
               have p181:0 ≤ (x5_2:Int):=of_decide_eq_true (by first | (with_reducible assumption) | assumption)
               have q181:x5_2 < (l0.length:Int):=of_decide_eq_true (by first | (with_reducible assumption) | assumption)
               obtain ⟨ad181,e181,hx181_0⟩:=Kd.at_int HR0.out x5_2 p181 q181
               obtain rfl:ad180 = ad181:=(by injection e181)
               replace p181:=eq_true p181
               replace q181:=eq_true q181
               go_wp2
               repeat (go_quiet (fail);try go_wp2)
               go_ret
               exact ⟨by first | rfl | (simp;done) | (simp [*];done),by repeat (first | exact Drawn0.refl _ | apply Drawn0.step)⟩
              ·rw [if_neg c12] at H
               have c12b0:((rd l0 x6_3) == (rd l0 x5_2)) = false:=beq_eq_false_iff_ne.mpr c12
               have c12b1:((rd l0 x6_3) != (rd l0 x5_2)) = true:=bne_iff_ne.mpr c12
               have H':=Aside0.mk H
               clear H
               have p180:0 ≤ (x6_3:Int):=of_decide_eq_true (by first | (with_reducible assumption) | assumption)
               have q180:x6_3 < (l0.length:Int):=of_decide_eq_true (by first | (with_reducible assumption) | assumption)
               obtain ⟨ad180,e180,hx180_0⟩:=Kd.at_int HR0.out x6_3 p180 q180
               cases e180
               replace p180:=eq_true p180
               replace q180:=eq_true q180
               have p181:0 ≤ (x5_2:Int):=of_decide_eq_true (by first | (with_reducible assumption) | assumption)
               have q181:x5_2 < (l0.length:Int):=of_decide_eq_true (by first | (with_reducible assumption) | assumption)
               obtain ⟨ad181,e181,hx181_0⟩:=Kd.at_int HR0.out x5_2 p181 q181
               obtain rfl:ad180 = ad181:=(by injection e181)
               replace p181:=eq_true p181
               replace q181:=eq_true q181
               go_wp2
               repeat (go_quiet (fail);try go_wp2)
               go_roundg k3
               case measure => have:=HK1.out;have:=HK2.out;have:=HK3.out;omega
               case rel => exact ⟨(wrap64 (x6_3 + 1)),(by first | rfl | (simp;done) | (simp [*];done)),H',⟨by have:=HK1.out;have:=HK2.out;have:=HK3.out;omega⟩,by repeat (first | exact Drawn0.refl _ | apply Drawn0.step)⟩
             ·rw [if_neg c11] at H
              exact absurd H (by simp)
            ·rw [if_neg c10] at H
             exact absurd H (by simp)
           ·rw [if_neg c9] at H
            exact absurd H (by simp)
          ·rw [if_neg c8] at H
           exact absurd H (by simp)
         ·rw [if_neg c7] at H
          have c7b0:decide (x6_3 < x5_2) = false:=decide_eq_false c7
          clear c7
          have H':=Aside0.mk H
          clear H
          go_wp2
          repeat (go_quiet (fail);try go_wp2)
          go_roundg k3
          case measure => have:=HK1.out;have:=HK2.out;have:=HK3.out;omega
          case rel => exact ⟨(wrap64 (x5_2 + 1)),(by first | rfl | (simp;done) | (simp [*];done)),H',⟨by have:=HK1.out;have:=HK2.out;have:=HK3.out;omega⟩,by repeat (first | exact Drawn0.refl _ | apply Drawn0.step)⟩
      ·rw [if_neg c6] at H
       have c6b0:decide (x5_2 < (l0.length:Int)) = false:=decide_eq_false c6
       clear c6
       obtain rfl:=Option.some.inj H
       go_wp2
       repeat (go_quiet (fail);try go_wp2)
       go_ret
       exact ⟨by first | rfl | (simp;done) | (simp [*];done),by repeat (first | exact Drawn0.refl _ | apply Drawn0.step)⟩
def beaconref02_Mix.f (a0:Int):Option (Int):=some (Go.bits .xor .u64 (IntKind.u64.wrap ((Go.bits .xor .u64 (IntKind.u64.wrap ((Go.bits .xor .u64 a0 (a0 / 1073741824)) * 13787848793156543929)) ((IntKind.u64.wrap ((Go.bits .xor .u64 a0 (a0 / 1073741824)) * 13787848793156543929)) / 134217728)) * 10723151780598845931)) ((IntKind.u64.wrap ((Go.bits .xor .u64 (IntKind.u64.wrap ((Go.bits .xor .u64 a0 (a0 / 1073741824)) * 13787848793156543929)) ((IntKind.u64.wrap ((Go.bits .xor .u64 a0 (a0 / 1073741824)) * 13787848793156543929)) / 134217728)) * 10723151780598845931)) / 2147483648))
set_option maxHeartbeats 8000000 in
set_option maxRecDepth 100000 in
theorem beaconref02_Mix.calls (a0:Int) (r:Int) (w:World) (h:beaconref02_Mix.f a0 = some r) :
  Calls Try.prog 72 #[.int .u64 a0] w fun e w' => e = .returned (.int .u64 r) ∧ Drawn0 w w':=by
 have H:(some (Go.bits .xor .u64 (IntKind.u64.wrap ((Go.bits .xor .u64 (IntKind.u64.wrap ((Go.bits .xor .u64 a0 (a0 / 1073741824)) * 13787848793156543929)) ((IntKind.u64.wrap ((Go.bits .xor .u64 a0 (a0 / 1073741824)) * 13787848793156543929)) / 134217728)) * 10723151780598845931)) ((IntKind.u64.wrap ((Go.bits .xor .u64 (IntKind.u64.wrap ((Go.bits .xor .u64 a0 (a0 / 1073741824)) * 13787848793156543929)) ((IntKind.u64.wrap ((Go.bits .xor .u64 a0 (a0 / 1073741824)) * 13787848793156543929)) / 134217728)) * 10723151780598845931)) / 2147483648))) = some r:=h
 clear h
 obtain rfl:=Option.some.inj H
 go_enter Try.func72,Try.ntmps72
 go_wp2
 go_ret
 exact ⟨by first | rfl | (simp;done) | (simp [*];done),by repeat (first | exact Drawn0.refl _ | apply Drawn0.step)⟩
def beaconref02_Sum.l0:Nat → ByteArray → Int → Int → Option (Int)
 | 0,_,_,_ => none
 | k + 1,x0,x3,x4 => if x4 < (x0.size:Int) then (if 0 ≤ x4 then (beaconref02_Sum.l0 k x0 (IntKind.u64.wrap ((Go.bits .xor .u64 x3 (IntKind.u64.wrap (bt x0 x4))) * 1099511628211)) (wrap64 (x4 + 1))) else (none)) else (some x3)
def beaconref02_Sum.f (k:Nat) (a0:ByteArray):Option (Int):=beaconref02_Sum.l0 k a0 14695981039346656037 0
set_option maxHeartbeats 8000000 in
set_option maxRecDepth 100000 in
theorem beaconref02_Sum.calls (k:Nat) (a0:ByteArray) (r:Int) (w:World) (h:beaconref02_Sum.f k a0 = some r) :
  Calls Try.prog 73 #[.string a0] w fun e w' => e = .returned (.int .u64 r) ∧ Drawn0 w w':=by
 have H:(beaconref02_Sum.l0 k a0 14695981039346656037 0) = some r:=h
 clear h
 have H':=Aside0.mk H
 clear H
 go_enter Try.func73,Try.ntmps73
 go_wp2
 go_loopg [3,4] k (fun kq v3 v4 w' => ∃ (x3_1:Int) (x4_1:Int),v3 = .int .u64 x3_1 ∧ v4 = .int .i64 x4_1 ∧ Aside0 (beaconref02_Sum.l0 kq a0 x3_1 x4_1 = some r) ∧ Aside0 (kq ≤ k) ∧ Drawn0 w w')
 case atStart => exact ⟨(14695981039346656037),(0),(by first | rfl | (simp;done) | (simp [*];done)),(by first | rfl | (simp;done) | (simp [*];done)),H',⟨Nat.le_refl _⟩,by repeat (first | exact Drawn0.refl _ | apply Drawn0.step)⟩
 case round =>
  clear H'
  obtain ⟨x3_1,x4_1,rfl,rfl,HA,HK1,⟨m1,rfl⟩⟩:=hrel
  cases gk with
  | zero => exact absurd HA.out (by simp [beaconref02_Sum.l0])
  | succ k1 =>
   have H:=HA.out
   clear HA
   simp only [beaconref02_Sum.l0] at H
   by_cases c2:x4_1 < (a0.size:Int)
   ·rw [if_pos c2] at H
    have c2b0:decide (x4_1 < (a0.size:Int)) = true:=decide_eq_true c2
    clear c2
    by_cases c3:0 ≤ x4_1
    ·rw [if_pos c3] at H
     have c3b0:decide (0 ≤ x4_1) = true:=decide_eq_true c3
     clear c3
     have H':=Aside0.mk H
     clear H
     have p4:0 ≤ (x4_1:Int):=of_decide_eq_true (by first | (with_reducible assumption) | assumption)
     have q4:x4_1 < (a0.size:Int):=of_decide_eq_true (by first | (with_reducible assumption) | assumption)
     have hx4:=bt_at a0 x4_1
     replace p4:=eq_true p4
     replace q4:=eq_true q4
     go_wp2
     go_roundg k1
     case measure => have:=HK1.out;omega
     case rel => exact ⟨(IntKind.u64.wrap ((Go.bits .xor .u64 x3_1 (IntKind.u64.wrap (bt a0 x4_1))) * 1099511628211)),(wrap64 (x4_1 + 1)),(by first | rfl | (simp;done) | (simp [*];done)),(by first | rfl | (simp;done) | (simp [*];done)),H',⟨by have:=HK1.out;omega⟩,by repeat (first | exact Drawn0.refl _ | apply Drawn0.step)⟩
    ·rw [if_neg c3] at H
     exact absurd H (by simp)
   ·rw [if_neg c2] at H
    have c2b0:decide (x4_1 < (a0.size:Int)) = false:=decide_eq_false c2
    clear c2
    obtain rfl:=Option.some.inj H
    go_wp2
    go_ret
    exact ⟨by first | rfl | (simp;done) | (simp [*];done),by repeat (first | exact Drawn0.refl _ | apply Drawn0.step)⟩
end Go.Proofs.Ytlpmblcdafdfdaa.PA
