/- Printed by a program of this session (wip/tools/patch_print.py and pr.py, over the kit's print): each Go function as a plain Lean function, and that the Go code comes to just its answers. Conditions: those that each theorem names. -/
import Derived.Test.YtjcnmpkaiopihaaZmPAx0
import Derived.Test.YtjcnmpkaiopihaaZmPAx4
namespace Go.Proofs.Ytjcnmpkaiopihaa.PA
open Go.RowKit Go.Proofs.YtjcnmpkaiopihaaW.PrintWords Go.Proofs.YtjcnmpkaiopihaaW.PrintLast Go.Proofs.YtjcnmpkaiopihaaW.PrintMore
attribute [local go_sem] max2_int min2_int max_two min_two max_three min_three max_four min_four
set_option linter.unusedVariables false
set_option linter.unusedSimpArgs false
def beaconref01_Limit.f (a0:Nat):Option (Int):=(beaconref01_bounded.f a0 4742290407621132288).bind fun t145 => (some t145)
set_option maxHeartbeats 8000000 in
set_option maxRecDepth 100000 in
theorem beaconref01_Limit.calls (a0:Nat) (r:Int) (w:World) (h:beaconref01_Limit.f a0 = some r) :
  Calls Try.prog 36 #[.float .f64 a0] w fun e w' => e = .returned (.int .i64 r) ∧ Drawn0 w w':=by
 have H:((beaconref01_bounded.f a0 4742290407621132288).bind fun t145 => (some t145)) = some r:=h
 clear h
 replace H:=Option.bind_eq_some_iff.mp H
 obtain ⟨t145,A20,H⟩:=H
 replace H:(some t145) = some r:=H
 have A2:=Aside0.mk A20
 clear A20
 obtain rfl:=Option.some.inj H
 go_enter Try.func36,Try.ntmps36
 go_wp2_with (first | ((with_reducible refine gate_callee (f:=71) rfl ?_);refine goesL_ (some 4) rfl rfl Try.func71 (by kernel_rfl) rfl #[.float .f64 a0,.float .f64 4742290407621132288] rfl (by (try simp only [List.map_toArray,List.map_cons,List.map_nil]);first | done | rfl | (simp only [List.length_drop,List.length_take];rfl)) ?_;(with_reducible refine (beaconref01_bounded.calls a0 4742290407621132288 t145 _ A2.out).mono ?_);rintro e w' ⟨rfl,⟨nd,rfl⟩⟩;refine ⟨_,rfl,?_⟩))
 go_ret
 exact ⟨by first | rfl | (simp;done) | (simp [*];done),by repeat (first | exact Drawn0.refl _ | apply Drawn0.step)⟩
def math_Inf.f (a0:Int):Option (Nat):=if a0 ≥ 0 then (some 9218868437227405312) else (some 18442240474082181120)
set_option maxHeartbeats 8000000 in
set_option maxRecDepth 100000 in
theorem math_Inf.calls (a0:Int) (r:Nat) (w:World) (h:math_Inf.f a0 = some r) :
  Calls Try.prog 40 #[.int .i64 a0] w fun e w' => e = .returned (.float .f64 r) ∧ Drawn0 w w':=by
 have hX72:=run_Float64frombits Try.func72 (by kernel_rfl) (by kernel_rfl) (by kernel_rfl) (by kernel_rfl)
 have H:(if a0 ≥ 0 then (some 9218868437227405312) else (some 18442240474082181120)) = some r:=h
 clear h
 by_cases c2:a0 ≥ 0
 ·rw [if_pos c2] at H
  have c2b0:decide (0 ≤ a0) = true:=decide_eq_true c2
  clear c2
  obtain rfl:=Option.some.inj H
  go_enter Try.func40,Try.ntmps40
  go_wp2
  go_ret
  exact ⟨by first | rfl | (simp;done) | (simp [*];done),by repeat (first | exact Drawn0.refl _ | apply Drawn0.step)⟩
 rw [if_neg c2] at H
 have c2b0:decide (0 ≤ a0) = false:=decide_eq_false c2
 clear c2
 obtain rfl:=Option.some.inj H
 go_enter Try.func40,Try.ntmps40
 go_wp2
 go_ret
 exact ⟨by first | rfl | (simp;done) | (simp [*];done),by repeat (first | exact Drawn0.refl _ | apply Drawn0.step)⟩
mutual
def beaconref13_insert.l0:Nat → List Int → Int → List Int → Bool → Int → Option (List Int)
 | 0,_,_,_,_,_ => none
 | k + 1,x0,x1,x5,x6,x7 => if x7 < (x0.length:Int) then (if x6 = true then (beaconref13_insert.j1 k x0 x1 x5 x6 x7 false) else (if 0 ≤ x7 then (beaconref13_insert.j1 k x0 x1 x5 x6 x7 (decide ((rd x0 x7) ≥ x1))) else (none))) else (if x6 = true then (some x5) else (if x5.length < 17592186044416 then (some (x5 ++ [x1])) else (none)))
def beaconref13_insert.j1:Nat → List Int → Int → List Int → Bool → Int → Bool → Option (List Int)
 | 0,_,_,_,_,_,_ => none
 | k + 1,x0,x1,x5,x6,x7,x24 => if x24 = true then (if 0 ≤ x7 then (if x7 < (x0.length:Int) then (if (rd x0 x7) > x1 then (if x5.length < 17592186044416 then ((some (x5 ++ [x1]:List Int)).bind fun y151 => (if y151.length < 17592186044416 then (beaconref13_insert.l0 k x0 x1 (y151 ++ [rd x0 x7]) true (wrap64 (x7 + 1))) else (none))) else (none)) else (if x5.length < 17592186044416 then (beaconref13_insert.l0 k x0 x1 (x5 ++ [rd x0 x7]) true (wrap64 (x7 + 1))) else (none))) else (none)) else (none)) else (if 0 ≤ x7 then (if x7 < (x0.length:Int) then (if x5.length < 17592186044416 then (beaconref13_insert.l0 k x0 x1 (x5 ++ [rd x0 x7]) x6 (wrap64 (x7 + 1))) else (none)) else (none)) else (none))
end
def beaconref13_insert.f (k:Nat) (l0:List Int) (a1:Int):Option (List Int):=beaconref13_insert.l0 k l0 a1 (([]:List Int)) false 0
set_option maxHeartbeats 8000000 in
set_option maxRecDepth 100000 in
theorem beaconref13_insert.calls (k:Nat) (A0:Option Addr) (c0:Nat) (l0:List Int) (a1:Int) (r:List Int) (w:World) (hr0:Kd.C (Kd.int .i64) w A0 l0.length l0) (hc0:l0.length ≤ c0) (h:beaconref13_insert.f k l0 a1 = some r) :
  Calls Try.prog 77 #[.slice A0 l0.length c0,.int .i64 a1] w fun e w' => ∃ v0_:Value,e = .returned (v0_) ∧ Kd.R (Kd.int .i64) 3 w' w.heap.size (fun _ => True) v0_ r ∧ Below w.heap.size w w':=by
 have HR0:=Aside0.mk hr0
 have HC0:=Aside0.mk hc0
 clear hr0 hc0
 have HB:=Aside0.mk (Below.refl w.heap.size w)
 have H:(beaconref13_insert.l0 k l0 a1 (([]:List Int)) false 0) = some r:=h
 clear h
 obtain ⟨y146,hy146⟩:∃ y_:List Int,y_ = (([]:List Int)):=⟨_,rfl⟩
 replace H:(beaconref13_insert.l0 k l0 a1 y146 false 0) = some r:=by first | (rw [hy146];with_reducible exact H) | (have H2_:=(Option.bind_some _ _).symm.trans H;rw [hy146];with_reducible exact H2_) | (have H2_:=(Option.bind_some _ _).symm.trans H;with_reducible exact H2_) | with_reducible exact H | (rw [hy146];exact H) | exact H
 have Ny146:=Aside0.mk hy146
 clear hy146
 have H':=Aside0.mk H
 clear H
 go_enter Try.func77,Try.ntmps77
 go_wp2_with (first | ((with_reducible refine gate_dst (N:=8) rfl ?_);refine Kd.R_lit (Kd.int .i64) _ 3 ?hg (N:=8) ?hd (xs:=([]:List Int)) (inner:=[]) (ok:=fun _ => True) (okp:=fun _ => True) ?hr ?hp (fun _ hk => hk) trivial (Below.refl _ _) (Nat.le_refl _) (by simp) ?_;(case hd => rfl);(case hg => rfl);(case hr => first | (go_simp;done) | (go_simp;rfl));(case hp => exact (Reps.none _ _));intro v147 w3 ho4 hb hg_ hnew_;clear hg_ hnew_;(first | rw [← Ny146.out] at ho4 | (simp only [Int.reduceToNat] at ho4;rw [← Ny146.out] at ho4));have n0_:=Aside0.mk (Kd.R_lower ho4 (below_size (by repeat (first | (with_reducible first | exact HB.out | apply below_alloc | apply pw_below_drewN | apply below_drew1) | exact HB.out))));have n1_:=Aside0.mk (below_step (by repeat (first | (with_reducible first | exact HB.out | apply below_alloc | apply pw_below_drewN | apply below_drew1) | exact HB.out)) hb);clear HB;have HO148:=n0_;have HB:=n1_;clear n0_ n1_;clear hb ho4))
 go_loopg [5,6,7] k (fun kq v5 v6 v7 w' => ∃ (x5_1:List Int) (x6_1:Bool) (x7_1:Int),v6 = .bool x6_1 ∧ v7 = .int .i64 x7_1 ∧ Aside0 (beaconref13_insert.l0 kq l0 a1 x5_1 x6_1 x7_1 = some r) ∧ Aside0 (kq ≤ k) ∧ Aside0 (Kd.R (Kd.int .i64) 3 w' w.heap.size (fun _ => True) v5 x5_1) ∧ Aside0 (Below w.heap.size w w'))
 case atStart => exact ⟨(y146),(false),(0),(by first | rfl | (simp;done) | (simp [*];done)),(by first | rfl | (simp;done) | (simp [*];done)),H',⟨Nat.le_refl _⟩,⟨by (with_reducible repeat (first | apply Kd.R_alloc | apply Kd.R_drewN | apply Kd.R_drew));exact HO148.out⟩,⟨by repeat (first | (with_reducible first | exact HB.out | apply below_alloc | apply pw_below_drewN | apply below_drew1) | exact HB.out)⟩⟩
 case round =>
  clear H'
  obtain ⟨x5_1,x6_1,x7_1,rfl,rfl,HA,HK1,HO_5,HB⟩:=hrel
  cases gk with
  | zero => exact absurd HA.out (by simp [beaconref13_insert.l0])
  | succ k1 =>
   have H:=HA.out
   clear HA
   simp only [beaconref13_insert.l0] at H
   by_cases c5:x7_1 < (l0.length:Int)
   rotate_left
   ·rw [if_neg c5] at H
    have c5b0:decide (x7_1 < (l0.length:Int)) = false:=decide_eq_false c5
    clear c5
    by_cases c23:x6_1 = true
    ·subst c23
     have H1:(some x5_1) = some r:=by rw [if_pos rfl] at H;exact H
     clear H
     have H:=H1
     clear H1
     obtain rfl:=Option.some.inj H
     go_wp2
     go_ret
     exact ⟨_,by first | rfl | (simp [errW_none,errW_some] <;> rfl) | (simp [*,errW_none,errW_some] <;> rfl),by (with_reducible repeat (first | apply Kd.R_alloc | apply Kd.R_drewN | apply Kd.R_drew));exact HO_5.out,by repeat (first | (with_reducible first | exact HB.out | apply below_alloc | apply pw_below_drewN | apply below_drew1) | exact HB.out)⟩
    replace c23:=Bool.eq_false_iff.mpr c23
    subst c23
    have H1:(if x5_1.length < 17592186044416 then (some (x5_1 ++ [a1])) else (none)) = some r:=by rw [if_neg (show ¬ (false = true) by decide)] at H;exact H
    clear H
    have H:=H1
    clear H1
    by_cases c24:x5_1.length < 17592186044416
    ·rw [if_pos c24] at H
     have LMc24:=Aside0.mk c24
     clear c24
     obtain ⟨y166,hy166⟩:∃ y_:List Int,y_ = (x5_1 ++ [a1]):=⟨_,rfl⟩
     replace H:(some y166) = some r:=by first | (rw [hy166];with_reducible exact H) | (have H2_:=(Option.bind_some _ _).symm.trans H;rw [hy166];with_reducible exact H2_) | (have H2_:=(Option.bind_some _ _).symm.trans H;with_reducible exact H2_) | with_reducible exact H | (rw [hy166];exact H) | exact H
     have Ny166:=Aside0.mk hy166
     clear hy166
     obtain rfl:=Option.some.inj H
     go_wp2_with (first | ((with_reducible refine gate_builtin (b:=.append) (xs:=#[.tmp 44,.tmp 46]) rfl ?_);at_builtin;refine Kd.R_append (Kd.int .i64) (w0:=w) w.heap.size rfl (.tmp 44) (.tmp 46) 68 3 (.int .i64 0) 8 rfl Try.underlying68 info3 rfl (by decide) (by omega) u5 x5_1 a1 [.int .i64 a1] (fun _ => True) (fun _ => False) rfl rfl ?aP (fun _ hk => hk.elim) ?aF ?aO ?aB ?aS ?aL ?_;(case aP => exact rfl);(case aB => exact (by repeat (first | (with_reducible first | exact HB.out | apply below_alloc | apply pw_below_drewN | apply below_drew1) | exact HB.out)));(case aF => exact (fun _ _ => trivial));(case aO => exact (by (with_reducible repeat (first | apply Kd.R_alloc | apply Kd.R_drewN | apply Kd.R_drew));exact HO_5.out));(case aS => exact (below_size (by repeat (first | (with_reducible first | exact HB.out | apply below_alloc | apply pw_below_drewN | apply below_drew1) | exact HB.out))));(case aL => have:=LMc24.out;omega);intro v167 w25 ho hb hg hat;rw [← Ny166.out] at ho;have n0_:=Aside0.mk (hb);have n1_:=Aside0.mk (ho);clear HB;clear HO_5;have HB:=n0_;have HO168:=n1_;clear n0_ n1_;clear ho hb hg hat))
     go_ret
     exact ⟨_,by first | rfl | (simp [errW_none,errW_some] <;> rfl) | (simp [*,errW_none,errW_some] <;> rfl),by (with_reducible repeat (first | apply Kd.R_alloc | apply Kd.R_drewN | apply Kd.R_drew));exact HO168.out,by repeat (first | (with_reducible first | exact HB.out | apply below_alloc | apply pw_below_drewN | apply below_drew1) | exact HB.out)⟩
    rw [if_neg c24] at H
    exact absurd H (by simp)
   rw [if_pos c5] at H
   have c5b0:decide (x7_1 < (l0.length:Int)) = true:=decide_eq_true c5
   clear c5
   have HC6:=Aside0.mk H
   clear H
   go_upto_region 5 with (fail)
   go_cut [24] (fun v24 wc => ∃ (kq:Nat) (x24_5:Bool),v24 = .bool x24_5 ∧ Aside0 (beaconref13_insert.j1 kq l0 a1 x5_1 x6_1 x7_1 x24_5 = some r) ∧ Aside0 (kq ≤ k1) ∧ Aside0 (Kd.R (Kd.int .i64) 3 wc w.heap.size (fun _ => True) u5 x5_1) ∧ Aside0 (Below w.heap.size w wc))
   case first =>
    have H:=HC6.out
    clear HC6
    by_cases c7:x6_1 = true
    ·subst c7
     have H1:(beaconref13_insert.j1 k1 l0 a1 x5_1 true x7_1 false) = some r:=by rw [if_pos rfl] at H;exact H
     clear H
     have H:=H1
     clear H1
     have H':=Aside0.mk H
     clear H
     go_wp2
     go_meet
     case rel => exact ⟨_,(false),(by first | rfl | (simp;done) | (simp [*];done)),H',⟨by have:=HK1.out;first | omega | exact Nat.le_refl _⟩,⟨by (with_reducible repeat (first | apply Kd.R_alloc | apply Kd.R_drewN | apply Kd.R_drew));exact HO_5.out⟩,⟨by repeat (first | (with_reducible first | exact HB.out | apply below_alloc | apply pw_below_drewN | apply below_drew1) | exact HB.out)⟩⟩
    replace c7:=Bool.eq_false_iff.mpr c7
    subst c7
    have H1:(if 0 ≤ x7_1 then (beaconref13_insert.j1 k1 l0 a1 x5_1 false x7_1 (decide ((rd l0 x7_1) ≥ a1))) else (none)) = some r:=by rw [if_neg (show ¬ (false = true) by decide)] at H;exact H
    clear H
    have H:=H1
    clear H1
    by_cases c8:0 ≤ x7_1
    ·rw [if_pos c8] at H
     have c8b0:decide (0 ≤ x7_1) = true:=decide_eq_true c8
     clear c8
     (first | rw [c8b0] | (simp only [i64_w,i32_w];rw [c8b0]) | skip)
     have H':=Aside0.mk H
     clear H
     have p149:0 ≤ (x7_1:Int):=of_decide_eq_true (by first | (with_reducible assumption) | assumption)
     have q149:x7_1 < (l0.length:Int):=of_decide_eq_true (by first | (with_reducible assumption) | assumption)
     obtain ⟨ad149,e149,hx149_0⟩:=Kd.at_int HR0.out x7_1 p149 q149
     cases e149
     replace hx149_0:=(HB.out.cell (World.block_lt_of_cell? w _ hx149_0)).trans hx149_0
     replace p149:=eq_true p149
     replace q149:=eq_true q149
     go_wp2
     go_meet
     case rel => exact ⟨_,(decide ((rd l0 x7_1) ≥ a1)),(by first | rfl | (simp;done) | (simp [*];done)),H',⟨by have:=HK1.out;first | omega | exact Nat.le_refl _⟩,⟨by (with_reducible repeat (first | apply Kd.R_alloc | apply Kd.R_drewN | apply Kd.R_drew));exact HO_5.out⟩,⟨by repeat (first | (with_reducible first | exact HB.out | apply below_alloc | apply pw_below_drewN | apply below_drew1) | exact HB.out)⟩⟩
    rw [if_neg c8] at H
    exact absurd H (by simp)
   case rest =>
    clear HC6
    obtain ⟨kq,x24_5,rfl,HA,HJ5,HO_5,HB⟩:=hcut
    cases kq with
    | zero => exact absurd HA.out (by simp [beaconref13_insert.j1])
    | succ kj5 =>
     have H:=HA.out
     clear HA
     simp only [beaconref13_insert.j1] at H
     by_cases c9:x24_5 = true
     rotate_left
     ·replace c9:=Bool.eq_false_iff.mpr c9
      subst c9
      have H1:(if 0 ≤ x7_1 then (if x7_1 < (l0.length:Int) then (if x5_1.length < 17592186044416 then (beaconref13_insert.l0 kj5 l0 a1 (x5_1 ++ [rd l0 x7_1]) x6_1 (wrap64 (x7_1 + 1))) else (none)) else (none)) else (none)) = some r:=by rw [if_neg (show ¬ (false = true) by decide)] at H;exact H
      clear H
      have H:=H1
      clear H1
      by_cases c19:0 ≤ x7_1
      rotate_left
      ·rw [if_neg c19] at H
       exact absurd H (by simp)
      rw [if_pos c19] at H
      have c19b0:decide (0 ≤ x7_1) = true:=decide_eq_true c19
      clear c19
      by_cases c20:x7_1 < (l0.length:Int)
      ·rw [if_pos c20] at H
       have c20b0:decide (x7_1 < (l0.length:Int)) = true:=decide_eq_true c20
       clear c20
       by_cases c21:x5_1.length < 17592186044416
       ·rw [if_pos c21] at H
        have LMc21:=Aside0.mk c21
        clear c21
        obtain ⟨y163,hy163⟩:∃ y_:List Int,y_ = (x5_1 ++ [rd l0 x7_1]):=⟨_,rfl⟩
        replace H:(beaconref13_insert.l0 kj5 l0 a1 y163 x6_1 (wrap64 (x7_1 + 1))) = some r:=by first | (rw [hy163];with_reducible exact H) | (have H2_:=(Option.bind_some _ _).symm.trans H;rw [hy163];with_reducible exact H2_) | (have H2_:=(Option.bind_some _ _).symm.trans H;with_reducible exact H2_) | with_reducible exact H | (rw [hy163];exact H) | exact H
        have Ny163:=Aside0.mk hy163
        clear hy163
        have H':=Aside0.mk H
        clear H
        have p162:0 ≤ (x7_1:Int):=of_decide_eq_true (by first | (with_reducible assumption) | assumption)
        have q162:x7_1 < (l0.length:Int):=of_decide_eq_true (by first | (with_reducible assumption) | assumption)
        obtain ⟨ad162,e162,hx162_0⟩:=Kd.at_int HR0.out x7_1 p162 q162
        cases e162
        replace hx162_0:=(HB.out.cell (World.block_lt_of_cell? w _ hx162_0)).trans hx162_0
        replace p162:=eq_true p162
        replace q162:=eq_true q162
        go_wp2_with (first | ((with_reducible refine gate_builtin (b:=.append) (xs:=#[.tmp 35,.tmp 40]) rfl ?_);at_builtin;refine Kd.R_append (Kd.int .i64) (w0:=w) w.heap.size rfl (.tmp 35) (.tmp 40) 68 3 (.int .i64 0) 8 rfl Try.underlying68 info3 rfl (by decide) (by omega) u5 x5_1 (rd l0 x7_1) [.int .i64 (rd l0 x7_1)] (fun _ => True) (fun _ => False) rfl rfl ?aP (fun _ hk => hk.elim) ?aF ?aO ?aB ?aS ?aL ?_;(case aP => exact rfl);(case aB => exact (by repeat (first | (with_reducible first | exact HB.out | apply below_alloc | apply pw_below_drewN | apply below_drew1) | exact HB.out)));(case aF => exact (fun _ _ => trivial));(case aO => exact (by (with_reducible repeat (first | apply Kd.R_alloc | apply Kd.R_drewN | apply Kd.R_drew));exact HO_5.out));(case aS => exact (below_size (by repeat (first | (with_reducible first | exact HB.out | apply below_alloc | apply pw_below_drewN | apply below_drew1) | exact HB.out))));(case aL => have:=LMc21.out;omega);intro v164 w22 ho hb hg hat;rw [← Ny163.out] at ho;have n0_:=Aside0.mk (hb);have n1_:=Aside0.mk (ho);clear HB;clear HO_5;have HB:=n0_;have HO165:=n1_;clear n0_ n1_;clear ho hb hg hat))
        go_roundg kj5
        case measure => have:=HK1.out;have:=HJ5.out;omega
        case rel => exact ⟨(y163),(x6_1),(wrap64 (x7_1 + 1)),(by first | rfl | (simp;done) | (simp [*];done)),(by first | rfl | (simp;done) | (simp [*];done)),H',⟨by have:=HK1.out;have:=HJ5.out;omega⟩,⟨by (with_reducible repeat (first | apply Kd.R_alloc | apply Kd.R_drewN | apply Kd.R_drew));exact HO165.out⟩,⟨by repeat (first | (with_reducible first | exact HB.out | apply below_alloc | apply pw_below_drewN | apply below_drew1) | exact HB.out)⟩⟩
       rw [if_neg c21] at H
       exact absurd H (by simp)
      rw [if_neg c20] at H
      exact absurd H (by simp)
     subst c9
     have H1:(if 0 ≤ x7_1 then (if x7_1 < (l0.length:Int) then (if (rd l0 x7_1) > a1 then (if x5_1.length < 17592186044416 then ((some (x5_1 ++ [a1]:List Int)).bind fun y151 => (if y151.length < 17592186044416 then (beaconref13_insert.l0 kj5 l0 a1 (y151 ++ [rd l0 x7_1]) true (wrap64 (x7_1 + 1))) else (none))) else (none)) else (if x5_1.length < 17592186044416 then (beaconref13_insert.l0 kj5 l0 a1 (x5_1 ++ [rd l0 x7_1]) true (wrap64 (x7_1 + 1))) else (none))) else (none)) else (none)) = some r:=by rw [if_pos rfl] at H;exact H
     clear H
     have H:=H1
     clear H1
     by_cases c10:0 ≤ x7_1
     rotate_left
     ·rw [if_neg c10] at H
      exact absurd H (by simp)
     rw [if_pos c10] at H
     have c10b0:decide (0 ≤ x7_1) = true:=decide_eq_true c10
     clear c10
     by_cases c11:x7_1 < (l0.length:Int)
     rotate_left
     ·rw [if_neg c11] at H
      exact absurd H (by simp)
     rw [if_pos c11] at H
     have c11b0:decide (x7_1 < (l0.length:Int)) = true:=decide_eq_true c11
     clear c11
     by_cases c12:(rd l0 x7_1) > a1
     ·rw [if_pos c12] at H
      have c12b0:decide (a1 < (rd l0 x7_1)) = true:=decide_eq_true c12
      clear c12
      by_cases c13:x5_1.length < 17592186044416
      rotate_left
      ·rw [if_neg c13] at H
       exact absurd H (by simp)
      rw [if_pos c13] at H
      have LMc13:=Aside0.mk c13
      clear c13
      obtain ⟨y151,hy151⟩:∃ y_:List Int,y_ = (x5_1 ++ [a1]):=⟨_,rfl⟩
      replace H:(if y151.length < 17592186044416 then (beaconref13_insert.l0 kj5 l0 a1 (y151 ++ [rd l0 x7_1]) true (wrap64 (x7_1 + 1))) else (none)) = some r:=by first | (rw [hy151];with_reducible exact H) | (have H2_:=(Option.bind_some _ _).symm.trans H;rw [hy151];with_reducible exact H2_) | (have H2_:=(Option.bind_some _ _).symm.trans H;with_reducible exact H2_) | with_reducible exact H | (rw [hy151];exact H) | exact H
      have Ny151:=Aside0.mk hy151
      clear hy151
      by_cases c14:y151.length < 17592186044416
      ·rw [if_pos c14] at H
       have LMc14:=Aside0.mk c14
       clear c14
       obtain ⟨y155,hy155⟩:∃ y_:List Int,y_ = (y151 ++ [rd l0 x7_1]):=⟨_,rfl⟩
       replace H:(beaconref13_insert.l0 kj5 l0 a1 y155 true (wrap64 (x7_1 + 1))) = some r:=by first | (rw [hy155];with_reducible exact H) | (have H2_:=(Option.bind_some _ _).symm.trans H;rw [hy155];with_reducible exact H2_) | (have H2_:=(Option.bind_some _ _).symm.trans H;with_reducible exact H2_) | with_reducible exact H | (rw [hy155];exact H) | exact H
       have Ny155:=Aside0.mk hy155
       clear hy155
       have H':=Aside0.mk H
       clear H
       have p150:0 ≤ (x7_1:Int):=of_decide_eq_true (by first | (with_reducible assumption) | assumption)
       have q150:x7_1 < (l0.length:Int):=of_decide_eq_true (by first | (with_reducible assumption) | assumption)
       obtain ⟨ad150,e150,hx150_0⟩:=Kd.at_int HR0.out x7_1 p150 q150
       cases e150
       replace hx150_0:=(HB.out.cell (World.block_lt_of_cell? w _ hx150_0)).trans hx150_0
       replace p150:=eq_true p150
       replace q150:=eq_true q150
       go_wp2_with (first | ((with_reducible refine gate_builtin (b:=.append) (xs:=#[.tmp 31,.tmp 33]) rfl ?_);at_builtin;refine Kd.R_append (Kd.int .i64) (w0:=w) w.heap.size rfl (.tmp 31) (.tmp 33) 68 3 (.int .i64 0) 8 rfl Try.underlying68 info3 rfl (by decide) (by omega) u5 x5_1 a1 [.int .i64 a1] (fun _ => True) (fun _ => False) rfl rfl ?aP (fun _ hk => hk.elim) ?aF ?aO ?aB ?aS ?aL ?_;(case aP => exact rfl);(case aB => exact (by repeat (first | (with_reducible first | exact HB.out | apply below_alloc | apply pw_below_drewN | apply below_drew1) | exact HB.out)));(case aF => exact (fun _ _ => trivial));(case aO => exact (by (with_reducible repeat (first | apply Kd.R_alloc | apply Kd.R_drewN | apply Kd.R_drew));exact HO_5.out));(case aS => exact (below_size (by repeat (first | (with_reducible first | exact HB.out | apply below_alloc | apply pw_below_drewN | apply below_drew1) | exact HB.out))));(case aL => have:=LMc13.out;omega);intro v152 w15 ho hb hg hat;rw [← Ny151.out] at ho;have n0_:=Aside0.mk (hb);have n1_:=Aside0.mk (ho);clear HB;clear HO_5;have HB:=n0_;have HO153:=n1_;clear n0_ n1_;clear ho hb hg hat;have p154:0 ≤ (x7_1:Int):=of_decide_eq_true (by first | (with_reducible assumption) | assumption);have q154:x7_1 < (l0.length:Int):=of_decide_eq_true (by first | (with_reducible assumption) | assumption);obtain ⟨ad154,e154,hx154_0⟩:=Kd.at_int HR0.out x7_1 p154 q154;obtain rfl:ad150 = ad154:=(by injection e154);replace hx154_0:=(HB.out.cell (World.block_lt_of_cell? w _ hx154_0)).trans hx154_0;replace p154:=eq_true p154;replace q154:=eq_true q154) | ((with_reducible refine gate_builtin (b:=.append) (xs:=#[.tmp 35,.tmp 40]) rfl ?_);at_builtin;refine Kd.R_append (Kd.int .i64) (w0:=w) w.heap.size rfl (.tmp 35) (.tmp 40) 68 3 (.int .i64 0) 8 rfl Try.underlying68 info3 rfl (by decide) (by omega) v152 y151 (rd l0 x7_1) [.int .i64 (rd l0 x7_1)] (fun _ => True) (fun _ => False) rfl rfl ?aP (fun _ hk => hk.elim) ?aF ?aO ?aB ?aS ?aL ?_;(case aP => exact rfl);(case aB => exact (by repeat (first | (with_reducible first | exact HB.out | apply below_alloc | apply pw_below_drewN | apply below_drew1) | exact HB.out)));(case aF => exact (fun _ _ => trivial));(case aO => exact (by (with_reducible repeat (first | apply Kd.R_alloc | apply Kd.R_drewN | apply Kd.R_drew));exact HO153.out));(case aS => exact (below_size (by repeat (first | (with_reducible first | exact HB.out | apply below_alloc | apply pw_below_drewN | apply below_drew1) | exact HB.out))));(case aL => have:=LMc14.out;omega);intro v156 w16 ho hb hg hat;rw [← Ny155.out] at ho;have n0_:=Aside0.mk (hb);have n1_:=Aside0.mk (ho);clear HB;clear HO153;have HB:=n0_;have HO157:=n1_;clear n0_ n1_;clear ho hb hg hat))
       go_roundg kj5
       case measure => have:=HK1.out;have:=HJ5.out;omega
       case rel => exact ⟨(y155),(true),(wrap64 (x7_1 + 1)),(by first | rfl | (simp;done) | (simp [*];done)),(by first | rfl | (simp;done) | (simp [*];done)),H',⟨by have:=HK1.out;have:=HJ5.out;omega⟩,⟨by (with_reducible repeat (first | apply Kd.R_alloc | apply Kd.R_drewN | apply Kd.R_drew));exact HO157.out⟩,⟨by repeat (first | (with_reducible first | exact HB.out | apply below_alloc | apply pw_below_drewN | apply below_drew1) | exact HB.out)⟩⟩
      rw [if_neg c14] at H
      exact absurd H (by simp)
     rw [if_neg c12] at H
     have c12b0:decide (a1 < (rd l0 x7_1)) = false:=decide_eq_false c12
     clear c12
     by_cases c17:x5_1.length < 17592186044416
     ·rw [if_pos c17] at H
      have LMc17:=Aside0.mk c17
      clear c17
      obtain ⟨y159,hy159⟩:∃ y_:List Int,y_ = (x5_1 ++ [rd l0 x7_1]):=⟨_,rfl⟩
      replace H:(beaconref13_insert.l0 kj5 l0 a1 y159 true (wrap64 (x7_1 + 1))) = some r:=by first | (rw [hy159];with_reducible exact H) | (have H2_:=(Option.bind_some _ _).symm.trans H;rw [hy159];with_reducible exact H2_) | (have H2_:=(Option.bind_some _ _).symm.trans H;with_reducible exact H2_) | with_reducible exact H | (rw [hy159];exact H) | exact H
      have Ny159:=Aside0.mk hy159
      clear hy159
      have H':=Aside0.mk H
      clear H
      have p150:0 ≤ (x7_1:Int):=of_decide_eq_true (by first | (with_reducible assumption) | assumption)
      have q150:x7_1 < (l0.length:Int):=of_decide_eq_true (by first | (with_reducible assumption) | assumption)
      obtain ⟨ad150,e150,hx150_0⟩:=Kd.at_int HR0.out x7_1 p150 q150
      cases e150
      replace hx150_0:=(HB.out.cell (World.block_lt_of_cell? w _ hx150_0)).trans hx150_0
      replace p150:=eq_true p150
      replace q150:=eq_true q150
      have p158:0 ≤ (x7_1:Int):=of_decide_eq_true (by first | (with_reducible assumption) | assumption)
      have q158:x7_1 < (l0.length:Int):=of_decide_eq_true (by first | (with_reducible assumption) | assumption)
      obtain ⟨ad158,e158,hx158_0⟩:=Kd.at_int HR0.out x7_1 p158 q158
      obtain rfl:ad150 = ad158:=(by injection e158)
      replace hx158_0:=(HB.out.cell (World.block_lt_of_cell? w _ hx158_0)).trans hx158_0
      replace p158:=eq_true p158
      replace q158:=eq_true q158
      go_wp2_with (first | ((with_reducible refine gate_builtin (b:=.append) (xs:=#[.tmp 35,.tmp 40]) rfl ?_);at_builtin;refine Kd.R_append (Kd.int .i64) (w0:=w) w.heap.size rfl (.tmp 35) (.tmp 40) 68 3 (.int .i64 0) 8 rfl Try.underlying68 info3 rfl (by decide) (by omega) u5 x5_1 (rd l0 x7_1) [.int .i64 (rd l0 x7_1)] (fun _ => True) (fun _ => False) rfl rfl ?aP (fun _ hk => hk.elim) ?aF ?aO ?aB ?aS ?aL ?_;(case aP => exact rfl);(case aB => exact (by repeat (first | (with_reducible first | exact HB.out | apply below_alloc | apply pw_below_drewN | apply below_drew1) | exact HB.out)));(case aF => exact (fun _ _ => trivial));(case aO => exact (by (with_reducible repeat (first | apply Kd.R_alloc | apply Kd.R_drewN | apply Kd.R_drew));exact HO_5.out));(case aS => exact (below_size (by repeat (first | (with_reducible first | exact HB.out | apply below_alloc | apply pw_below_drewN | apply below_drew1) | exact HB.out))));(case aL => have:=LMc17.out;omega);intro v160 w18 ho hb hg hat;rw [← Ny159.out] at ho;have n0_:=Aside0.mk (hb);have n1_:=Aside0.mk (ho);clear HB;clear HO_5;have HB:=n0_;have HO161:=n1_;clear n0_ n1_;clear ho hb hg hat))
      go_roundg kj5
      case measure => have:=HK1.out;have:=HJ5.out;omega
      case rel => exact ⟨(y159),(true),(wrap64 (x7_1 + 1)),(by first | rfl | (simp;done) | (simp [*];done)),(by first | rfl | (simp;done) | (simp [*];done)),H',⟨by have:=HK1.out;have:=HJ5.out;omega⟩,⟨by (with_reducible repeat (first | apply Kd.R_alloc | apply Kd.R_drewN | apply Kd.R_drew));exact HO161.out⟩,⟨by repeat (first | (with_reducible first | exact HB.out | apply below_alloc | apply pw_below_drewN | apply below_drew1) | exact HB.out)⟩⟩
     rw [if_neg c17] at H
     exact absurd H (by simp)
mutual
def beaconref13_Dests.l0:Nat → List (S54) → Int → List Int → Int → Option (List Int)
 | 0,_,_,_,_ => none
 | k + 1,x0,x1,x5,x6 => if x6 < (x0.length:Int) then (beaconref13_Dests.l1 k x0 x1 x5 x6 0) else (some x5)
def beaconref13_Dests.l1:Nat → List (S54) → Int → List Int → Int → Int → Option (List Int)
 | 0,_,_,_,_,_ => none
 | k + 1,x0,x1,x5,x6,x7 => if 0 ≤ x6 then (if x6 < (x0.length:Int) then (if x7 < (((rd_T54 x0 x6).f2).length:Int) then (if 0 ≤ x7 then (if ((rd_T56 ((rd_T54 x0 x6).f2) x7).f1) = x1 then ((beaconref13_insert.f k x5 ((rd_T56 ((rd_T54 x0 x6).f2) x7).f0)).bind fun t177 => (beaconref13_Dests.l1 k x0 x1 t177 x6 (wrap64 (x7 + 1)))) else (beaconref13_Dests.l1 k x0 x1 x5 x6 (wrap64 (x7 + 1)))) else (none)) else (beaconref13_Dests.l0 k x0 x1 x5 (wrap64 (x6 + 1)))) else (none)) else (none)
end
def beaconref13_Dests.f (k:Nat) (l0:List (S54)) (a1:Int):Option (List Int):=beaconref13_Dests.l0 k l0 a1 (([]:List Int)) 0
set_option maxHeartbeats 8000000 in
set_option maxRecDepth 100000 in
theorem beaconref13_Dests.calls (k:Nat) (A0:Option Addr) (c0:Nat) (l0:List (S54)) (a1:Int) (r:List Int) (w:World) (hr0:Kd.C k54 w A0 l0.length l0) (hc0:l0.length ≤ c0) (h:beaconref13_Dests.f k l0 a1 = some r) :
  Calls Try.prog 45 #[.slice A0 l0.length c0,.int .i64 a1] w fun e w' => ∃ v0_:Value,e = .returned (v0_) ∧ Kd.R (Kd.int .i64) 3 w' w.heap.size (fun _ => True) v0_ r ∧ Below w.heap.size w w':=by
 have HR0:=Aside0.mk hr0
 have HC0:=Aside0.mk hc0
 clear hr0 hc0
 have HB:=Aside0.mk (Below.refl w.heap.size w)
 have H:(beaconref13_Dests.l0 k l0 a1 (([]:List Int)) 0) = some r:=h
 clear h
 obtain ⟨y169,hy169⟩:∃ y_:List Int,y_ = (([]:List Int)):=⟨_,rfl⟩
 replace H:(beaconref13_Dests.l0 k l0 a1 y169 0) = some r:=by first | (rw [hy169];with_reducible exact H) | (have H2_:=(Option.bind_some _ _).symm.trans H;rw [hy169];with_reducible exact H2_) | (have H2_:=(Option.bind_some _ _).symm.trans H;with_reducible exact H2_) | with_reducible exact H | (rw [hy169];exact H) | exact H
 have Ny169:=Aside0.mk hy169
 clear hy169
 have H':=Aside0.mk H
 clear H
 go_enter Try.func45,Try.ntmps45
 go_wp2_with (first | ((with_reducible refine gate_dst (N:=8) rfl ?_);refine Kd.R_lit (Kd.int .i64) _ 3 ?hg (N:=8) ?hd (xs:=([]:List Int)) (inner:=[]) (ok:=fun _ => True) (okp:=fun _ => True) ?hr ?hp (fun _ hk => hk) trivial (Below.refl _ _) (Nat.le_refl _) (by simp) ?_;(case hd => rfl);(case hg => rfl);(case hr => first | (go_simp;done) | (go_simp;rfl));(case hp => exact (Reps.none _ _));intro v170 w3 ho4 hb hg_ hnew_;clear hg_ hnew_;(first | rw [← Ny169.out] at ho4 | (simp only [Int.reduceToNat] at ho4;rw [← Ny169.out] at ho4));have n0_:=Aside0.mk (Kd.R_lower ho4 (below_size (by repeat (first | (with_reducible first | exact HB.out | apply below_alloc | apply pw_below_drewN | apply below_drew1) | exact HB.out))));have n1_:=Aside0.mk (below_step (by repeat (first | (with_reducible first | exact HB.out | apply below_alloc | apply pw_below_drewN | apply below_drew1) | exact HB.out)) hb);clear HB;have HO171:=n0_;have HB:=n1_;clear n0_ n1_;clear hb ho4))
 go_loopg [5,6] k (fun kq v5 v6 w' => ∃ (x5_1:List Int) (x6_1:Int),v6 = .int .i64 x6_1 ∧ Aside0 (beaconref13_Dests.l0 kq l0 a1 x5_1 x6_1 = some r) ∧ Aside0 (kq ≤ k) ∧ Aside0 (Kd.R (Kd.int .i64) 3 w' w.heap.size (fun _ => True) v5 x5_1) ∧ Aside0 (Below w.heap.size w w'))
 case atStart => exact ⟨(y169),(0),(by first | rfl | (simp;done) | (simp [*];done)),H',⟨Nat.le_refl _⟩,⟨by (with_reducible repeat (first | apply Kd.R_alloc | apply Kd.R_drewN | apply Kd.R_drew));exact HO171.out⟩,⟨by repeat (first | (with_reducible first | exact HB.out | apply below_alloc | apply pw_below_drewN | apply below_drew1) | exact HB.out)⟩⟩
 case round =>
  clear H'
  obtain ⟨x5_1,x6_1,rfl,HA,HK1,HO_5,HB⟩:=hrel
  cases gk with
  | zero => exact absurd HA.out (by simp [beaconref13_Dests.l0])
  | succ k1 =>
   have H:=HA.out
   clear HA
   simp only [beaconref13_Dests.l0] at H
   by_cases c5:x6_1 < (l0.length:Int)
   rotate_left
   ·rw [if_neg c5] at H
    have c5b0:decide (x6_1 < (l0.length:Int)) = false:=decide_eq_false c5
    clear c5
    obtain rfl:=Option.some.inj H
    go_wp2
    go_ret
    exact ⟨_,by first | rfl | (simp [errW_none,errW_some] <;> rfl) | (simp [*,errW_none,errW_some] <;> rfl),by (with_reducible repeat (first | apply Kd.R_alloc | apply Kd.R_drewN | apply Kd.R_drew));exact HO_5.out,by repeat (first | (with_reducible first | exact HB.out | apply below_alloc | apply pw_below_drewN | apply below_drew1) | exact HB.out)⟩
   rw [if_pos c5] at H
   have c5b0:decide (x6_1 < (l0.length:Int)) = true:=decide_eq_true c5
   clear c5
   have H':=Aside0.mk H
   clear H
   go_wp2
   go_loopg [5,7] k1 (fun kq v5 v7 w' => ∃ (x5_2:List Int) (x7_2:Int),v7 = .int .i64 x7_2 ∧ Aside0 (beaconref13_Dests.l1 kq l0 a1 x5_2 x6_1 x7_2 = some r) ∧ Aside0 (kq ≤ k1) ∧ Aside0 (Kd.R (Kd.int .i64) 3 w' w.heap.size (fun _ => True) v5 x5_2) ∧ Aside0 (Below w.heap.size w w'))
   case atStart => exact ⟨(x5_1),(0),(by first | rfl | (simp;done) | (simp [*];done)),H',⟨Nat.le_refl _⟩,⟨by (with_reducible repeat (first | apply Kd.R_alloc | apply Kd.R_drewN | apply Kd.R_drew));exact HO_5.out⟩,⟨by repeat (first | (with_reducible first | exact HB.out | apply below_alloc | apply pw_below_drewN | apply below_drew1) | exact HB.out)⟩⟩
   case round =>
    clear H'
    obtain ⟨x5_2,x7_2,rfl,HA,HK2,HO_5,HB⟩:=hrel
    cases gk with
    | zero => exact absurd HA.out (by simp [beaconref13_Dests.l1])
    | succ k2 =>
     have H:=HA.out
     clear HA
     simp only [beaconref13_Dests.l1] at H
     by_cases c6:0 ≤ x6_1
     rotate_left
     ·rw [if_neg c6] at H
      exact absurd H (by simp)
     rw [if_pos c6] at H
     have c6b0:decide (0 ≤ x6_1) = true:=decide_eq_true c6
     clear c6
     by_cases c7:x6_1 < (l0.length:Int)
     rotate_left
     ·rw [if_neg c7] at H
      exact absurd H (by simp)
     rw [if_pos c7] at H
     have c7b0:decide (x6_1 < (l0.length:Int)) = true:=decide_eq_true c7
     clear c7
     by_cases c8:x7_2 < (((rd_T54 l0 x6_1).f2).length:Int)
     rotate_left
     ·rw [if_neg c8] at H
      have c8b0:decide (x7_2 < (((rd_T54 l0 x6_1).f2).length:Int)) = false:=decide_eq_false c8
      clear c8
      have H':=Aside0.mk H
      clear H
      have p172:0 ≤ (x6_1:Int):=of_decide_eq_true (by first | (with_reducible assumption) | assumption)
      have q172:x6_1 < (l0.length:Int):=of_decide_eq_true (by first | (with_reducible assumption) | assumption)
      obtain ⟨ad172,A172_2,c172_2,e172,hx172_0,hx172_1,hx172_2,hl172_2,hi172_2⟩:=at_T54 HR0.out x6_1 p172 q172
      cases e172
      replace hx172_0:=(HB.out.cell (World.block_lt_of_cell? w _ hx172_0)).trans hx172_0
      replace hx172_1:=(HB.out.cell (World.block_lt_of_cell? w _ hx172_1)).trans hx172_1
      replace hx172_2:=(HB.out.cell (World.block_lt_of_cell? w _ hx172_2)).trans hx172_2
      have HR172_2:=Aside0.mk hi172_2
      have HC172_2:=Aside0.mk hl172_2
      clear hi172_2 hl172_2
      replace p172:=eq_true p172
      replace q172:=eq_true q172
      go_wp2
      go_roundg k2
      case measure => have:=HK1.out;have:=HK2.out;omega
      case rel => exact ⟨(x5_2),(wrap64 (x6_1 + 1)),(by first | rfl | (simp;done) | (simp [*];done)),H',⟨by have:=HK1.out;have:=HK2.out;omega⟩,⟨by (with_reducible repeat (first | apply Kd.R_alloc | apply Kd.R_drewN | apply Kd.R_drew));exact HO_5.out⟩,⟨by repeat (first | (with_reducible first | exact HB.out | apply below_alloc | apply pw_below_drewN | apply below_drew1) | exact HB.out)⟩⟩
     rw [if_pos c8] at H
     have c8b0:decide (x7_2 < (((rd_T54 l0 x6_1).f2).length:Int)) = true:=decide_eq_true c8
     clear c8
     by_cases c9:0 ≤ x7_2
     rotate_left
     ·rw [if_neg c9] at H
      exact absurd H (by simp)
     rw [if_pos c9] at H
     have c9b0:decide (0 ≤ x7_2) = true:=decide_eq_true c9
     clear c9
     by_cases c10:((rd_T56 ((rd_T54 l0 x6_1).f2) x7_2).f1) = a1
     rotate_left
     ·rw [if_neg c10] at H
      have c10b0:(((rd_T56 ((rd_T54 l0 x6_1).f2) x7_2).f1) == a1) = false:=beq_eq_false_iff_ne.mpr c10
      have c10b1:(((rd_T56 ((rd_T54 l0 x6_1).f2) x7_2).f1) != a1) = true:=bne_iff_ne.mpr c10
      have H':=Aside0.mk H
      clear H
      have p172:0 ≤ (x6_1:Int):=of_decide_eq_true (by first | (with_reducible assumption) | assumption)
      have q172:x6_1 < (l0.length:Int):=of_decide_eq_true (by first | (with_reducible assumption) | assumption)
      obtain ⟨ad172,A172_2,c172_2,e172,hx172_0,hx172_1,hx172_2,hl172_2,hi172_2⟩:=at_T54 HR0.out x6_1 p172 q172
      cases e172
      replace hx172_0:=(HB.out.cell (World.block_lt_of_cell? w _ hx172_0)).trans hx172_0
      replace hx172_1:=(HB.out.cell (World.block_lt_of_cell? w _ hx172_1)).trans hx172_1
      replace hx172_2:=(HB.out.cell (World.block_lt_of_cell? w _ hx172_2)).trans hx172_2
      have HR172_2:=Aside0.mk hi172_2
      have HC172_2:=Aside0.mk hl172_2
      clear hi172_2 hl172_2
      replace p172:=eq_true p172
      replace q172:=eq_true q172
      have p173:0 ≤ (x6_1:Int):=of_decide_eq_true (by first | (with_reducible assumption) | assumption)
      have q173:x6_1 < (l0.length:Int):=of_decide_eq_true (by first | (with_reducible assumption) | assumption)
      obtain ⟨ad173,A173_2,c173_2,e173,hx173_0,hx173_1,hx173_2,hl173_2,hi173_2⟩:=at_T54 HR0.out x6_1 p173 q173
      obtain rfl:ad172 = ad173:=(by injection e173)
      replace hx173_0:=(HB.out.cell (World.block_lt_of_cell? w _ hx173_0)).trans hx173_0
      replace hx173_1:=(HB.out.cell (World.block_lt_of_cell? w _ hx173_1)).trans hx173_1
      replace hx173_2:=(HB.out.cell (World.block_lt_of_cell? w _ hx173_2)).trans hx173_2
      have HR173_2:=Aside0.mk hi173_2
      have HC173_2:=Aside0.mk hl173_2
      clear hi173_2 hl173_2
      replace p173:=eq_true p173
      replace q173:=eq_true q173
      have ea_:=Option.some.inj (hx172_2.symm.trans hx173_2)
      injection ea_ with ea_ en_ ec_
      subst ea_
      subst ec_
      clear en_
      have p174:0 ≤ (x7_2:Int):=of_decide_eq_true (by first | (with_reducible assumption) | assumption)
      have q174:x7_2 < (((rd_T54 l0 x6_1).f2).length:Int):=of_decide_eq_true (by first | (with_reducible assumption) | assumption)
      obtain ⟨ad174,e174,hx174_0,hx174_1,hx174_2,hx174_3,hx174_4⟩:=at_T56 HR173_2.out x7_2 p174 q174
      cases e174
      replace hx174_0:=(HB.out.cell (World.block_lt_of_cell? w _ hx174_0)).trans hx174_0
      replace hx174_1:=(HB.out.cell (World.block_lt_of_cell? w _ hx174_1)).trans hx174_1
      replace hx174_2:=(HB.out.cell (World.block_lt_of_cell? w _ hx174_2)).trans hx174_2
      replace hx174_3:=(HB.out.cell (World.block_lt_of_cell? w _ hx174_3)).trans hx174_3
      replace hx174_4:=(HB.out.cell (World.block_lt_of_cell? w _ hx174_4)).trans hx174_4
      replace p174:=eq_true p174
      replace q174:=eq_true q174
      go_wp2
      go_roundg k2
      case measure => have:=HK1.out;have:=HK2.out;omega
      case rel => exact ⟨(x5_2),(wrap64 (x7_2 + 1)),(by first | rfl | (simp;done) | (simp [*];done)),H',⟨by have:=HK1.out;have:=HK2.out;omega⟩,⟨by (with_reducible repeat (first | apply Kd.R_alloc | apply Kd.R_drewN | apply Kd.R_drew));exact HO_5.out⟩,⟨by repeat (first | (with_reducible first | exact HB.out | apply below_alloc | apply pw_below_drewN | apply below_drew1) | exact HB.out)⟩⟩
     rw [if_pos c10] at H
     have c10b0:(((rd_T56 ((rd_T54 l0 x6_1).f2) x7_2).f1) == a1) = true:=beq_iff_eq.mpr c10
     have c10b1:(((rd_T56 ((rd_T54 l0 x6_1).f2) x7_2).f1) != a1) = false:=bne_eq_false_iff_eq.mpr c10
     clear c10
     replace H:=Option.bind_eq_some_iff.mp H
     obtain ⟨t177,A110,H⟩:=H
     replace H:(beaconref13_Dests.l1 k2 l0 a1 t177 x6_1 (wrap64 (x7_2 + 1))) = some r:=H
     have A11:=Aside0.mk A110
     clear A110
     have H':=Aside0.mk H
     clear H
     have p172:0 ≤ (x6_1:Int):=of_decide_eq_true (by first | (with_reducible assumption) | assumption)
     have q172:x6_1 < (l0.length:Int):=of_decide_eq_true (by first | (with_reducible assumption) | assumption)
     obtain ⟨ad172,A172_2,c172_2,e172,hx172_0,hx172_1,hx172_2,hl172_2,hi172_2⟩:=at_T54 HR0.out x6_1 p172 q172
     cases e172
     replace hx172_0:=(HB.out.cell (World.block_lt_of_cell? w _ hx172_0)).trans hx172_0
     replace hx172_1:=(HB.out.cell (World.block_lt_of_cell? w _ hx172_1)).trans hx172_1
     replace hx172_2:=(HB.out.cell (World.block_lt_of_cell? w _ hx172_2)).trans hx172_2
     have HR172_2:=Aside0.mk hi172_2
     have HC172_2:=Aside0.mk hl172_2
     clear hi172_2 hl172_2
     replace p172:=eq_true p172
     replace q172:=eq_true q172
     have p173:0 ≤ (x6_1:Int):=of_decide_eq_true (by first | (with_reducible assumption) | assumption)
     have q173:x6_1 < (l0.length:Int):=of_decide_eq_true (by first | (with_reducible assumption) | assumption)
     obtain ⟨ad173,A173_2,c173_2,e173,hx173_0,hx173_1,hx173_2,hl173_2,hi173_2⟩:=at_T54 HR0.out x6_1 p173 q173
     obtain rfl:ad172 = ad173:=(by injection e173)
     replace hx173_0:=(HB.out.cell (World.block_lt_of_cell? w _ hx173_0)).trans hx173_0
     replace hx173_1:=(HB.out.cell (World.block_lt_of_cell? w _ hx173_1)).trans hx173_1
     replace hx173_2:=(HB.out.cell (World.block_lt_of_cell? w _ hx173_2)).trans hx173_2
     have HR173_2:=Aside0.mk hi173_2
     have HC173_2:=Aside0.mk hl173_2
     clear hi173_2 hl173_2
     replace p173:=eq_true p173
     replace q173:=eq_true q173
     have ea_:=Option.some.inj (hx172_2.symm.trans hx173_2)
     injection ea_ with ea_ en_ ec_
     subst ea_
     subst ec_
     clear en_
     have p174:0 ≤ (x7_2:Int):=of_decide_eq_true (by first | (with_reducible assumption) | assumption)
     have q174:x7_2 < (((rd_T54 l0 x6_1).f2).length:Int):=of_decide_eq_true (by first | (with_reducible assumption) | assumption)
     obtain ⟨ad174,e174,hx174_0,hx174_1,hx174_2,hx174_3,hx174_4⟩:=at_T56 HR173_2.out x7_2 p174 q174
     cases e174
     replace hx174_0:=(HB.out.cell (World.block_lt_of_cell? w _ hx174_0)).trans hx174_0
     replace hx174_1:=(HB.out.cell (World.block_lt_of_cell? w _ hx174_1)).trans hx174_1
     replace hx174_2:=(HB.out.cell (World.block_lt_of_cell? w _ hx174_2)).trans hx174_2
     replace hx174_3:=(HB.out.cell (World.block_lt_of_cell? w _ hx174_3)).trans hx174_3
     replace hx174_4:=(HB.out.cell (World.block_lt_of_cell? w _ hx174_4)).trans hx174_4
     replace p174:=eq_true p174
     replace q174:=eq_true q174
     have p175:0 ≤ (x6_1:Int):=of_decide_eq_true (by first | (with_reducible assumption) | assumption)
     have q175:x6_1 < (l0.length:Int):=of_decide_eq_true (by first | (with_reducible assumption) | assumption)
     obtain ⟨ad175,A175_2,c175_2,e175,hx175_0,hx175_1,hx175_2,hl175_2,hi175_2⟩:=at_T54 HR0.out x6_1 p175 q175
     obtain rfl:ad172 = ad175:=(by injection e175)
     replace hx175_0:=(HB.out.cell (World.block_lt_of_cell? w _ hx175_0)).trans hx175_0
     replace hx175_1:=(HB.out.cell (World.block_lt_of_cell? w _ hx175_1)).trans hx175_1
     replace hx175_2:=(HB.out.cell (World.block_lt_of_cell? w _ hx175_2)).trans hx175_2
     have HR175_2:=Aside0.mk hi175_2
     have HC175_2:=Aside0.mk hl175_2
     clear hi175_2 hl175_2
     replace p175:=eq_true p175
     replace q175:=eq_true q175
     have ea_:=Option.some.inj (hx172_2.symm.trans hx175_2)
     injection ea_ with ea_ en_ ec_
     subst ea_
     subst ec_
     clear en_
     have p176:0 ≤ (x7_2:Int):=of_decide_eq_true (by first | (with_reducible assumption) | assumption)
     have q176:x7_2 < (((rd_T54 l0 x6_1).f2).length:Int):=of_decide_eq_true (by first | (with_reducible assumption) | assumption)
     obtain ⟨ad176,e176,hx176_0,hx176_1,hx176_2,hx176_3,hx176_4⟩:=at_T56 HR175_2.out x7_2 p176 q176
     cases e176
     replace hx176_0:=(HB.out.cell (World.block_lt_of_cell? w _ hx176_0)).trans hx176_0
     replace hx176_1:=(HB.out.cell (World.block_lt_of_cell? w _ hx176_1)).trans hx176_1
     replace hx176_2:=(HB.out.cell (World.block_lt_of_cell? w _ hx176_2)).trans hx176_2
     replace hx176_3:=(HB.out.cell (World.block_lt_of_cell? w _ hx176_3)).trans hx176_3
     replace hx176_4:=(HB.out.cell (World.block_lt_of_cell? w _ hx176_4)).trans hx176_4
     replace p176:=eq_true p176
     replace q176:=eq_true q176
     obtain ⟨Ao12,co12,eo12⟩:=Kd.R_slice HO_5.out
     subst eo12
     go_wp2_with (first | ((with_reducible refine gate_callee (f:=77) rfl ?_);refine goesL_ (some 46) rfl rfl Try.func77 (by kernel_rfl) rfl #[.slice Ao12 x5_2.length co12,.int .i64 ((rd_T56 ((rd_T54 l0 x6_1).f2) x7_2).f0)] rfl (by (try simp only [List.map_toArray,List.map_cons,List.map_nil]);first | done | rfl | (simp only [List.length_drop,List.length_take];rfl)) ?_;(with_reducible refine (beaconref13_insert.calls k2 _ _ x5_2 ((rd_T56 ((rd_T54 l0 x6_1).f2) x7_2).f0) t177 _ ?side1 ?side2 A11.out).mono ?_);(case side1 => repeat (first | exact (Kd.R_reads' HO_5.out).2.2 | (with_reducible refine Kd.C_alloc ?_ _) | (with_reducible refine Kd.C_drewN ?_ _) | (with_reducible refine Kd.C_drew ?_)));(case side2 => exact (Kd.R_reads' HO_5.out).2.1);rintro e w13 ⟨v178,rfl,ho0,hb⟩;refine ⟨_,rfl,?_⟩;have n0_:=Aside0.mk (Kd.R_elder' (by (with_reducible repeat (first | apply Kd.R_alloc | apply Kd.R_drewN | apply Kd.R_drew));exact HO_5.out) (Kd.R_base ho0) hb);have n1_:=Aside0.mk (Kd.R_lower (Kd.R_new' ho0 (Kd.R_lt (by (with_reducible repeat (first | apply Kd.R_alloc | apply Kd.R_drewN | apply Kd.R_drew));exact HO_5.out))) (below_size (by repeat (first | (with_reducible first | exact HB.out | apply below_alloc | apply pw_below_drewN | apply below_drew1) | exact HB.out))));have n2_:=Aside0.mk (below_step (by repeat (first | (with_reducible first | exact HB.out | apply below_alloc | apply pw_below_drewN | apply below_drew1) | exact HB.out)) hb);clear HO_5;clear HB;have HO_5:=n0_;have HO179:=n1_;have HB:=n2_;clear n0_ n1_ n2_;(try clear hb);(try clear hb2);(try clear hk);(try clear hi);(try clear ho0)))
     go_roundg k2
     case measure => have:=HK1.out;have:=HK2.out;omega
     case rel => exact ⟨(t177),(wrap64 (x7_2 + 1)),(by first | rfl | (simp;done) | (simp [*];done)),H',⟨by have:=HK1.out;have:=HK2.out;omega⟩,⟨by (with_reducible repeat (first | apply Kd.R_alloc | apply Kd.R_drewN | apply Kd.R_drew));exact Kd.R_mono HO179.out (fun _ hk => trivial)⟩,⟨by repeat (first | (with_reducible first | exact HB.out | apply below_alloc | apply pw_below_drewN | apply below_drew1) | exact HB.out)⟩⟩
def beaconref13_find.l0:Nat → List (S56) → Int → Int → Int → Option (Int × Int × Nat × Nat × Int × Bool)
 | 0,_,_,_,_ => none
 | k + 1,x0,x1,x2,x8 => if x8 < (x0.length:Int) then (if 0 ≤ x8 then (if ((rd_T56 x0 x8).f1) = x1 then (if ((rd_T56 x0 x8).f0) = x2 then (some ((rd_T56 x0 x8).f0,(rd_T56 x0 x8).f1,(rd_T56 x0 x8).f2,(rd_T56 x0 x8).f3,(rd_T56 x0 x8).f4,true)) else (beaconref13_find.l0 k x0 x1 x2 (wrap64 (x8 + 1)))) else (beaconref13_find.l0 k x0 x1 x2 (wrap64 (x8 + 1)))) else (none)) else (some (0,0,0,0,0,false))
def beaconref13_find.f (k:Nat) (l0:List (S56)) (a1:Int) (a2:Int):Option (Int × Int × Nat × Nat × Int × Bool):=beaconref13_find.l0 k l0 a1 a2 0
set_option maxHeartbeats 8000000 in
set_option maxRecDepth 100000 in
theorem beaconref13_find.calls (k:Nat) (A0:Option Addr) (c0:Nat) (l0:List (S56)) (a1:Int) (a2:Int) (r1:Int) (r2:Int) (r3:Nat) (r4:Nat) (r5:Int) (r6:Bool) (w:World) (hr0:Kd.C k56 w A0 l0.length l0) (hc0:l0.length ≤ c0) (h:beaconref13_find.f k l0 a1 a2 = some (r1,r2,r3,r4,r5,r6)) :
  Calls Try.prog 78 #[.slice A0 l0.length c0,.int .i64 a1,.int .i64 a2] w fun e w' => e = .returned (.tuple #[.agg #[.int .i64 r1,.int .i64 r2,.float .f64 r3,.float .f64 r4,.int .i64 r5],.bool r6]) ∧ Below w.heap.size w w':=by
 have hu56:=Try.underlying56
 have HR0:=Aside0.mk hr0
 have HC0:=Aside0.mk hc0
 clear hr0 hc0
 have HB:=Aside0.mk (Below.refl w.heap.size w)
 have H:(beaconref13_find.l0 k l0 a1 a2 0) = some (r1,r2,r3,r4,r5,r6):=h
 clear h
 have H':=Aside0.mk H
 clear H
 go_enter Try.func78,Try.ntmps78
 go_wp2_with (first | ((with_reducible refine gate_dst (N:=6) rfl ?_);refine box_event ?hg (N:=6) ?hd (cs:=#[.int .i64 0,.int .i64 0,.float .f64 0,.float .f64 0,.int .i64 0]) (t:=56) ?hr ?_;(case hd => rfl);(case hg => rfl);(case hr => first | (go_simp;done) | (go_simp;rfl));intro gb180 hg w4 hbox hb;have n0_:=Aside0.mk (below_step (by repeat (first | (with_reducible first | exact HB.out | apply below_alloc | apply pw_below_drewN | apply below_drew1) | exact HB.out)) hb);have n1_:=Aside0.mk (hbox);have n2_:=Aside0.mk ((by rw [hg];exact (below_size (by repeat (first | (with_reducible first | exact HB.out | apply below_alloc | apply pw_below_drewN | apply below_drew1) | exact HB.out))):w.heap.size ≤ gb180));have n3_:=Aside0.mk ((by rw [hg];exact (below_size (by repeat (first | (with_reducible first | exact HB.out | apply below_alloc | apply pw_below_drewN | apply below_drew1) | exact HB.out))):w.heap.size ≤ gb180));clear HB;have HB:=n0_;have BK180:=n1_;have GW180:=n2_;have GE180:=n3_;clear n0_ n1_ n2_ n3_;clear hb hbox hg))
 go_loopg [8] k (fun kq v8 w' => ∃ (x8_1:Int) (x181000_1:Int) (x181001_1:Int) (x181002_1:Nat) (x181003_1:Nat) (x181004_1:Int),v8 = .int .i64 x8_1 ∧ Aside0 (beaconref13_find.l0 kq l0 a1 a2 x8_1 = some (r1,r2,r3,r4,r5,r6)) ∧ Aside0 (kq ≤ k) ∧ Aside0 (w'.heap[gb180]? = some (.cells #[.int .i64 x181000_1,.int .i64 x181001_1,.float .f64 x181002_1,.float .f64 x181003_1,.int .i64 x181004_1] 56 (0,0))) ∧ Aside0 (Below w.heap.size w w'))
 case atStart => exact ⟨(0),(0),(0),(0),(0),(0),(by first | rfl | (simp;done) | (simp [*];done)),H',⟨Nat.le_refl _⟩,⟨by (with_reducible repeat (first | refine blk_drewN ?_ _ | refine blk_drew ?_ | refine blk_alloc ?_ _));exact BK180.out⟩,⟨by repeat (first | (with_reducible first | exact HB.out | apply below_alloc | apply pw_below_drewN | apply below_drew1 | refine below_set ?_ GE180.out) | exact HB.out)⟩⟩
 case round =>
  clear H'
  obtain ⟨x8_1,x181000_1,x181001_1,x181002_1,x181003_1,x181004_1,rfl,HA,HK1,BK180,HB⟩:=hrel
  cases gk with
  | zero => exact absurd HA.out (by simp [beaconref13_find.l0])
  | succ k1 =>
   have H:=HA.out
   clear HA
   simp only [beaconref13_find.l0] at H
   by_cases c5:x8_1 < (l0.length:Int)
   rotate_left
   ·rw [if_neg c5] at H
    have c5b0:decide (x8_1 < (l0.length:Int)) = false:=decide_eq_false c5
    clear c5
    simp only [Option.some.injEq,Prod.mk.injEq] at H
    obtain ⟨rfl,rfl,rfl,rfl,rfl,rfl⟩:=H
    have hcz10_0:wr.cell? ⟨gb180,0,none⟩ = some (.int .i64 x181000_1):=(blk_cell BK180.out 0).trans rfl
    have hcz10_1:wr.cell? ⟨gb180,1,none⟩ = some (.int .i64 x181001_1):=(blk_cell BK180.out 1).trans rfl
    have hcz10_2:wr.cell? ⟨gb180,2,none⟩ = some (.float .f64 x181002_1):=(blk_cell BK180.out 2).trans rfl
    have hcz10_3:wr.cell? ⟨gb180,3,none⟩ = some (.float .f64 x181003_1):=(blk_cell BK180.out 3).trans rfl
    have hcz10_4:wr.cell? ⟨gb180,4,none⟩ = some (.int .i64 x181004_1):=(blk_cell BK180.out 4).trans rfl
    have hfz10_0:=blk_frozen BK180.out 0
    have hfz10_1:=blk_frozen BK180.out 1
    have hfz10_2:=blk_frozen BK180.out 2
    have hfz10_3:=blk_frozen BK180.out 3
    have hfz10_4:=blk_frozen BK180.out 4
    go_wp2
    refine bodyPost_ret (results_ct rfl _ _ gb180 56 #[.int .i64 0,.int .i64 0,.float .f64 0,.float .f64 0,.int .i64 0] (0,0) _ rfl (by (with_reducible repeat (first | refine blk_drewN ?_ _ | refine blk_drew ?_ | refine blk_alloc ?_ _));refine blk_put (cs:=#[.int .i64 0,.int .i64 0,.float .f64 0,.float .f64 0,.int .i64 x181004_1]) ?_ 4 _ rfl;(with_reducible repeat (first | refine blk_drewN ?_ _ | refine blk_drew ?_ | refine blk_alloc ?_ _));refine blk_put (cs:=#[.int .i64 0,.int .i64 0,.float .f64 0,.float .f64 x181003_1,.int .i64 x181004_1]) ?_ 3 _ rfl;(with_reducible repeat (first | refine blk_drewN ?_ _ | refine blk_drew ?_ | refine blk_alloc ?_ _));refine blk_put (cs:=#[.int .i64 0,.int .i64 0,.float .f64 x181002_1,.float .f64 x181003_1,.int .i64 x181004_1]) ?_ 2 _ rfl;(with_reducible repeat (first | refine blk_drewN ?_ _ | refine blk_drew ?_ | refine blk_alloc ?_ _));refine blk_put (cs:=#[.int .i64 0,.int .i64 x181001_1,.float .f64 x181002_1,.float .f64 x181003_1,.int .i64 x181004_1]) ?_ 1 _ rfl;(with_reducible repeat (first | refine blk_drewN ?_ _ | refine blk_drew ?_ | refine blk_alloc ?_ _));refine blk_put (cs:=#[.int .i64 x181000_1,.int .i64 x181001_1,.float .f64 x181002_1,.float .f64 x181003_1,.int .i64 x181004_1]) ?_ 0 _ rfl;(with_reducible repeat (first | refine blk_drewN ?_ _ | refine blk_drew ?_ | refine blk_alloc ?_ _));exact BK180.out) Try.underlying56 rfl (by kernel_rfl)) rfl ?_
    exact ⟨by first | rfl | (simp [errW_none,errW_some] <;> rfl) | (simp [*,errW_none,errW_some] <;> rfl),by repeat (first | (with_reducible first | exact HB.out | apply below_alloc | apply pw_below_drewN | apply below_drew1 | refine below_set ?_ GE180.out) | exact HB.out)⟩
   rw [if_pos c5] at H
   have c5b0:decide (x8_1 < (l0.length:Int)) = true:=decide_eq_true c5
   clear c5
   by_cases c6:0 ≤ x8_1
   rotate_left
   ·rw [if_neg c6] at H
    exact absurd H (by simp)
   rw [if_pos c6] at H
   have c6b0:decide (0 ≤ x8_1) = true:=decide_eq_true c6
   clear c6
   by_cases c7:((rd_T56 l0 x8_1).f1) = a1
   rotate_left
   ·rw [if_neg c7] at H
    have c7b0:(((rd_T56 l0 x8_1).f1) == a1) = false:=beq_eq_false_iff_ne.mpr c7
    have c7b1:(((rd_T56 l0 x8_1).f1) != a1) = true:=bne_iff_ne.mpr c7
    have H':=Aside0.mk H
    clear H
    have p181:0 ≤ (x8_1:Int):=of_decide_eq_true (by first | (with_reducible assumption) | assumption)
    have q181:x8_1 < (l0.length:Int):=of_decide_eq_true (by first | (with_reducible assumption) | assumption)
    obtain ⟨ad181,e181,hx181_0,hx181_1,hx181_2,hx181_3,hx181_4⟩:=at_T56 HR0.out x8_1 p181 q181
    cases e181
    replace hx181_0:=(HB.out.cell (World.block_lt_of_cell? w _ hx181_0)).trans hx181_0
    replace hx181_1:=(HB.out.cell (World.block_lt_of_cell? w _ hx181_1)).trans hx181_1
    replace hx181_2:=(HB.out.cell (World.block_lt_of_cell? w _ hx181_2)).trans hx181_2
    replace hx181_3:=(HB.out.cell (World.block_lt_of_cell? w _ hx181_3)).trans hx181_3
    replace hx181_4:=(HB.out.cell (World.block_lt_of_cell? w _ hx181_4)).trans hx181_4
    replace p181:=eq_true p181
    replace q181:=eq_true q181
    go_wp2
    go_roundg k1
    case measure => have:=HK1.out;omega
    case rel => exact ⟨(wrap64 (x8_1 + 1)),(x181000_1),(x181001_1),(x181002_1),(x181003_1),(x181004_1),(by first | rfl | (simp;done) | (simp [*];done)),H',⟨by have:=HK1.out;omega⟩,⟨by (with_reducible repeat (first | refine blk_drewN ?_ _ | refine blk_drew ?_ | refine blk_alloc ?_ _));exact BK180.out⟩,⟨by repeat (first | (with_reducible first | exact HB.out | apply below_alloc | apply pw_below_drewN | apply below_drew1 | refine below_set ?_ GE180.out) | exact HB.out)⟩⟩
   rw [if_pos c7] at H
   have c7b0:(((rd_T56 l0 x8_1).f1) == a1) = true:=beq_iff_eq.mpr c7
   have c7b1:(((rd_T56 l0 x8_1).f1) != a1) = false:=bne_eq_false_iff_eq.mpr c7
   clear c7
   by_cases c8:((rd_T56 l0 x8_1).f0) = a2
   ·rw [if_pos c8] at H
    have c8b0:(((rd_T56 l0 x8_1).f0) == a2) = true:=beq_iff_eq.mpr c8
    have c8b1:(((rd_T56 l0 x8_1).f0) != a2) = false:=bne_eq_false_iff_eq.mpr c8
    clear c8
    simp only [Option.some.injEq,Prod.mk.injEq] at H
    obtain ⟨rfl,rfl,rfl,rfl,rfl,rfl⟩:=H
    have p181:0 ≤ (x8_1:Int):=of_decide_eq_true (by first | (with_reducible assumption) | assumption)
    have q181:x8_1 < (l0.length:Int):=of_decide_eq_true (by first | (with_reducible assumption) | assumption)
    obtain ⟨ad181,e181,hx181_0,hx181_1,hx181_2,hx181_3,hx181_4⟩:=at_T56 HR0.out x8_1 p181 q181
    cases e181
    replace hx181_0:=(HB.out.cell (World.block_lt_of_cell? w _ hx181_0)).trans hx181_0
    replace hx181_1:=(HB.out.cell (World.block_lt_of_cell? w _ hx181_1)).trans hx181_1
    replace hx181_2:=(HB.out.cell (World.block_lt_of_cell? w _ hx181_2)).trans hx181_2
    replace hx181_3:=(HB.out.cell (World.block_lt_of_cell? w _ hx181_3)).trans hx181_3
    replace hx181_4:=(HB.out.cell (World.block_lt_of_cell? w _ hx181_4)).trans hx181_4
    replace p181:=eq_true p181
    replace q181:=eq_true q181
    have p182:0 ≤ (x8_1:Int):=of_decide_eq_true (by first | (with_reducible assumption) | assumption)
    have q182:x8_1 < (l0.length:Int):=of_decide_eq_true (by first | (with_reducible assumption) | assumption)
    obtain ⟨ad182,e182,hx182_0,hx182_1,hx182_2,hx182_3,hx182_4⟩:=at_T56 HR0.out x8_1 p182 q182
    obtain rfl:ad181 = ad182:=(by injection e182)
    replace hx182_0:=(HB.out.cell (World.block_lt_of_cell? w _ hx182_0)).trans hx182_0
    replace hx182_1:=(HB.out.cell (World.block_lt_of_cell? w _ hx182_1)).trans hx182_1
    replace hx182_2:=(HB.out.cell (World.block_lt_of_cell? w _ hx182_2)).trans hx182_2
    replace hx182_3:=(HB.out.cell (World.block_lt_of_cell? w _ hx182_3)).trans hx182_3
    replace hx182_4:=(HB.out.cell (World.block_lt_of_cell? w _ hx182_4)).trans hx182_4
    replace p182:=eq_true p182
    replace q182:=eq_true q182
    have p183:0 ≤ (x8_1:Int):=of_decide_eq_true (by first | (with_reducible assumption) | assumption)
    have q183:x8_1 < (l0.length:Int):=of_decide_eq_true (by first | (with_reducible assumption) | assumption)
    obtain ⟨ad183,e183,hx183_0,hx183_1,hx183_2,hx183_3,hx183_4⟩:=at_T56 HR0.out x8_1 p183 q183
    obtain rfl:ad181 = ad183:=(by injection e183)
    replace hx183_0:=(HB.out.cell (World.block_lt_of_cell? w _ hx183_0)).trans hx183_0
    replace hx183_1:=(HB.out.cell (World.block_lt_of_cell? w _ hx183_1)).trans hx183_1
    replace hx183_2:=(HB.out.cell (World.block_lt_of_cell? w _ hx183_2)).trans hx183_2
    replace hx183_3:=(HB.out.cell (World.block_lt_of_cell? w _ hx183_3)).trans hx183_3
    replace hx183_4:=(HB.out.cell (World.block_lt_of_cell? w _ hx183_4)).trans hx183_4
    replace p183:=eq_true p183
    replace q183:=eq_true q183
    have hcz9_0:wr.cell? ⟨gb180,0,none⟩ = some (.int .i64 x181000_1):=(blk_cell BK180.out 0).trans rfl
    have hcz9_1:wr.cell? ⟨gb180,1,none⟩ = some (.int .i64 x181001_1):=(blk_cell BK180.out 1).trans rfl
    have hcz9_2:wr.cell? ⟨gb180,2,none⟩ = some (.float .f64 x181002_1):=(blk_cell BK180.out 2).trans rfl
    have hcz9_3:wr.cell? ⟨gb180,3,none⟩ = some (.float .f64 x181003_1):=(blk_cell BK180.out 3).trans rfl
    have hcz9_4:wr.cell? ⟨gb180,4,none⟩ = some (.int .i64 x181004_1):=(blk_cell BK180.out 4).trans rfl
    have hfz9_0:=blk_frozen BK180.out 0
    have hfz9_1:=blk_frozen BK180.out 1
    have hfz9_2:=blk_frozen BK180.out 2
    have hfz9_3:=blk_frozen BK180.out 3
    have hfz9_4:=blk_frozen BK180.out 4
    go_wp2
    refine bodyPost_ret (results_ct rfl _ _ gb180 56 #[.int .i64 ((rd_T56 l0 x8_1).f0),.int .i64 ((rd_T56 l0 x8_1).f1),.float .f64 ((rd_T56 l0 x8_1).f2),.float .f64 ((rd_T56 l0 x8_1).f3),.int .i64 ((rd_T56 l0 x8_1).f4)] (0,0) _ rfl (by (with_reducible repeat (first | refine blk_drewN ?_ _ | refine blk_drew ?_ | refine blk_alloc ?_ _));refine blk_put (cs:=#[.int .i64 ((rd_T56 l0 x8_1).f0),.int .i64 ((rd_T56 l0 x8_1).f1),.float .f64 ((rd_T56 l0 x8_1).f2),.float .f64 ((rd_T56 l0 x8_1).f3),.int .i64 x181004_1]) ?_ 4 _ rfl;(with_reducible repeat (first | refine blk_drewN ?_ _ | refine blk_drew ?_ | refine blk_alloc ?_ _));refine blk_put (cs:=#[.int .i64 ((rd_T56 l0 x8_1).f0),.int .i64 ((rd_T56 l0 x8_1).f1),.float .f64 ((rd_T56 l0 x8_1).f2),.float .f64 x181003_1,.int .i64 x181004_1]) ?_ 3 _ rfl;(with_reducible repeat (first | refine blk_drewN ?_ _ | refine blk_drew ?_ | refine blk_alloc ?_ _));refine blk_put (cs:=#[.int .i64 ((rd_T56 l0 x8_1).f0),.int .i64 ((rd_T56 l0 x8_1).f1),.float .f64 x181002_1,.float .f64 x181003_1,.int .i64 x181004_1]) ?_ 2 _ rfl;(with_reducible repeat (first | refine blk_drewN ?_ _ | refine blk_drew ?_ | refine blk_alloc ?_ _));refine blk_put (cs:=#[.int .i64 ((rd_T56 l0 x8_1).f0),.int .i64 x181001_1,.float .f64 x181002_1,.float .f64 x181003_1,.int .i64 x181004_1]) ?_ 1 _ rfl;(with_reducible repeat (first | refine blk_drewN ?_ _ | refine blk_drew ?_ | refine blk_alloc ?_ _));refine blk_put (cs:=#[.int .i64 x181000_1,.int .i64 x181001_1,.float .f64 x181002_1,.float .f64 x181003_1,.int .i64 x181004_1]) ?_ 0 _ rfl;(with_reducible repeat (first | refine blk_drewN ?_ _ | refine blk_drew ?_ | refine blk_alloc ?_ _));exact BK180.out) Try.underlying56 rfl (by kernel_rfl)) rfl ?_
    exact ⟨by first | rfl | (simp [errW_none,errW_some] <;> rfl) | (simp [*,errW_none,errW_some] <;> rfl),by repeat (first | (with_reducible first | exact HB.out | apply below_alloc | apply pw_below_drewN | apply below_drew1 | refine below_set ?_ GE180.out) | exact HB.out)⟩
   rw [if_neg c8] at H
   have c8b0:(((rd_T56 l0 x8_1).f0) == a2) = false:=beq_eq_false_iff_ne.mpr c8
   have c8b1:(((rd_T56 l0 x8_1).f0) != a2) = true:=bne_iff_ne.mpr c8
   have H':=Aside0.mk H
   clear H
   have p181:0 ≤ (x8_1:Int):=of_decide_eq_true (by first | (with_reducible assumption) | assumption)
   have q181:x8_1 < (l0.length:Int):=of_decide_eq_true (by first | (with_reducible assumption) | assumption)
   obtain ⟨ad181,e181,hx181_0,hx181_1,hx181_2,hx181_3,hx181_4⟩:=at_T56 HR0.out x8_1 p181 q181
   cases e181
   replace hx181_0:=(HB.out.cell (World.block_lt_of_cell? w _ hx181_0)).trans hx181_0
   replace hx181_1:=(HB.out.cell (World.block_lt_of_cell? w _ hx181_1)).trans hx181_1
   replace hx181_2:=(HB.out.cell (World.block_lt_of_cell? w _ hx181_2)).trans hx181_2
   replace hx181_3:=(HB.out.cell (World.block_lt_of_cell? w _ hx181_3)).trans hx181_3
   replace hx181_4:=(HB.out.cell (World.block_lt_of_cell? w _ hx181_4)).trans hx181_4
   replace p181:=eq_true p181
   replace q181:=eq_true q181
   have p182:0 ≤ (x8_1:Int):=of_decide_eq_true (by first | (with_reducible assumption) | assumption)
   have q182:x8_1 < (l0.length:Int):=of_decide_eq_true (by first | (with_reducible assumption) | assumption)
   obtain ⟨ad182,e182,hx182_0,hx182_1,hx182_2,hx182_3,hx182_4⟩:=at_T56 HR0.out x8_1 p182 q182
   obtain rfl:ad181 = ad182:=(by injection e182)
   replace hx182_0:=(HB.out.cell (World.block_lt_of_cell? w _ hx182_0)).trans hx182_0
   replace hx182_1:=(HB.out.cell (World.block_lt_of_cell? w _ hx182_1)).trans hx182_1
   replace hx182_2:=(HB.out.cell (World.block_lt_of_cell? w _ hx182_2)).trans hx182_2
   replace hx182_3:=(HB.out.cell (World.block_lt_of_cell? w _ hx182_3)).trans hx182_3
   replace hx182_4:=(HB.out.cell (World.block_lt_of_cell? w _ hx182_4)).trans hx182_4
   replace p182:=eq_true p182
   replace q182:=eq_true q182
   go_wp2
   go_roundg k1
   case measure => have:=HK1.out;omega
   case rel => exact ⟨(wrap64 (x8_1 + 1)),(x181000_1),(x181001_1),(x181002_1),(x181003_1),(x181004_1),(by first | rfl | (simp;done) | (simp [*];done)),H',⟨by have:=HK1.out;omega⟩,⟨by (with_reducible repeat (first | refine blk_drewN ?_ _ | refine blk_drew ?_ | refine blk_alloc ?_ _));exact BK180.out⟩,⟨by repeat (first | (with_reducible first | exact HB.out | apply below_alloc | apply pw_below_drewN | apply below_drew1 | refine below_set ?_ GE180.out) | exact HB.out)⟩⟩
end Go.Proofs.Ytjcnmpkaiopihaa.PA
