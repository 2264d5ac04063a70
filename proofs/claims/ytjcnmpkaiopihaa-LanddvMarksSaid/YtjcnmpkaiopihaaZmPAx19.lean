/- Printed by a program of this session (wip/tools/patch_print.py and pr.py, over the kit's print): each Go function as a plain Lean function, and that the Go code comes to just its answers. Conditions: those that each theorem names. -/
import Derived.Test.YtjcnmpkaiopihaaZmMn
import Derived.Test.YtjcnmpkaiopihaaZmPAx0
import Derived.Test.YtjcnmpkaiopihaaZmPAx1
import Derived.Test.YtjcnmpkaiopihaaZmPAx2
import Derived.Test.YtjcnmpkaiopihaaZmPAx6
import Derived.Test.YtjcnmpkaiopihaaZmPAx17
namespace Go.Proofs.Ytjcnmpkaiopihaa.PA
open Go.RowKit Go.Proofs.YtjcnmpkaiopihaaW.PrintWords Go.Proofs.YtjcnmpkaiopihaaW.PrintLast Go.Proofs.YtjcnmpkaiopihaaW.PrintMore
attribute [local go_sem] max2_int min2_int max_two min_two max_three min_three max_four min_four
set_option linter.unusedVariables false
set_option linter.unusedSimpArgs false
attribute [local go_sem high] eqA116
def message_none.f (a0_0:Int) (a0_1:Int) (a0_2:Int) (a0_3:Int) (a0_4:Int) (a0_5:Int) (a0_6:Int) (a0_7:Int) (a0_8:ByteArray) (a0_9:Int) (a0_10:Int) (a0_11:ByteArray):Option (Bool):=some (a0_0 == 0 && (a0_1 == 0 && (a0_2 == 0 && (a0_3 == 0 && (a0_4 == 0 && (a0_5 == 0 && (a0_6 == 0 && (a0_7 == 0 && (a0_8.toList == ([]:List UInt8) && (a0_9 == 0 && (a0_10 == 0 && (a0_11.toList == ([]:List UInt8)))))))))))))
set_option maxHeartbeats 8000000 in
set_option maxRecDepth 100000 in
theorem message_none.calls (a0_0:Int) (a0_1:Int) (a0_2:Int) (a0_3:Int) (a0_4:Int) (a0_5:Int) (a0_6:Int) (a0_7:Int) (a0_8:ByteArray) (a0_9:Int) (a0_10:Int) (a0_11:ByteArray) (r:Bool) (w:World) (h:message_none.f a0_0 a0_1 a0_2 a0_3 a0_4 a0_5 a0_6 a0_7 a0_8 a0_9 a0_10 a0_11 = some r) :
  Calls Try.prog 140 #[.agg #[.int .i64 a0_0,.int .i64 a0_1,.int .i64 a0_2,.int .i64 a0_3,.int .i64 a0_4,.int .i64 a0_5,.int .u64 a0_6,.int .i64 a0_7,.string a0_8,.int .i64 a0_9,.int .i64 a0_10,.string a0_11]] w fun e w' => e = .returned (.bool r) ∧ Below w.heap.size w w':=by
 have hu116:=Try.underlying116
 have HB:=Aside0.mk (Below.refl w.heap.size w)
 have H:(some (a0_0 == 0 && (a0_1 == 0 && (a0_2 == 0 && (a0_3 == 0 && (a0_4 == 0 && (a0_5 == 0 && (a0_6 == 0 && (a0_7 == 0 && (a0_8.toList == ([]:List UInt8) && (a0_9 == 0 && (a0_10 == 0 && (a0_11.toList == ([]:List UInt8)))))))))))))) = some r:=h
 clear h
 obtain rfl:=Option.some.inj H
 go_enter Try.func140,Try.ntmps140
 go_wp2_with (first | ((with_reducible refine gate_dst (N:=1) rfl ?_);refine box_event ?hg (N:=1) ?hd (cs:=#[.int .i64 a0_0,.int .i64 a0_1,.int .i64 a0_2,.int .i64 a0_3,.int .i64 a0_4,.int .i64 a0_5,.int .u64 a0_6,.int .i64 a0_7,.string a0_8,.int .i64 a0_9,.int .i64 a0_10,.string a0_11]) (t:=116) ?hr ?_;(case hd => rfl);(case hg => rfl);(case hr => first | (go_simp;done) | (go_simp;rfl));intro gb338 hg w2 hbox hb;have n0_:=Aside0.mk (below_step (by repeat (first | (with_reducible first | exact HB.out | apply below_alloc | apply pw_below_drewN | apply below_drew1) | exact HB.out)) hb);have n1_:=Aside0.mk (hbox);have n2_:=Aside0.mk ((by rw [hg];exact (below_size (by repeat (first | (with_reducible first | exact HB.out | apply below_alloc | apply pw_below_drewN | apply below_drew1) | exact HB.out))):w.heap.size ≤ gb338));have n3_:=Aside0.mk ((by rw [hg];exact (below_size (by repeat (first | (with_reducible first | exact HB.out | apply below_alloc | apply pw_below_drewN | apply below_drew1) | exact HB.out))):w.heap.size ≤ gb338));clear HB;have HB:=n0_;have BK338:=n1_;have GW338:=n2_;have GE338:=n3_;clear n0_ n1_ n2_ n3_;clear hb hbox hg;have hcz3_0:w2.cell? ⟨gb338,0,none⟩ = some (.int .i64 a0_0):=(blk_cell BK338.out 0).trans rfl;have hcz3_1:w2.cell? ⟨gb338,1,none⟩ = some (.int .i64 a0_1):=(blk_cell BK338.out 1).trans rfl;have hcz3_2:w2.cell? ⟨gb338,2,none⟩ = some (.int .i64 a0_2):=(blk_cell BK338.out 2).trans rfl;have hcz3_3:w2.cell? ⟨gb338,3,none⟩ = some (.int .i64 a0_3):=(blk_cell BK338.out 3).trans rfl;have hcz3_4:w2.cell? ⟨gb338,4,none⟩ = some (.int .i64 a0_4):=(blk_cell BK338.out 4).trans rfl;have hcz3_5:w2.cell? ⟨gb338,5,none⟩ = some (.int .i64 a0_5):=(blk_cell BK338.out 5).trans rfl;have hcz3_6:w2.cell? ⟨gb338,6,none⟩ = some (.int .u64 a0_6):=(blk_cell BK338.out 6).trans rfl;have hcz3_7:w2.cell? ⟨gb338,7,none⟩ = some (.int .i64 a0_7):=(blk_cell BK338.out 7).trans rfl;have hcz3_8:w2.cell? ⟨gb338,8,none⟩ = some (.string a0_8):=(blk_cell BK338.out 8).trans rfl;have hcz3_9:w2.cell? ⟨gb338,9,none⟩ = some (.int .i64 a0_9):=(blk_cell BK338.out 9).trans rfl;have hcz3_10:w2.cell? ⟨gb338,10,none⟩ = some (.int .i64 a0_10):=(blk_cell BK338.out 10).trans rfl;have hcz3_11:w2.cell? ⟨gb338,11,none⟩ = some (.string a0_11):=(blk_cell BK338.out 11).trans rfl;have hfz3_0:=blk_frozen BK338.out 0;have hfz3_1:=blk_frozen BK338.out 1;have hfz3_2:=blk_frozen BK338.out 2;have hfz3_3:=blk_frozen BK338.out 3;have hfz3_4:=blk_frozen BK338.out 4;have hfz3_5:=blk_frozen BK338.out 5;have hfz3_6:=blk_frozen BK338.out 6;have hfz3_7:=blk_frozen BK338.out 7;have hfz3_8:=blk_frozen BK338.out 8;have hfz3_9:=blk_frozen BK338.out 9;have hfz3_10:=blk_frozen BK338.out 10;have hfz3_11:=blk_frozen BK338.out 11))
 go_ret
 exact ⟨by first | rfl | (simp [errW_none,errW_some] <;> rfl) | (simp [*,errW_none,errW_some] <;> rfl),by repeat (first | (with_reducible first | exact HB.out | apply below_alloc | apply pw_below_drewN | apply below_drew1 | refine below_set ?_ GE338.out) | exact HB.out)⟩
def message_number.f (a0:Int):Option (Bool):=(ident_CheckId.f a0).bind fun t339 => (some (t339 == 0))
set_option maxHeartbeats 8000000 in
set_option maxRecDepth 100000 in
theorem message_number.calls (a0:Int) (r:Bool) (w:World) (h:message_number.f a0 = some r) :
  Calls Try.prog 155 #[.int .i64 a0] w fun e w' => e = .returned (.bool r) ∧ Drawn0 w w':=by
 have H:((ident_CheckId.f a0).bind fun t339 => (some (t339 == 0))) = some r:=h
 clear h
 replace H:=Option.bind_eq_some_iff.mp H
 obtain ⟨t339,A20,H⟩:=H
 replace H:(some (t339 == 0)) = some r:=H
 have A2:=Aside0.mk A20
 clear A20
 obtain rfl:=Option.some.inj H
 go_enter Try.func155,Try.ntmps155
 go_wp2_with (first | ((with_reducible refine gate_callee (f:=49) rfl ?_);refine goesL_ (some 4) rfl rfl Try.func49 (by kernel_rfl) rfl #[.int .i64 a0] rfl (by (try simp only [List.map_toArray,List.map_cons,List.map_nil]);first | done | rfl | (simp only [List.length_drop,List.length_take];rfl)) ?_;(with_reducible refine (ident_CheckId.calls a0 t339 _ A2.out).mono ?_);rintro e w' ⟨rfl,⟨nd,rfl⟩⟩;refine ⟨_,rfl,?_⟩))
 go_ret
 exact ⟨by first | rfl | (simp;done) | (simp [*];done),by repeat (first | exact Drawn0.refl _ | apply Drawn0.step)⟩
def message_distance.j0:Nat → Nat → Bool → Option (Bool)
 | 0,_,_ => none
 | k + 1,x0,x8 => if x8 = true then (some false) else ((math_IsInf.f x0 1).bind fun t342 => (if t342 = true then (some true) else (if (FloatKind.f64.format.order x0 4742290407621132288 == some .lt) = true then ((floatBits .mul .f64 x0 4616189618054758400).bind fun t343 => ((math_Trunc.f t343).bind fun t344 => (some (FloatKind.f64.format.order t343 t344 == some .eq)))) else (some false))))
def message_distance.f (k:Nat) (a0:Nat):Option (Bool):=(math_Signbit.f a0).bind fun t340 => (if t340 = true then (message_distance.j0 k a0 true) else ((math_IsNaN.f a0).bind fun t341 => (message_distance.j0 k a0 t341)))
set_option maxHeartbeats 8000000 in
set_option maxRecDepth 100000 in
theorem message_distance.calls (k:Nat) (a0:Nat) (r:Bool) (w:World) (h:message_distance.f k a0 = some r) :
  Calls Try.prog 156 #[.float .f64 a0] w fun e w' => e = .returned (.bool r) ∧ Drawn0 w w':=by
 have H:((math_Signbit.f a0).bind fun t340 => (if t340 = true then (message_distance.j0 k a0 true) else ((math_IsNaN.f a0).bind fun t341 => (message_distance.j0 k a0 t341)))) = some r:=h
 clear h
 have HC2:=Aside0.mk H
 clear H
 go_enter Try.func156,Try.ntmps156
 go_upto_region 1 with (fail)
 go_cut [8] (fun v8 wc => ∃ (kq:Nat) (x8_1:Bool),v8 = .bool x8_1 ∧ Aside0 (message_distance.j0 kq a0 x8_1 = some r) ∧ Aside0 (kq ≤ k) ∧ Drawn0 w wc)
 case first =>
  have H:=HC2.out
  clear HC2
  replace H:=Option.bind_eq_some_iff.mp H
  obtain ⟨t340,A30,H⟩:=H
  replace H:(if t340 = true then (message_distance.j0 k a0 true) else ((math_IsNaN.f a0).bind fun t341 => (message_distance.j0 k a0 t341))) = some r:=H
  have A3:=Aside0.mk A30
  clear A30
  by_cases c4:t340 = true
  ·subst c4
   have H1:(message_distance.j0 k a0 true) = some r:=by rw [if_pos rfl] at H;exact H
   clear H
   have H:=H1
   clear H1
   have H':=Aside0.mk H
   clear H
   go_wp2_with (first | ((with_reducible refine gate_callee (f:=90) rfl ?_);refine goesL_ (some 4) rfl rfl Try.func90 (by kernel_rfl) rfl #[.float .f64 a0] rfl (by (try simp only [List.map_toArray,List.map_cons,List.map_nil]);first | done | rfl | (simp only [List.length_drop,List.length_take];rfl)) ?_;(with_reducible refine (math_Signbit.calls a0 true _ A3.out).mono ?_);rintro e w' ⟨rfl,⟨nd,rfl⟩⟩;refine ⟨_,rfl,?_⟩))
   go_meet
   case rel => exact ⟨_,(true),(by first | rfl | (simp;done) | (simp [*];done)),H',⟨by first | omega | exact Nat.le_refl _⟩,by repeat (first | exact Drawn0.refl _ | apply Drawn0.step)⟩
  replace c4:=Bool.eq_false_iff.mpr c4
  subst c4
  have H1:((math_IsNaN.f a0).bind fun t341 => (message_distance.j0 k a0 t341)) = some r:=by rw [if_neg (show ¬ (false = true) by decide)] at H;exact H
  clear H
  have H:=H1
  clear H1
  replace H:=Option.bind_eq_some_iff.mp H
  obtain ⟨t341,A50,H⟩:=H
  replace H:(message_distance.j0 k a0 t341) = some r:=H
  have A5:=Aside0.mk A50
  clear A50
  have H':=Aside0.mk H
  clear H
  go_wp2_with (first | ((with_reducible refine gate_callee (f:=90) rfl ?_);refine goesL_ (some 4) rfl rfl Try.func90 (by kernel_rfl) rfl #[.float .f64 a0] rfl (by (try simp only [List.map_toArray,List.map_cons,List.map_nil]);first | done | rfl | (simp only [List.length_drop,List.length_take];rfl)) ?_;(with_reducible refine (math_Signbit.calls a0 false _ A3.out).mono ?_);rintro e w' ⟨rfl,⟨nd,rfl⟩⟩;refine ⟨_,rfl,?_⟩) | (go_at_call 73;(with_reducible refine (math_IsNaN.calls a0 t341 _ A5.out).mono ?_);rintro e w' ⟨rfl,⟨nd,rfl⟩⟩))
  go_meet
  case rel => exact ⟨_,(t341),(by first | rfl | (simp;done) | (simp [*];done)),H',⟨by first | omega | exact Nat.le_refl _⟩,by repeat (first | exact Drawn0.refl _ | apply Drawn0.step)⟩
 case rest =>
  clear HC2
  obtain ⟨kq,x8_1,rfl,HA,HJ1,⟨mc1,rfl⟩⟩:=hcut
  cases kq with
  | zero => exact absurd HA.out (by simp [message_distance.j0])
  | succ kj1 =>
   have H:=HA.out
   clear HA
   simp only [message_distance.j0] at H
   by_cases c6:x8_1 = true
   ·subst c6
    have H1:(some false) = some r:=by rw [if_pos rfl] at H;exact H
    clear H
    have H:=H1
    clear H1
    obtain rfl:=Option.some.inj H
    go_wp2
    go_ret
    exact ⟨by first | rfl | (simp;done) | (simp [*];done),by repeat (first | exact Drawn0.refl _ | apply Drawn0.step)⟩
   replace c6:=Bool.eq_false_iff.mpr c6
   subst c6
   have H1:((math_IsInf.f a0 1).bind fun t342 => (if t342 = true then (some true) else (if (FloatKind.f64.format.order a0 4742290407621132288 == some .lt) = true then ((floatBits .mul .f64 a0 4616189618054758400).bind fun t343 => ((math_Trunc.f t343).bind fun t344 => (some (FloatKind.f64.format.order t343 t344 == some .eq)))) else (some false)))) = some r:=by rw [if_neg (show ¬ (false = true) by decide)] at H;exact H
   clear H
   have H:=H1
   clear H1
   replace H:=Option.bind_eq_some_iff.mp H
   obtain ⟨t342,A70,H⟩:=H
   replace H:(if t342 = true then (some true) else (if (FloatKind.f64.format.order a0 4742290407621132288 == some .lt) = true then ((floatBits .mul .f64 a0 4616189618054758400).bind fun t343 => ((math_Trunc.f t343).bind fun t344 => (some (FloatKind.f64.format.order t343 t344 == some .eq)))) else (some false))) = some r:=H
   have A7:=Aside0.mk A70
   clear A70
   by_cases c8:t342 = true
   ·subst c8
    have H1:(some true) = some r:=by rw [if_pos rfl] at H;exact H
    clear H
    have H:=H1
    clear H1
    obtain rfl:=Option.some.inj H
    go_wp2_with (first | ((with_reducible refine gate_callee (f:=62) rfl ?_);refine goesL_ (some 10) rfl rfl Try.func62 (by kernel_rfl) rfl #[.float .f64 a0,.int .i64 1] rfl (by (try simp only [List.map_toArray,List.map_cons,List.map_nil]);first | done | rfl | (simp only [List.length_drop,List.length_take];rfl)) ?_;(with_reducible refine (math_IsInf.calls a0 1 true _ A7.out).mono ?_);rintro e w' ⟨rfl,⟨nd,rfl⟩⟩;refine ⟨_,rfl,?_⟩))
    go_ret
    exact ⟨by first | rfl | (simp;done) | (simp [*];done),by repeat (first | exact Drawn0.refl _ | apply Drawn0.step)⟩
   replace c8:=Bool.eq_false_iff.mpr c8
   subst c8
   have H1:(if (FloatKind.f64.format.order a0 4742290407621132288 == some .lt) = true then ((floatBits .mul .f64 a0 4616189618054758400).bind fun t343 => ((math_Trunc.f t343).bind fun t344 => (some (FloatKind.f64.format.order t343 t344 == some .eq)))) else (some false)) = some r:=by rw [if_neg (show ¬ (false = true) by decide)] at H;exact H
   clear H
   have H:=H1
   clear H1
   by_cases c9:(FloatKind.f64.format.order a0 4742290407621132288 == some .lt) = true
   ·rw [if_pos c9] at H
    have c9b0:(FloatKind.f64.format.order a0 4742290407621132288 == some .lt) = true:=c9
    (try (have c9b1:decide (FloatKind.f64.format.order a0 4742290407621132288 = some .lt) = true:=by simpa using c9))
    (try (have c9b2:(FloatKind.f64.format.order a0 4742290407621132288 == some .lt) = true:=by simpa using c9))
    clear c9
    replace H:=Option.bind_eq_some_iff.mp H
    obtain ⟨t343,A100,H⟩:=H
    replace H:((math_Trunc.f t343).bind fun t344 => (some (FloatKind.f64.format.order t343 t344 == some .eq))) = some r:=H
    have A10f:∀ W_:World,(binOp .mul 23 (.float .f64 a0) (.float .f64 4616189618054758400)).run Try.prog W_ = .ok (.float .f64 t343) W_:=fun W_ => run_float_arith W_ .mul 23 .f64 _ _ _ A100
    have A10:=Aside0.mk A100
    clear A100
    replace H:=Option.bind_eq_some_iff.mp H
    obtain ⟨t344,A110,H⟩:=H
    replace H:(some (FloatKind.f64.format.order t343 t344 == some .eq)) = some r:=H
    have A11:=Aside0.mk A110
    clear A110
    obtain rfl:=Option.some.inj H
    go_wp2_with (first | ((with_reducible refine gate_callee (f:=62) rfl ?_);refine goesL_ (some 10) rfl rfl Try.func62 (by kernel_rfl) rfl #[.float .f64 a0,.int .i64 1] rfl (by (try simp only [List.map_toArray,List.map_cons,List.map_nil]);first | done | rfl | (simp only [List.length_drop,List.length_take];rfl)) ?_;(with_reducible refine (math_IsInf.calls a0 1 false _ A7.out).mono ?_);rintro e w' ⟨rfl,⟨nd,rfl⟩⟩;refine ⟨_,rfl,?_⟩) | (go_at_call 85;(with_reducible refine (math_Trunc.calls t343 t344 _ A11.out).mono ?_);rintro e w' ⟨rfl,⟨nd,rfl⟩⟩))
    go_ret
    exact ⟨by first | rfl | (simp;done) | (simp [*];done),by repeat (first | exact Drawn0.refl _ | apply Drawn0.step)⟩
   rw [if_neg c9] at H
   have c9b0:(FloatKind.f64.format.order a0 4742290407621132288 == some .lt) = false:=by simpa using c9
   (try (have c9b1:decide (FloatKind.f64.format.order a0 4742290407621132288 = some .lt) = false:=by simpa using c9))
   (try (have c9b2:(FloatKind.f64.format.order a0 4742290407621132288 == some .lt) = false:=by simpa using c9))
   (try (have c9b3:¬ (FloatKind.f64.format.order a0 4742290407621132288 = some .lt):=by simpa using c9))
   clear c9
   obtain rfl:=Option.some.inj H
   go_wp2_with (first | ((with_reducible refine gate_callee (f:=62) rfl ?_);refine goesL_ (some 10) rfl rfl Try.func62 (by kernel_rfl) rfl #[.float .f64 a0,.int .i64 1] rfl (by (try simp only [List.map_toArray,List.map_cons,List.map_nil]);first | done | rfl | (simp only [List.length_drop,List.length_take];rfl)) ?_;(with_reducible refine (math_IsInf.calls a0 1 false _ A7.out).mono ?_);rintro e w' ⟨rfl,⟨nd,rfl⟩⟩;refine ⟨_,rfl,?_⟩))
   go_ret
   exact ⟨by first | rfl | (simp;done) | (simp [*];done),by repeat (first | exact Drawn0.refl _ | apply Drawn0.step)⟩
end Go.Proofs.Ytjcnmpkaiopihaa.PA
