/- Printed by a program of this session (wip/tools/patch_print.py and pr.py, over the kit's print): each Go function as a plain Lean function, and that the Go code comes to just its answers. Conditions: those that each theorem names. -/
import Derived.Test.YtjcnmpkaiopihaaZmMn
import Derived.Test.YtjcnmpkaiopihaaZmPAx0
import Derived.Test.YtjcnmpkaiopihaaZmPAx4
import Derived.Test.YtjcnmpkaiopihaaZmPAx6
namespace Go.Proofs.Ytjcnmpkaiopihaa.PA
open Go.RowKit Go.Proofs.YtjcnmpkaiopihaaW.PrintWords Go.Proofs.YtjcnmpkaiopihaaW.PrintLast Go.Proofs.YtjcnmpkaiopihaaW.PrintMore
attribute [local go_sem] max2_int min2_int max_two min_two max_three min_three max_four min_four
set_option linter.unusedVariables false
set_option linter.unusedSimpArgs false
def beaconref13_Offers.l0:Nat → List (S54) → Int → Int → List (S54) → Int → Option ((List (S54)))
 | 0,_,_,_,_,_ => none
 | k + 1,x0,x1,x2,x7,x8 => if x8 < (x0.length:Int) then (if 0 ≤ x8 then ((beaconref13_find.f k ((rd_T54 x0 x8).f2) x1 x2).bind fun bt188 => (if bt188.2.2.2.2.2 = true then (if x7.length < 3518437208883 then (beaconref13_Offers.l0 k x0 x1 x2 (x7 ++ [(⟨(rd_T54 x0 x8).f0,(rd_T54 x0 x8).f1,(([(⟨bt188.1,bt188.2.1,bt188.2.2.1,bt188.2.2.2.1,bt188.2.2.2.2.1⟩:S56)]:List (S56)))⟩:S54)]) (wrap64 (x8 + 1))) else (none)) else (beaconref13_Offers.l0 k x0 x1 x2 x7 (wrap64 (x8 + 1))))) else (none)) else (some x7)
def beaconref13_Offers.f (k:Nat) (l0:List (S54)) (a1:Int) (a2:Int):Option ((List (S54))):=beaconref13_Offers.l0 k l0 a1 a2 (([]:List (S54))) 0
def beaconref13_Offers.T7:Bool × List (List Nat × List Nat):=(true,[([],[]),([],[]),([],[]),([1,2],[1,2]),([3],[3]),([4],[4]),([],[]),([],[]),([6,7],[6,7]),([8],[8]),([9],[9]),([],[]),([11],[11]),([5,10,12],[5,10,12]),([13],[13]),([0,14],[0,14]),([15,15,0,1,2,3,4,5,6,7,8,9,10,11,12,13,14,15],[0,15])])
def beaconref13_Offers.B7:List Nat:=[0,0,0,6,14,30,0,0,192,448,960,0,2048,8190,16382,32767,65535]
theorem beaconref13_Offers.tab7:rtab .any (opsOf Try.f46 7) = beaconref13_Offers.T7:=by kernel_rfl
theorem beaconref13_Offers.bits7:waitsOk beaconref13_Offers.T7.2 beaconref13_Offers.B7 = true:=by kernel_rfl
set_option maxHeartbeats 8000000 in
set_option maxRecDepth 100000 in
theorem beaconref13_Offers.calls (k:Nat) (A0:Option Addr) (c0:Nat) (l0:List (S54)) (a1:Int) (a2:Int) (r:List (S54)) (w:World) (hr0:Kd.C k54 w A0 l0.length l0) (hc0:l0.length ≤ c0) (h:beaconref13_Offers.f k l0 a1 a2 = some r) :
  Calls Try.prog 46 #[.slice A0 l0.length c0,.int .i64 a1,.int .i64 a2] w fun e w' => ∃ v0_:Value,e = .returned (v0_) ∧ Kd.S k54 54 w' w.heap.size (fun _ => True) v0_ r ∧ Below w.heap.size w w':=by
 have hu56:=Try.underlying56
 have hu54:=Try.underlying54
 have HR0:=Aside0.mk hr0
 have HC0:=Aside0.mk hc0
 clear hr0 hc0
 have HB:=Aside0.mk (Below.refl w.heap.size w)
 have H:(beaconref13_Offers.l0 k l0 a1 a2 (([]:List (S54))) 0) = some r:=h
 clear h
 obtain ⟨y184,hy184⟩:∃ y_:List (S54),y_ = (([]:List (S54))):=⟨_,rfl⟩
 replace H:(beaconref13_Offers.l0 k l0 a1 a2 y184 0) = some r:=by first | (rw [hy184];with_reducible exact H) | (have H2_:=(Option.bind_some _ _).symm.trans H;rw [hy184];with_reducible exact H2_) | (have H2_:=(Option.bind_some _ _).symm.trans H;with_reducible exact H2_) | with_reducible exact H | (rw [hy184];exact H) | exact H
 have Ny184:=Aside0.mk hy184
 clear hy184
 have H':=Aside0.mk H
 clear H
 go_enter Try.func46,Try.ntmps46
 go_wp2_with (first | ((with_reducible refine gate_dst (N:=11) rfl ?_);refine Kd.S_lit k54 _ 54 ?hg (N:=11) ?hd (xs:=([]:List (S54))) (inner:=[]) (ok:=fun _ => True) (okp:=fun _ => True) ?hr ?hp (fun _ hk => hk) trivial (Below.refl _ _) (Nat.le_refl _) (by simp) ?_;(case hd => rfl);(case hg => rfl);(case hr => first | (go_simp;done) | (go_simp;rfl));(case hp => exact (Reps.none _ _));intro v185 w4 ho5 hb hg_ hnew_;clear hg_ hnew_;(first | rw [← Ny184.out] at ho5 | (simp only [Int.reduceToNat] at ho5;rw [← Ny184.out] at ho5));have n0_:=Aside0.mk (Kd.S_lower ho5 (below_size (by repeat (first | (with_reducible first | exact HB.out | apply below_alloc | apply pw_below_drewN | apply below_drew1) | exact HB.out))));have n1_:=Aside0.mk (below_step (by repeat (first | (with_reducible first | exact HB.out | apply below_alloc | apply pw_below_drewN | apply below_drew1) | exact HB.out)) hb);clear HB;have HO186:=n0_;have HB:=n1_;clear n0_ n1_;clear hb ho5))
 go_loopg [7,8] k (fun kq v7 v8 w' => ∃ (x7_1:List (S54)) (x8_1:Int),v8 = .int .i64 x8_1 ∧ Aside0 (beaconref13_Offers.l0 kq l0 a1 a2 x7_1 x8_1 = some r) ∧ Aside0 (kq ≤ k) ∧ Aside0 (Kd.S k54 54 w' w.heap.size (fun _ => True) v7 x7_1) ∧ Aside0 (Below w.heap.size w w'))
 case atStart => exact ⟨(y184),(0),(by first | rfl | (simp;done) | (simp [*];done)),H',⟨Nat.le_refl _⟩,⟨by (with_reducible repeat (first | apply Kd.S_alloc | apply Kd.S_drewN | apply Kd.S_drew));exact HO186.out⟩,⟨by repeat (first | (with_reducible first | exact HB.out | apply below_alloc | apply pw_below_drewN | apply below_drew1) | exact HB.out)⟩⟩
 case round =>
  clear H'
  obtain ⟨x7_1,x8_1,rfl,HA,HK1,HO_7,HB⟩:=hrel
  cases gk with
  | zero => exact absurd HA.out (by simp [beaconref13_Offers.l0])
  | succ k1 =>
   have H:=HA.out
   clear HA
   simp only [beaconref13_Offers.l0] at H
   by_cases c6:x8_1 < (l0.length:Int)
   rotate_left
   ·rw [if_neg c6] at H
    have c6b0:decide (x8_1 < (l0.length:Int)) = false:=decide_eq_false c6
    clear c6
    obtain rfl:=Option.some.inj H
    go_wp2
    go_ret
    exact ⟨_,by first | rfl | (simp [errW_none,errW_some] <;> rfl) | (simp [*,errW_none,errW_some] <;> rfl),by (with_reducible repeat (first | apply Kd.S_alloc | apply Kd.S_drewN | apply Kd.S_drew));exact HO_7.out,by repeat (first | (with_reducible first | exact HB.out | apply below_alloc | apply pw_below_drewN | apply below_drew1) | exact HB.out)⟩
   rw [if_pos c6] at H
   have c6b0:decide (x8_1 < (l0.length:Int)) = true:=decide_eq_true c6
   clear c6
   by_cases c7:0 ≤ x8_1
   rotate_left
   ·rw [if_neg c7] at H
    exact absurd H (by simp)
   rw [if_pos c7] at H
   have c7b0:decide (0 ≤ x8_1) = true:=decide_eq_true c7
   clear c7
   replace H:=Option.bind_eq_some_iff.mp H
   obtain ⟨⟨t188,t189,t190,t191,t192,t193⟩,A80,H⟩:=H
   replace H:(if t193 = true then (if x7_1.length < 3518437208883 then (beaconref13_Offers.l0 k1 l0 a1 a2 (x7_1 ++ [(⟨(rd_T54 l0 x8_1).f0,(rd_T54 l0 x8_1).f1,(([(⟨t188,t189,t190,t191,t192⟩:S56)]:List (S56)))⟩:S54)]) (wrap64 (x8_1 + 1))) else (none)) else (beaconref13_Offers.l0 k1 l0 a1 a2 x7_1 (wrap64 (x8_1 + 1)))) = some r:=H
   have A8:=Aside0.mk A80
   clear A80
   by_cases c9:t193 = true
   rotate_left
   ·replace c9:=Bool.eq_false_iff.mpr c9
    subst c9
    have H1:(beaconref13_Offers.l0 k1 l0 a1 a2 x7_1 (wrap64 (x8_1 + 1))) = some r:=by rw [if_neg (show ¬ (false = true) by decide)] at H;exact H
    clear H
    have H:=H1
    clear H1
    have H':=Aside0.mk H
    clear H
    have p187:0 ≤ (x8_1:Int):=of_decide_eq_true (by first | (with_reducible assumption) | assumption)
    have q187:x8_1 < (l0.length:Int):=of_decide_eq_true (by first | (with_reducible assumption) | assumption)
    obtain ⟨ad187,A187_2,c187_2,e187,hx187_0,hx187_1,hx187_2,hl187_2,hi187_2⟩:=at_T54 HR0.out x8_1 p187 q187
    cases e187
    replace hx187_0:=(HB.out.cell (World.block_lt_of_cell? w _ hx187_0)).trans hx187_0
    replace hx187_1:=(HB.out.cell (World.block_lt_of_cell? w _ hx187_1)).trans hx187_1
    replace hx187_2:=(HB.out.cell (World.block_lt_of_cell? w _ hx187_2)).trans hx187_2
    have HR187_2:=Aside0.mk hi187_2
    have HC187_2:=Aside0.mk hl187_2
    clear hi187_2 hl187_2
    replace p187:=eq_true p187
    replace q187:=eq_true q187
    go_wp2_with (first | ((with_reducible refine gate_callee (f:=78) rfl ?_);refine goesL_ (some 26) rfl rfl Try.func78 (by kernel_rfl) rfl #[.slice A187_2 ((rd_T54 l0 x8_1).f2).length c187_2,.int .i64 a1,.int .i64 a2] rfl (by (try simp only [List.map_toArray,List.map_cons,List.map_nil]);first | done | rfl | (simp only [List.length_drop,List.length_take];rfl)) ?_;(with_reducible refine (beaconref13_find.calls k1 _ _ ((rd_T54 l0 x8_1).f2) a1 a2 t188 t189 t190 t191 t192 false _ ?side1 ?side2 A8.out).mono ?_);(case side1 => repeat (first | exact (Kd.C_below HR187_2.out HB.out) | (with_reducible refine Kd.C_alloc ?_ _) | (with_reducible refine Kd.C_drewN ?_ _) | (with_reducible refine Kd.C_drew ?_)));(case side2 => exact HC187_2.out);rintro e w20 ⟨rfl,hb⟩;refine ⟨_,rfl,?_⟩;have n0_:=Aside0.mk (Kd.S_below (by (with_reducible repeat (first | apply Kd.S_alloc | apply Kd.S_drewN | apply Kd.S_drew));exact HO_7.out) hb);have n1_:=Aside0.mk (below_step (by repeat (first | (with_reducible first | exact HB.out | apply below_alloc | apply pw_below_drewN | apply below_drew1) | exact HB.out)) hb);clear HO_7;clear HB;have HO_7:=n0_;have HB:=n1_;clear n0_ n1_;(try clear hb);(try clear hb2);(try clear hk);(try clear hi)) | ((with_reducible refine gate_dst (N:=9) rfl ?_);refine box_event ?hg (N:=9) ?hd (cs:=#[.int .i64 0,.int .i64 0,.float .f64 0,.float .f64 0,.int .i64 0]) (t:=56) ?hr ?_;(case hd => rfl);(case hg => rfl);(case hr => first | (go_simp;done) | (go_simp;rfl));intro gb194 hg w21 hbox hb;have n0_:=Aside0.mk (Kd.S_below (Kd.S_elderB (by (with_reducible repeat (first | apply Kd.S_alloc | apply Kd.S_drewN | apply Kd.S_drew));exact HO_7.out) gb194 (Nat.le_of_eq hg.symm)) hb);have n1_:=Aside0.mk (below_step (by repeat (first | (with_reducible first | exact HB.out | apply below_alloc | apply pw_below_drewN | apply below_drew1) | exact HB.out)) hb);have n2_:=Aside0.mk (hbox);have n3_:=Aside0.mk ((by rw [hg];exact (below_size (by repeat (first | (with_reducible first | exact HB.out | apply below_alloc | apply pw_below_drewN | apply below_drew1) | exact HB.out))):w.heap.size ≤ gb194));have n4_:=Aside0.mk ((by rw [hg];exact (below_size (by repeat (first | (with_reducible first | exact HB.out | apply below_alloc | apply pw_below_drewN | apply below_drew1) | exact HB.out))):w.heap.size ≤ gb194));clear HO_7;clear HB;have HO_7:=n0_;have HB:=n1_;have BK194:=n2_;have GW194:=n3_;have GE194:=n4_;clear n0_ n1_ n2_ n3_ n4_;clear hb hbox hg;have hcz22_0:w21.cell? ⟨gb194,0,none⟩ = some (.int .i64 0):=(blk_cell BK194.out 0).trans rfl;have hcz22_1:w21.cell? ⟨gb194,1,none⟩ = some (.int .i64 0):=(blk_cell BK194.out 1).trans rfl;have hcz22_2:w21.cell? ⟨gb194,2,none⟩ = some (.float .f64 0):=(blk_cell BK194.out 2).trans rfl;have hcz22_3:w21.cell? ⟨gb194,3,none⟩ = some (.float .f64 0):=(blk_cell BK194.out 3).trans rfl;have hcz22_4:w21.cell? ⟨gb194,4,none⟩ = some (.int .i64 0):=(blk_cell BK194.out 4).trans rfl;have hfz22_0:=blk_frozen BK194.out 0;have hfz22_1:=blk_frozen BK194.out 1;have hfz22_2:=blk_frozen BK194.out 2;have hfz22_3:=blk_frozen BK194.out 3;have hfz22_4:=blk_frozen BK194.out 4))
    go_roundg k1
    case measure => have:=HK1.out;omega
    case rel => exact ⟨(x7_1),(wrap64 (x8_1 + 1)),(by first | rfl | (simp;done) | (simp [*];done)),H',⟨by have:=HK1.out;omega⟩,⟨by (with_reducible repeat (first | apply Kd.S_alloc | apply Kd.S_drewN | apply Kd.S_drew));exact Kd.S_mono (Kd.S_far (p:=⟨gb194,4,none⟩) (Kd.S_far (p:=⟨gb194,3,none⟩) (Kd.S_far (p:=⟨gb194,2,none⟩) (Kd.S_far (p:=⟨gb194,1,none⟩) (Kd.S_far (p:=⟨gb194,0,none⟩) (Kd.S_mono HO_7.out (fun k_ hk => (⟨hk,hk.2⟩:_ ∧ k_ ≠ gb194))) (fun _ hk => hk.2) (.int .i64 t188)) (fun _ hk => hk.2) (.int .i64 t189)) (fun _ hk => hk.2) (.float .f64 t190)) (fun _ hk => hk.2) (.float .f64 t191)) (fun _ hk => hk.2) (.int .i64 t192)) (fun _ hk => trivial)⟩,⟨by repeat (first | (with_reducible first | exact HB.out | apply below_alloc | apply pw_below_drewN | apply below_drew1 | refine below_set ?_ GE194.out) | exact HB.out)⟩⟩
   subst c9
   have H1:(if x7_1.length < 3518437208883 then (beaconref13_Offers.l0 k1 l0 a1 a2 (x7_1 ++ [(⟨(rd_T54 l0 x8_1).f0,(rd_T54 l0 x8_1).f1,(([(⟨t188,t189,t190,t191,t192⟩:S56)]:List (S56)))⟩:S54)]) (wrap64 (x8_1 + 1))) else (none)) = some r:=by rw [if_pos rfl] at H;exact H
   clear H
   have H:=H1
   clear H1
   obtain ⟨y197,hy197⟩:∃ y_:List (S56),y_ = (([(⟨t188,t189,t190,t191,t192⟩:S56)]:List (S56))):=⟨_,rfl⟩
   replace H:(if x7_1.length < 3518437208883 then (beaconref13_Offers.l0 k1 l0 a1 a2 (x7_1 ++ [(⟨(rd_T54 l0 x8_1).f0,(rd_T54 l0 x8_1).f1,y197⟩:S54)]) (wrap64 (x8_1 + 1))) else (none)) = some r:=by first | (rw [hy197];with_reducible exact H) | (have H2_:=(Option.bind_some _ _).symm.trans H;rw [hy197];with_reducible exact H2_) | (have H2_:=(Option.bind_some _ _).symm.trans H;with_reducible exact H2_) | with_reducible exact H | (rw [hy197];exact H) | exact H
   have Ny197:=Aside0.mk hy197
   clear hy197
   by_cases c10:x7_1.length < 3518437208883
   rotate_left
   ·rw [if_neg c10] at H
    exact absurd H (by simp)
   rw [if_pos c10] at H
   have LMc10:=Aside0.mk c10
   clear c10
   obtain ⟨y200,hy200⟩:∃ y_:List (S54),y_ = (x7_1 ++ [(⟨(rd_T54 l0 x8_1).f0,(rd_T54 l0 x8_1).f1,y197⟩:S54)]):=⟨_,rfl⟩
   replace H:(beaconref13_Offers.l0 k1 l0 a1 a2 y200 (wrap64 (x8_1 + 1))) = some r:=by first | (rw [hy200];with_reducible exact H) | (have H2_:=(Option.bind_some _ _).symm.trans H;rw [hy200];with_reducible exact H2_) | (have H2_:=(Option.bind_some _ _).symm.trans H;with_reducible exact H2_) | with_reducible exact H | (rw [hy200];exact H) | exact H
   have Ny200:=Aside0.mk hy200
   clear hy200
   have H':=Aside0.mk H
   clear H
   have p187:0 ≤ (x8_1:Int):=of_decide_eq_true (by first | (with_reducible assumption) | assumption)
   have q187:x8_1 < (l0.length:Int):=of_decide_eq_true (by first | (with_reducible assumption) | assumption)
   obtain ⟨ad187,A187_2,c187_2,e187,hx187_0,hx187_1,hx187_2,hl187_2,hi187_2⟩:=at_T54 HR0.out x8_1 p187 q187
   cases e187
   replace hx187_0:=(HB.out.cell (World.block_lt_of_cell? w _ hx187_0)).trans hx187_0
   replace hx187_1:=(HB.out.cell (World.block_lt_of_cell? w _ hx187_1)).trans hx187_1
   replace hx187_2:=(HB.out.cell (World.block_lt_of_cell? w _ hx187_2)).trans hx187_2
   have HR187_2:=Aside0.mk hi187_2
   have HC187_2:=Aside0.mk hl187_2
   clear hi187_2 hl187_2
   replace p187:=eq_true p187
   replace q187:=eq_true q187
   try go_wp2_with (first | ((with_reducible refine gate_callee (f:=78) rfl ?_);refine goesL_ (some 26) rfl rfl Try.func78 (by kernel_rfl) rfl #[.slice A187_2 ((rd_T54 l0 x8_1).f2).length c187_2,.int .i64 a1,.int .i64 a2] rfl (by (try simp only [List.map_toArray,List.map_cons,List.map_nil]);first | done | rfl | (simp only [List.length_drop,List.length_take];rfl)) ?_;(with_reducible refine (beaconref13_find.calls k1 _ _ ((rd_T54 l0 x8_1).f2) a1 a2 t188 t189 t190 t191 t192 true _ ?side1 ?side2 A8.out).mono ?_);(case side1 => repeat (first | exact (Kd.C_below HR187_2.out HB.out) | (with_reducible refine Kd.C_alloc ?_ _) | (with_reducible refine Kd.C_drewN ?_ _) | (with_reducible refine Kd.C_drew ?_)));(case side2 => exact HC187_2.out);rintro e w11 ⟨rfl,hb⟩;refine ⟨_,rfl,?_⟩;have n0_:=Aside0.mk (Kd.S_below (by (with_reducible repeat (first | apply Kd.S_alloc | apply Kd.S_drewN | apply Kd.S_drew));exact HO_7.out) hb);have n1_:=Aside0.mk (below_step (by repeat (first | (with_reducible first | exact HB.out | apply below_alloc | apply pw_below_drewN | apply below_drew1) | exact HB.out)) hb);clear HO_7;clear HB;have HO_7:=n0_;have HB:=n1_;clear n0_ n1_;(try clear hb);(try clear hb2);(try clear hk);(try clear hi)) | ((with_reducible refine gate_dst (N:=9) rfl ?_);refine box_event ?hg (N:=9) ?hd (cs:=#[.int .i64 0,.int .i64 0,.float .f64 0,.float .f64 0,.int .i64 0]) (t:=56) ?hr ?_;(case hd => rfl);(case hg => rfl);(case hr => first | (go_simp;done) | (go_simp;rfl));intro gb194 hg w12 hbox hb;have n0_:=Aside0.mk (Kd.S_below (Kd.S_elderB (by (with_reducible repeat (first | apply Kd.S_alloc | apply Kd.S_drewN | apply Kd.S_drew));exact HO_7.out) gb194 (Nat.le_of_eq hg.symm)) hb);have n1_:=Aside0.mk (below_step (by repeat (first | (with_reducible first | exact HB.out | apply below_alloc | apply pw_below_drewN | apply below_drew1) | exact HB.out)) hb);have n2_:=Aside0.mk (hbox);have n3_:=Aside0.mk ((by rw [hg];exact (below_size (by repeat (first | (with_reducible first | exact HB.out | apply below_alloc | apply pw_below_drewN | apply below_drew1) | exact HB.out))):w.heap.size ≤ gb194));have n4_:=Aside0.mk ((by rw [hg];exact (below_size (by repeat (first | (with_reducible first | exact HB.out | apply below_alloc | apply pw_below_drewN | apply below_drew1) | exact HB.out))):w.heap.size ≤ gb194));clear HO_7;clear HB;have HO_7:=n0_;have HB:=n1_;have BK194:=n2_;have GW194:=n3_;have GE194:=n4_;clear n0_ n1_ n2_ n3_ n4_;clear hb hbox hg;have hcz13_0:w12.cell? ⟨gb194,0,none⟩ = some (.int .i64 0):=(blk_cell BK194.out 0).trans rfl;have hcz13_1:w12.cell? ⟨gb194,1,none⟩ = some (.int .i64 0):=(blk_cell BK194.out 1).trans rfl;have hcz13_2:w12.cell? ⟨gb194,2,none⟩ = some (.float .f64 0):=(blk_cell BK194.out 2).trans rfl;have hcz13_3:w12.cell? ⟨gb194,3,none⟩ = some (.float .f64 0):=(blk_cell BK194.out 3).trans rfl;have hcz13_4:w12.cell? ⟨gb194,4,none⟩ = some (.int .i64 0):=(blk_cell BK194.out 4).trans rfl;have hfz13_0:=blk_frozen BK194.out 0;have hfz13_1:=blk_frozen BK194.out 1;have hfz13_2:=blk_frozen BK194.out 2;have hfz13_3:=blk_frozen BK194.out 3;have hfz13_4:=blk_frozen BK194.out 4))
   have n0_:Aside0 (Kd.S k54 54 (((((w12.setCell ⟨gb194,0,none⟩ (.int .i64 t188)).setCell ⟨gb194,1,none⟩ (.int .i64 t189)).setCell ⟨gb194,2,none⟩ (.float .f64 t190)).setCell ⟨gb194,3,none⟩ (.float .f64 t191)).setCell ⟨gb194,4,none⟩ (.int .i64 t192)) w.heap.size (fun k_ => k_ ≠ gb194) u7 x7_1):=⟨by (with_reducible repeat (first | apply Kd.S_alloc | apply Kd.S_drewN | apply Kd.S_drew));exact Kd.S_mono (Kd.S_far (p:=⟨gb194,4,none⟩) (Kd.S_far (p:=⟨gb194,3,none⟩) (Kd.S_far (p:=⟨gb194,2,none⟩) (Kd.S_far (p:=⟨gb194,1,none⟩) (Kd.S_far (p:=⟨gb194,0,none⟩) (Kd.S_mono HO_7.out (fun k_ hk => (⟨hk,hk.2⟩:_ ∧ k_ ≠ gb194))) (fun _ hk => hk.2) (.int .i64 t188)) (fun _ hk => hk.2) (.int .i64 t189)) (fun _ hk => hk.2) (.float .f64 t190)) (fun _ hk => hk.2) (.float .f64 t191)) (fun _ hk => hk.2) (.int .i64 t192)) (fun _ hk => hk.1.2)⟩
   have n1_:Aside0 ((((((w12.setCell ⟨gb194,0,none⟩ (.int .i64 t188)).setCell ⟨gb194,1,none⟩ (.int .i64 t189)).setCell ⟨gb194,2,none⟩ (.float .f64 t190)).setCell ⟨gb194,3,none⟩ (.float .f64 t191)).setCell ⟨gb194,4,none⟩ (.int .i64 t192)).heap[gb194]? = some (.cells #[.int .i64 t188,.int .i64 t189,.float .f64 t190,.float .f64 t191,.int .i64 t192] 56 (0,0))):=⟨by (with_reducible repeat (first | refine blk_drewN ?_ _ | refine blk_drew ?_ | refine blk_alloc ?_ _));refine blk_put (cs:=#[.int .i64 t188,.int .i64 t189,.float .f64 t190,.float .f64 t191,.int .i64 0]) ?_ 4 _ rfl;(with_reducible repeat (first | refine blk_drewN ?_ _ | refine blk_drew ?_ | refine blk_alloc ?_ _));refine blk_put (cs:=#[.int .i64 t188,.int .i64 t189,.float .f64 t190,.float .f64 0,.int .i64 0]) ?_ 3 _ rfl;(with_reducible repeat (first | refine blk_drewN ?_ _ | refine blk_drew ?_ | refine blk_alloc ?_ _));refine blk_put (cs:=#[.int .i64 t188,.int .i64 t189,.float .f64 0,.float .f64 0,.int .i64 0]) ?_ 2 _ rfl;(with_reducible repeat (first | refine blk_drewN ?_ _ | refine blk_drew ?_ | refine blk_alloc ?_ _));refine blk_put (cs:=#[.int .i64 t188,.int .i64 0,.float .f64 0,.float .f64 0,.int .i64 0]) ?_ 1 _ rfl;(with_reducible repeat (first | refine blk_drewN ?_ _ | refine blk_drew ?_ | refine blk_alloc ?_ _));refine blk_put (cs:=#[.int .i64 0,.int .i64 0,.float .f64 0,.float .f64 0,.int .i64 0]) ?_ 0 _ rfl;(with_reducible repeat (first | refine blk_drewN ?_ _ | refine blk_drew ?_ | refine blk_alloc ?_ _));exact BK194.out⟩
   have n2_:Aside0 (Below w.heap.size w (((((w12.setCell ⟨gb194,0,none⟩ (.int .i64 t188)).setCell ⟨gb194,1,none⟩ (.int .i64 t189)).setCell ⟨gb194,2,none⟩ (.float .f64 t190)).setCell ⟨gb194,3,none⟩ (.float .f64 t191)).setCell ⟨gb194,4,none⟩ (.int .i64 t192))):=⟨by repeat (first | (with_reducible first | exact HB.out | apply below_alloc | apply pw_below_drewN | apply below_drew1 | refine below_set ?_ GE194.out) | exact HB.out)⟩
   (try clear HO_7)
   (try clear BK194)
   (try clear HB)
   generalize (((((w12.setCell ⟨gb194,0,none⟩ (.int .i64 t188)).setCell ⟨gb194,1,none⟩ (.int .i64 t189)).setCell ⟨gb194,2,none⟩ (.float .f64 t190)).setCell ⟨gb194,3,none⟩ (.float .f64 t191)).setCell ⟨gb194,4,none⟩ (.int .i64 t192)) = w14 at n0_ n1_ n2_ ⊢
   have HO_7:=n0_
   have BK194:=n1_
   have HB:=n2_
   clear n0_ n1_ n2_
   have n0_:=Aside0.mk (Kd.S_drew HO_7.out)
   have n1_:=Aside0.mk (blk_drew BK194.out)
   have n2_:=Aside0.mk (below_drew1 HB.out)
   clear HO_7
   clear BK194
   clear HB
   have HO_7:=n0_
   have BK194:=n1_
   have HB:=n2_
   clear n0_ n1_ n2_
   have p195:0 ≤ (x8_1:Int):=of_decide_eq_true (by first | (with_reducible assumption) | assumption)
   have q195:x8_1 < (l0.length:Int):=of_decide_eq_true (by first | (with_reducible assumption) | assumption)
   obtain ⟨ad195,A195_2,c195_2,e195,hx195_0,hx195_1,hx195_2,hl195_2,hi195_2⟩:=at_T54 HR0.out x8_1 p195 q195
   have hw195_2:=hx195_2
   have hw195_1:=hx195_1
   have hw195_0:=hx195_0
   obtain rfl:ad187 = ad195:=(by injection e195)
   replace hx195_0:=(HB.out.cell (World.block_lt_of_cell? w _ hx195_0)).trans hx195_0
   replace hx195_1:=(HB.out.cell (World.block_lt_of_cell? w _ hx195_1)).trans hx195_1
   replace hx195_2:=(HB.out.cell (World.block_lt_of_cell? w _ hx195_2)).trans hx195_2
   have HR195_2:=Aside0.mk hi195_2
   have HC195_2:=Aside0.mk hl195_2
   clear hi195_2 hl195_2
   replace p195:=eq_true p195
   replace q195:=eq_true q195
   have p196:0 ≤ (x8_1:Int):=of_decide_eq_true (by first | (with_reducible assumption) | assumption)
   have q196:x8_1 < (l0.length:Int):=of_decide_eq_true (by first | (with_reducible assumption) | assumption)
   obtain ⟨ad196,A196_2,c196_2,e196,hx196_0,hx196_1,hx196_2,hl196_2,hi196_2⟩:=at_T54 HR0.out x8_1 p196 q196
   have hw196_2:=hx196_2
   have hw196_1:=hx196_1
   have hw196_0:=hx196_0
   obtain rfl:ad187 = ad196:=(by injection e196)
   replace hx196_0:=(HB.out.cell (World.block_lt_of_cell? w _ hx196_0)).trans hx196_0
   replace hx196_1:=(HB.out.cell (World.block_lt_of_cell? w _ hx196_1)).trans hx196_1
   replace hx196_2:=(HB.out.cell (World.block_lt_of_cell? w _ hx196_2)).trans hx196_2
   have HR196_2:=Aside0.mk hi196_2
   have HC196_2:=Aside0.mk hl196_2
   clear hi196_2 hl196_2
   replace p196:=eq_true p196
   replace q196:=eq_true q196
   have ea_:=Option.some.inj (hx195_2.symm.trans hx196_2)
   injection ea_ with ea_ en_ ec_
   subst ea_
   subst ec_
   clear en_
   refine start_ (n:=17) (S:=fun w' => w'.cell? ⟨gb194,0,none⟩ = some (.int .i64 t188) ∧ w'.cell? ⟨gb194,1,none⟩ = some (.int .i64 t189) ∧ w'.cell? ⟨gb194,2,none⟩ = some (.float .f64 t190) ∧ w'.cell? ⟨gb194,3,none⟩ = some (.float .f64 t191) ∧ w'.cell? ⟨gb194,4,none⟩ = some (.int .i64 t192) ∧ w'.cell? (ad187.add ((x8_1).toNat * 3)) = some (.int .i64 ((rd_T54 l0 x8_1).f0)) ∧ w'.cell? ⟨(ad187.add ((x8_1).toNat * 3)).block,(ad187.add ((x8_1).toNat * 3)).off + 1,none⟩ = some (.float .f64 ((rd_T54 l0 x8_1).f1)) ∧ w'.cell? ⟨(ad187.add ((x8_1).toNat * 3)).block,(ad187.add ((x8_1).toNat * 3)).off + 2,none⟩ = some (.slice A195_2 ((rd_T54 l0 x8_1).f2).length c195_2) ∧ w'.cell? (ad187.add ((x8_1).toNat * 3)) = some (.int .i64 ((rd_T54 l0 x8_1).f0)) ∧ w'.cell? ⟨(ad187.add ((x8_1).toNat * 3)).block,(ad187.add ((x8_1).toNat * 3)).off + 1,none⟩ = some (.float .f64 ((rd_T54 l0 x8_1).f1)) ∧ w'.cell? ⟨(ad187.add ((x8_1).toNat * 3)).block,(ad187.add ((x8_1).toNat * 3)).off + 2,none⟩ = some (.slice A195_2 ((rd_T54 l0 x8_1).f2).length c195_2)) (ds:=[]) #[false,false,false,false,false,false,false,false,false,false,false,false,false,false,false,false,false] (by kernel_rfl) rfl rfl ⟨(blk_cell BK194.out 0).trans rfl,(blk_cell BK194.out 1).trans rfl,(blk_cell BK194.out 2).trans rfl,(blk_cell BK194.out 3).trans rfl,(blk_cell BK194.out 4).trans rfl,((HB.out.cell (World.block_lt_of_cell? w _ hw195_0)).trans hw195_0),((HB.out.cell (World.block_lt_of_cell? w _ hw195_1)).trans hw195_1),((HB.out.cell (World.block_lt_of_cell? w _ hw195_2)).trans hw195_2),((HB.out.cell (World.block_lt_of_cell? w _ hw196_0)).trans hw196_0),((HB.out.cell (World.block_lt_of_cell? w _ hw196_1)).trans hw196_1),((HB.out.cell (World.block_lt_of_cell? w _ hw196_2)).trans hw196_2)⟩ (fun hHeld => ?_);refine with_tabW beaconref13_Offers.tab7 beaconref13_Offers.bits7 (fun HT_ HW_ => ?_)
   generalize w14.drew = w15 at HO_7 BK194 HB HR195_2 HR196_2 hx195_0 hx195_1 hx195_2 hx196_0 hx196_1 hx196_2 hHeld ⊢
   refine manyW_ (fuel:=5) (a':=?_) ((0,0) :: (1,0) :: (2,0) :: (3,0) :: (4,0) :: (6,0) :: (7,0) :: (8,0) :: (9,0) :: (5,2) :: (10,2) :: (11,2) :: []) #[true,true,true,true,true,true,true,true,true,true,true,true,false,false,false,false,false] rfl HT_ HW_ (by kernel_rfl) (fun _ _ _ _ _ h => h) (fun _ => hHeld) ?_ ?_
   rotate_left
   ·repeat (first | exact Chain.nil _ | (apply Chain.on;rfl;rfl;(focus intro w';go_simp;with_reducible rfl);(focus simp only [Act.put,List.setIfInBounds_toArray,List.set_cons_zero,List.set_cons_succ,i64_w,i32_w];rfl)) | (apply Chain.take;rfl;rfl;(focus rintro w' ⟨s0,s1,s2,s3,s4,s5,s6,s7,s8,s9,s10⟩;go_simp;with_reducible rfl);(focus simp only [Act.put,List.setIfInBounds_toArray,List.set_cons_zero,List.set_cons_succ,i64_w,i32_w];rfl)))
   refine one_ (i:=12) (N:=some 42) #[true,true,true,true,true,true,true,true,true,true,true,true,true,false,false,false,false] rfl rfl (one_of HT_.out (by kernel_rfl)) (by decide) (fun K hK => ?_)
   refine Kd.R_lit_step k56 _ 56 ?hg (N:=42) ?hd (xs:=([(⟨t188,t189,t190,t191,t192⟩:S56)]:List (S56))) (inner:=[.int .i64 t188,.int .i64 t189,.float .f64 t190,.float .f64 t191,.int .i64 t192]) (ok:=fun _ => True) (okp:=fun _ => True) ?hr ?hp (fun _ hk => hk) trivial (Below.refl _ _) (Nat.le_refl _) (by simp) ?_;(case hd => rfl);(case hg => rfl);(case hr => first | (go_simp;done) | (go_simp;rfl));(case hp => exact (Reps.c5 (show Kd.M k56 _ _ _ (⟨t188,t189,t190,t191,t192⟩:S56) [.int .i64 t188,.int .i64 t189,.float .f64 t190,.float .f64 t191,.int .i64 t192] from (k56_mkM _ _ _ (⟨t188,t189,t190,t191,t192⟩:S56) )) (Reps.none _ _)))
   intro v198 w16 ho17 hb hg_ hnew_
   clear hg_ hnew_
   (first | rw [← Ny197.out] at ho17 | (simp only [Int.reduceToNat] at ho17;rw [← Ny197.out] at ho17))
   have n0_:=Aside0.mk (Kd.S_elder' (by (with_reducible repeat (first | apply Kd.S_alloc | apply Kd.S_drewN | apply Kd.S_drew));exact HO_7.out) (Kd.R_base ho17) hb)
   have n1_:=Aside0.mk (Kd.R_lower (Kd.R_newB ho17 (g:=gb194) (o:=.cells #[.int .i64 t188,.int .i64 t189,.float .f64 t190,.float .f64 t191,.int .i64 t192] 56 (0,0)) (by (with_reducible repeat (first | refine blk_drewN ?_ _ | refine blk_drew ?_ | refine blk_alloc ?_ _));exact BK194.out)) (below_size (by repeat (first | (with_reducible first | exact HB.out | apply below_alloc | apply pw_below_drewN | apply below_drew1 | refine below_set ?_ GE194.out) | exact HB.out))))
   have n2_:=Aside0.mk (blk_below (g:=gb194) (o:=.cells #[.int .i64 t188,.int .i64 t189,.float .f64 t190,.float .f64 t191,.int .i64 t192] 56 (0,0)) (by (with_reducible repeat (first | refine blk_drewN ?_ _ | refine blk_drew ?_ | refine blk_alloc ?_ _));exact BK194.out) hb)
   have n3_:=Aside0.mk (below_step (by repeat (first | (with_reducible first | exact HB.out | apply below_alloc | apply pw_below_drewN | apply below_drew1 | refine below_set ?_ GE194.out) | exact HB.out)) hb)
   clear HO_7
   clear BK194
   clear HB
   have HO_7:=n0_
   have HO199:=n1_
   have BK194:=n2_
   have HB:=n3_
   clear n0_ n1_ n2_ n3_
   clear hb ho17
   obtain ⟨Ao18,co18,eo18⟩:=Kd.R_slice HO199.out
   (first | subst eo18 | (injection eo18 with f1_ f2_ f3_;have f4_:=f1_.symm;have f5_:=f3_.symm;clear f1_ f2_ f3_;subst f4_;subst f5_))
   refine hK.out _ _ ⟨(blk_cell BK194.out 0).trans rfl,(blk_cell BK194.out 1).trans rfl,(blk_cell BK194.out 2).trans rfl,(blk_cell BK194.out 3).trans rfl,(blk_cell BK194.out 4).trans rfl,((HB.out.cell (World.block_lt_of_cell? w _ hw195_0)).trans hw195_0),((HB.out.cell (World.block_lt_of_cell? w _ hw195_1)).trans hw195_1),((HB.out.cell (World.block_lt_of_cell? w _ hw195_2)).trans hw195_2),((HB.out.cell (World.block_lt_of_cell? w _ hw196_0)).trans hw196_0),((HB.out.cell (World.block_lt_of_cell? w _ hw196_1)).trans hw196_1),((HB.out.cell (World.block_lt_of_cell? w _ hw196_2)).trans hw196_2)⟩ (fun hHeld => ?_)
   clear hK K
   refine norm_ (a':=?_) ?_ ?_
   rotate_left
   ·show Act.put _ (some 42) _ = _
    simp only [Act.put,List.setIfInBounds_toArray,List.set_cons_zero,List.set_cons_succ,i64_w,i32_w]
    rfl
   refine manyT_ (fuel:=3) (a':=?_) ((13,0) :: []) #[true,true,true,true,true,true,true,true,true,true,true,true,true,true,false,false,false] rfl HT_ (by kernel_rfl) (fun _ _ _ _ _ h => h) (fun h => absurd h (by decide)) ?_ ?_
   rotate_left
   ·repeat (first | exact Chain.nil _ | (apply Chain.on;rfl;rfl;(focus intro w';go_simp;with_reducible rfl);(focus simp only [Act.put,List.setIfInBounds_toArray,List.set_cons_zero,List.set_cons_succ,i64_w,i32_w];rfl)))
   refine one_ (i:=14) (N:=some 44) #[true,true,true,true,true,true,true,true,true,true,true,true,true,true,true,false,false] rfl rfl (one_of HT_.out (by kernel_rfl)) (by decide) (fun K hK => ?_)
   refine value_ (w1:=?_) (v:=?_) (by rfl) rfl ?_ ?_
   rotate_left 2
   ·go_simp
    constructor
    ·rfl
    rfl
   refine hK.out _ _ ⟨(blk_cell (blk_alloc BK194.out _) 0).trans rfl,(blk_cell (blk_alloc BK194.out _) 1).trans rfl,(blk_cell (blk_alloc BK194.out _) 2).trans rfl,(blk_cell (blk_alloc BK194.out _) 3).trans rfl,(blk_cell (blk_alloc BK194.out _) 4).trans rfl,(World.cell?_alloc_lt _ _ _ (World.block_lt_of_cell? _ _ (((HB.out.cell (World.block_lt_of_cell? w _ hw195_0)).trans hw195_0)))).trans (((HB.out.cell (World.block_lt_of_cell? w _ hw195_0)).trans hw195_0)),(World.cell?_alloc_lt _ _ _ (World.block_lt_of_cell? _ _ (((HB.out.cell (World.block_lt_of_cell? w _ hw195_1)).trans hw195_1)))).trans (((HB.out.cell (World.block_lt_of_cell? w _ hw195_1)).trans hw195_1)),(World.cell?_alloc_lt _ _ _ (World.block_lt_of_cell? _ _ (((HB.out.cell (World.block_lt_of_cell? w _ hw195_2)).trans hw195_2)))).trans (((HB.out.cell (World.block_lt_of_cell? w _ hw195_2)).trans hw195_2)),(World.cell?_alloc_lt _ _ _ (World.block_lt_of_cell? _ _ (((HB.out.cell (World.block_lt_of_cell? w _ hw196_0)).trans hw196_0)))).trans (((HB.out.cell (World.block_lt_of_cell? w _ hw196_0)).trans hw196_0)),(World.cell?_alloc_lt _ _ _ (World.block_lt_of_cell? _ _ (((HB.out.cell (World.block_lt_of_cell? w _ hw196_1)).trans hw196_1)))).trans (((HB.out.cell (World.block_lt_of_cell? w _ hw196_1)).trans hw196_1)),(World.cell?_alloc_lt _ _ _ (World.block_lt_of_cell? _ _ (((HB.out.cell (World.block_lt_of_cell? w _ hw196_2)).trans hw196_2)))).trans (((HB.out.cell (World.block_lt_of_cell? w _ hw196_2)).trans hw196_2))⟩ (fun hHeld => ?_)
   clear hK K
   refine norm_ (a':=?_) ?_ ?_
   rotate_left
   ·show Act.put _ (some 44) _ = _
    simp only [Act.put,List.setIfInBounds_toArray,List.set_cons_zero,List.set_cons_succ,i64_w,i32_w]
    rfl
   refine one_ (i:=15) (N:=some 45) #[true,true,true,true,true,true,true,true,true,true,true,true,true,true,true,true,false] rfl rfl (one_of HT_.out (by kernel_rfl)) (by decide) (fun K hK => ?_)
   refine Kd.S_append_step k54 (w0:=w) w.heap.size (by rfl) (.tmp 30) (.tmp 44) 22 54 (.agg #[(.int .i64 0),(.float .f64 0),(.slice none 0 0)]) 40 rfl Try.underlying22 info54 rfl (by decide) (by omega) u7 x7_1 (⟨(rd_T54 l0 x8_1).f0,(rd_T54 l0 x8_1).f1,y197⟩:S54) [.int .i64 ((rd_T54 l0 x8_1).f0),.float .f64 ((rd_T54 l0 x8_1).f1),.slice Ao18 y197.length co18] (fun k_ => k_ ≠ gb194) (fun k_ => some k_ = (.slice Ao18 y197.length co18:Value).ownBlock) rfl rfl ?aP (fun k_ hk_ => ((Kd.R_mono (ok':=fun k_ => ((fun k_ => k_ ≠ gb194)) k_ ∧ some k_ ≠ (u7:Value).ownBlock) (Kd.R_apart' (HO199.out) (Kd.S_typed HO_7.out) (by decide)) (fun k_ hk => ⟨hk.1.2,hk.2⟩))).1 k_ hk_.symm) ?aF ?aO ?aB ?aS ?aL ?_
   (case aP => exact k54_mkM _ _ _ (⟨(rd_T54 l0 x8_1).f0,(rd_T54 l0 x8_1).f1,y197⟩:S54) (Kd.R_mono (Kd.R_tight rfl (Kd.R_mono (ok':=fun k_ => ((fun k_ => k_ ≠ gb194)) k_ ∧ some k_ ≠ (u7:Value).ownBlock) (Kd.R_apart' (HO199.out) (Kd.S_typed HO_7.out) (by decide)) (fun k_ hk => ⟨hk.1.2,hk.2⟩))) (fun _ h_ => h_)))
   (case aB => exact (by repeat (first | (with_reducible first | exact HB.out | apply below_alloc | apply pw_below_drewN | apply below_drew1 | refine below_set ?_ GE194.out) | exact HB.out)))
   (case aF => exact (fun k_ hk => Kd.freshB (g:=gb194) (o:=.cells #[.int .i64 t188,.int .i64 t189,.float .f64 t190,.float .f64 t191,.int .i64 t192] 56 (0,0)) (by (with_reducible repeat (first | refine blk_drewN ?_ _ | refine blk_drew ?_ | refine blk_alloc ?_ _));exact BK194.out) k_ hk))
   (case aO => exact (by (with_reducible repeat (first | apply Kd.S_alloc | apply Kd.S_drewN | apply Kd.S_drew));exact Kd.S_mono HO_7.out (fun k_ hk => ⟨hk.1,fun e_ => hk.2 e_⟩)))
   (case aS => exact (below_size (by repeat (first | (with_reducible first | exact HB.out | apply below_alloc | apply pw_below_drewN | apply below_drew1 | refine below_set ?_ GE194.out) | exact HB.out))))
   (case aL => have:=LMc10.out;omega)
   intro v201 w19 ho hb hg hat
   rw [← Ny200.out] at ho
   have n0_:=Aside0.mk (blk_grown (g:=gb194) (o:=.cells #[.int .i64 t188,.int .i64 t189,.float .f64 t190,.float .f64 t191,.int .i64 t192] 56 (0,0)) (by (with_reducible repeat (first | refine blk_drewN ?_ _ | refine blk_drew ?_ | refine blk_alloc ?_ _));exact BK194.out) hg (Kd.S_ne HO_7.out BK194.out (by decide)))
   have n1_:=Aside0.mk (hb)
   have n2_:=Aside0.mk (ho)
   clear BK194
   clear HB
   clear HO_7
   clear HO199
   have BK194:=n0_
   have HB:=n1_
   have HO202:=n2_
   clear n0_ n1_ n2_
   clear ho hb hg hat
   refine hK.out _ _ ⟨(blk_cell BK194.out 0).trans rfl,(blk_cell BK194.out 1).trans rfl,(blk_cell BK194.out 2).trans rfl,(blk_cell BK194.out 3).trans rfl,(blk_cell BK194.out 4).trans rfl,((HB.out.cell (World.block_lt_of_cell? w _ hw195_0)).trans hw195_0),((HB.out.cell (World.block_lt_of_cell? w _ hw195_1)).trans hw195_1),((HB.out.cell (World.block_lt_of_cell? w _ hw195_2)).trans hw195_2),((HB.out.cell (World.block_lt_of_cell? w _ hw196_0)).trans hw196_0),((HB.out.cell (World.block_lt_of_cell? w _ hw196_1)).trans hw196_1),((HB.out.cell (World.block_lt_of_cell? w _ hw196_2)).trans hw196_2)⟩ (fun hHeld => ?_)
   clear hK K
   refine norm_ (a':=?_) ?_ ?_
   rotate_left
   ·show Act.put _ (some 45) _ = _
    simp only [Act.put,List.setIfInBounds_toArray,List.set_cons_zero,List.set_cons_succ,i64_w,i32_w]
    rfl
   refine manyT_ (fuel:=0) (a':=?_) ((16,0) :: []) #[true,true,true,true,true,true,true,true,true,true,true,true,true,true,true,true,true] rfl HT_ (by kernel_rfl) (fun _ _ _ _ _ h => h) (fun h => absurd h (by decide)) ?_ ?_
   rotate_left
   ·repeat (first | exact Chain.nil _ | (apply Chain.on;rfl;rfl;(focus intro w';go_simp;with_reducible rfl);(focus simp only [Act.put,List.setIfInBounds_toArray,List.set_cons_zero,List.set_cons_succ,i64_w,i32_w];rfl)))
   refine done_ (done_of HT_.out (by kernel_rfl)) ?_
   try go_wp2
   go_roundg k1
   case measure => have:=HK1.out;omega
   case rel => exact ⟨(y200),(wrap64 (x8_1 + 1)),(by first | rfl | (simp;done) | (simp [*];done)),H',⟨by have:=HK1.out;omega⟩,⟨by (with_reducible repeat (first | apply Kd.S_alloc | apply Kd.S_drewN | apply Kd.S_drew));exact Kd.S_mono HO202.out (fun _ hk => trivial)⟩,⟨by repeat (first | (with_reducible first | exact HB.out | apply below_alloc | apply pw_below_drewN | apply below_drew1 | refine below_set ?_ GE194.out) | exact HB.out)⟩⟩
def beaconref01_Nan.f  : Option (Nat):=some 9221120237041090560
set_option maxHeartbeats 8000000 in
set_option maxRecDepth 100000 in
theorem beaconref01_Nan.calls  (r:Nat) (w:World) (h:beaconref01_Nan.f  = some r) :
  Calls Try.prog 80 #[] w fun e w' => e = .returned (.float .f64 r) ∧ Drawn0 w w':=by
 have hX72:=run_Float64frombits Try.func72 (by kernel_rfl) (by kernel_rfl) (by kernel_rfl) (by kernel_rfl)
 have H:(some 9221120237041090560) = some r:=h
 clear h
 obtain rfl:=Option.some.inj H
 go_enter Try.func80,Try.ntmps80
 go_wp2
 go_ret
 exact ⟨by first | rfl | (simp;done) | (simp [*];done),by repeat (first | exact Drawn0.refl _ | apply Drawn0.step)⟩
def beaconref01_Add.f (a0:Nat) (a1:Nat) (a2:Nat):Option (Nat):=(floatBits .add .f64 a0 a1).bind fun t203 => ((beaconref01_nan.f t203).bind fun t204 => (if t204 = true then ((beaconref01_Nan.f).bind fun t205 => (some t205)) else (if (FloatKind.f64.format.order t203 a2 == some .lt) = true then (if (FloatKind.f64.format.order t203 0 == some .eq) = true then (some 0) else (some t203)) else ((math_Inf.f 1).bind fun t206 => (some t206)))))
set_option maxHeartbeats 8000000 in
set_option maxRecDepth 100000 in
theorem beaconref01_Add.calls (a0:Nat) (a1:Nat) (a2:Nat) (r:Nat) (w:World) (h:beaconref01_Add.f a0 a1 a2 = some r) :
  Calls Try.prog 47 #[.float .f64 a0,.float .f64 a1,.float .f64 a2] w fun e w' => e = .returned (.float .f64 r) ∧ Drawn0 w w':=by
 have H:((floatBits .add .f64 a0 a1).bind fun t203 => ((beaconref01_nan.f t203).bind fun t204 => (if t204 = true then ((beaconref01_Nan.f).bind fun t205 => (some t205)) else (if (FloatKind.f64.format.order t203 a2 == some .lt) = true then (if (FloatKind.f64.format.order t203 0 == some .eq) = true then (some 0) else (some t203)) else ((math_Inf.f 1).bind fun t206 => (some t206)))))) = some r:=h
 clear h
 replace H:=Option.bind_eq_some_iff.mp H
 obtain ⟨t203,A40,H⟩:=H
 replace H:((beaconref01_nan.f t203).bind fun t204 => (if t204 = true then ((beaconref01_Nan.f).bind fun t205 => (some t205)) else (if (FloatKind.f64.format.order t203 a2 == some .lt) = true then (if (FloatKind.f64.format.order t203 0 == some .eq) = true then (some 0) else (some t203)) else ((math_Inf.f 1).bind fun t206 => (some t206))))) = some r:=H
 have A4f:∀ W_:World,(binOp .add 23 (.float .f64 a0) (.float .f64 a1)).run Try.prog W_ = .ok (.float .f64 t203) W_:=fun W_ => run_float_arith W_ .add 23 .f64 _ _ _ A40
 have A4:=Aside0.mk A40
 clear A40
 replace H:=Option.bind_eq_some_iff.mp H
 obtain ⟨t204,A50,H⟩:=H
 replace H:(if t204 = true then ((beaconref01_Nan.f).bind fun t205 => (some t205)) else (if (FloatKind.f64.format.order t203 a2 == some .lt) = true then (if (FloatKind.f64.format.order t203 0 == some .eq) = true then (some 0) else (some t203)) else ((math_Inf.f 1).bind fun t206 => (some t206)))) = some r:=H
 have A5:=Aside0.mk A50
 clear A50
 by_cases c6:t204 = true
 ·subst c6
  have H1:((beaconref01_Nan.f).bind fun t205 => (some t205)) = some r:=by rw [if_pos rfl] at H;exact H
  clear H
  have H:=H1
  clear H1
  replace H:=Option.bind_eq_some_iff.mp H
  obtain ⟨t205,A70,H⟩:=H
  replace H:(some t205) = some r:=H
  have A7:=Aside0.mk A70
  clear A70
  obtain rfl:=Option.some.inj H
  go_enter Try.func47,Try.ntmps47
  go_wp2_with (first | ((with_reducible refine gate_callee (f:=79) rfl ?_);refine goesL_ (some 12) rfl rfl Try.func79 (by kernel_rfl) rfl #[.float .f64 t203] rfl (by (try simp only [List.map_toArray,List.map_cons,List.map_nil]);first | done | rfl | (simp only [List.length_drop,List.length_take];rfl)) ?_;(with_reducible refine (beaconref01_nan.calls t203 true _ A5.out).mono ?_);rintro e w' ⟨rfl,⟨nd,rfl⟩⟩;refine ⟨_,rfl,?_⟩) | ((with_reducible refine gate_callee (f:=80) rfl ?_);refine goesL_ (some 13) rfl rfl Try.func80 (by kernel_rfl) rfl #[] rfl (by (try simp only [List.map_toArray,List.map_cons,List.map_nil]);first | done | rfl | (simp only [List.length_drop,List.length_take];rfl)) ?_;(with_reducible refine (beaconref01_Nan.calls  t205 _ A7.out).mono ?_);rintro e w' ⟨rfl,⟨nd,rfl⟩⟩;refine ⟨_,rfl,?_⟩))
  go_ret
  exact ⟨by first | rfl | (simp;done) | (simp [*];done),by repeat (first | exact Drawn0.refl _ | apply Drawn0.step)⟩
 replace c6:=Bool.eq_false_iff.mpr c6
 subst c6
 have H1:(if (FloatKind.f64.format.order t203 a2 == some .lt) = true then (if (FloatKind.f64.format.order t203 0 == some .eq) = true then (some 0) else (some t203)) else ((math_Inf.f 1).bind fun t206 => (some t206))) = some r:=by rw [if_neg (show ¬ (false = true) by decide)] at H;exact H
 clear H
 have H:=H1
 clear H1
 by_cases c8:(FloatKind.f64.format.order t203 a2 == some .lt) = true
 ·rw [if_pos c8] at H
  have c8b0:(FloatKind.f64.format.order t203 a2 == some .lt) = true:=c8
  (try (have c8b1:decide (FloatKind.f64.format.order t203 a2 = some .lt) = true:=by simpa using c8))
  (try (have c8b2:(FloatKind.f64.format.order t203 a2 == some .lt) = true:=by simpa using c8))
  clear c8
  by_cases c9:(FloatKind.f64.format.order t203 0 == some .eq) = true
  ·rw [if_pos c9] at H
   have c9b0:(FloatKind.f64.format.order t203 0 == some .eq) = true:=c9
   (try (have c9b1:decide (FloatKind.f64.format.order t203 0 = some .eq) = true:=by simpa using c9))
   (try (have c9b2:(FloatKind.f64.format.order t203 0 == some .eq) = true:=by simpa using c9))
   clear c9
   obtain rfl:=Option.some.inj H
   go_enter Try.func47,Try.ntmps47
   go_wp2_with (first | ((with_reducible refine gate_callee (f:=79) rfl ?_);refine goesL_ (some 12) rfl rfl Try.func79 (by kernel_rfl) rfl #[.float .f64 t203] rfl (by (try simp only [List.map_toArray,List.map_cons,List.map_nil]);first | done | rfl | (simp only [List.length_drop,List.length_take];rfl)) ?_;(with_reducible refine (beaconref01_nan.calls t203 false _ A5.out).mono ?_);rintro e w' ⟨rfl,⟨nd,rfl⟩⟩;refine ⟨_,rfl,?_⟩))
   go_ret
   exact ⟨by first | rfl | (simp;done) | (simp [*];done),by repeat (first | exact Drawn0.refl _ | apply Drawn0.step)⟩
  rw [if_neg c9] at H
  have c9b0:(FloatKind.f64.format.order t203 0 == some .eq) = false:=by simpa using c9
  (try (have c9b1:decide (FloatKind.f64.format.order t203 0 = some .eq) = false:=by simpa using c9))
  (try (have c9b2:(FloatKind.f64.format.order t203 0 == some .eq) = false:=by simpa using c9))
  (try (have c9b3:¬ (FloatKind.f64.format.order t203 0 = some .eq):=by simpa using c9))
  clear c9
  obtain rfl:=Option.some.inj H
  go_enter Try.func47,Try.ntmps47
  go_wp2_with (first | ((with_reducible refine gate_callee (f:=79) rfl ?_);refine goesL_ (some 12) rfl rfl Try.func79 (by kernel_rfl) rfl #[.float .f64 t203] rfl (by (try simp only [List.map_toArray,List.map_cons,List.map_nil]);first | done | rfl | (simp only [List.length_drop,List.length_take];rfl)) ?_;(with_reducible refine (beaconref01_nan.calls t203 false _ A5.out).mono ?_);rintro e w' ⟨rfl,⟨nd,rfl⟩⟩;refine ⟨_,rfl,?_⟩))
  go_ret
  exact ⟨by first | rfl | (simp;done) | (simp [*];done),by repeat (first | exact Drawn0.refl _ | apply Drawn0.step)⟩
 rw [if_neg c8] at H
 have c8b0:(FloatKind.f64.format.order t203 a2 == some .lt) = false:=by simpa using c8
 (try (have c8b1:decide (FloatKind.f64.format.order t203 a2 = some .lt) = false:=by simpa using c8))
 (try (have c8b2:(FloatKind.f64.format.order t203 a2 == some .lt) = false:=by simpa using c8))
 (try (have c8b3:¬ (FloatKind.f64.format.order t203 a2 = some .lt):=by simpa using c8))
 clear c8
 replace H:=Option.bind_eq_some_iff.mp H
 obtain ⟨t206,A100,H⟩:=H
 replace H:(some t206) = some r:=H
 have A10:=Aside0.mk A100
 clear A100
 obtain rfl:=Option.some.inj H
 go_enter Try.func47,Try.ntmps47
 go_wp2_with (first | ((with_reducible refine gate_callee (f:=79) rfl ?_);refine goesL_ (some 12) rfl rfl Try.func79 (by kernel_rfl) rfl #[.float .f64 t203] rfl (by (try simp only [List.map_toArray,List.map_cons,List.map_nil]);first | done | rfl | (simp only [List.length_drop,List.length_take];rfl)) ?_;(with_reducible refine (beaconref01_nan.calls t203 false _ A5.out).mono ?_);rintro e w' ⟨rfl,⟨nd,rfl⟩⟩;refine ⟨_,rfl,?_⟩) | ((with_reducible refine gate_callee (f:=40) rfl ?_);refine goesL_ (some 20) rfl rfl Try.func40 (by kernel_rfl) rfl #[.int .i64 1] rfl (by (try simp only [List.map_toArray,List.map_cons,List.map_nil]);first | done | rfl | (simp only [List.length_drop,List.length_take];rfl)) ?_;(with_reducible refine (math_Inf.calls 1 t206 _ A10.out).mono ?_);rintro e w' ⟨rfl,⟨nd,rfl⟩⟩;refine ⟨_,rfl,?_⟩))
 go_ret
 exact ⟨by first | rfl | (simp;done) | (simp [*];done),by repeat (first | exact Drawn0.refl _ | apply Drawn0.step)⟩
end Go.Proofs.Ytjcnmpkaiopihaa.PA
