/- Printed by a program of this session (wip/tools/patch_print.py and pr.py, over the kit's print): each Go function as a plain Lean function, and that the Go code comes to just its answers. Conditions: those that each theorem names. -/
import Derived.Test.YtmdkcecbklgihaaCcPAx0
import Derived.Test.YtmdkcecbklgihaaCcPAx5
import Derived.Test.YtmdkcecbklgihaaCoPAx6
import Derived.Test.YtmdkcecbklgihaaCcPAx8
import Derived.Test.YtmdkcecbklgihaaCcHw
namespace Go.Proofs.Ytmdkcecbklgihaa.PA
open Go.RowKit Go.Proofs.YtmdkcecbklgihaaW.PrintWords Go.Proofs.YtmdkcecbklgihaaW.PrintLast Go.Proofs.YtmdkcecbklgihaaW.PrintMore
attribute [local go_sem] max2_int min2_int max_two min_two max_three min_three max_four min_four
set_option linter.unusedVariables false
set_option linter.unusedSimpArgs false
noncomputable def beaconref08_Nexts.l0:Nat → Nat → Int → List Int → Int → List (S40) → List (S74) → Option (List Int × Int)
 | 0,_,_,_,_,_,_ => none
 | k + 1,x1,x2,x9,x10,x225000,x225001 => if x10 < (x225000.length:Int) then (if 0 ≤ x10 then ((beaconref08_dists.f k x225000 x225001 x1 ((rd_T40 x225000 x10).f0)).bind fun t228 => ((beaconref08_next.f k x225000 x225001 x2 ((rd_T40 x225000 x10).f0) t228).bind fun t231 => (if x9.length < 17592186044416 then (beaconref08_Nexts.l0 k x1 x2 (x9 ++ [t231]) (wrap64 (x10 + 1)) x225000 x225001) else (none)))) else (none)) else (some (x9,0))
noncomputable def beaconref08_Nexts.f (k:Nat) (l0_0:List (S40)) (l0_1:List (S74)) (a1:Nat) (a2:Int):Option (List Int × Int):=(beaconref08_asked.f k l0_0 l0_1 a1 a2).bind fun t225 => (if t225 = 0 then (beaconref08_Nexts.l0 k a1 a2 ([]:List Int) 0 l0_0 l0_1) else (some (([]:List Int),t225)))
theorem beaconref08_Nexts.mono_l:∀ k,(∀ y0 y1 y2 y3 y4 y5,LeO (beaconref08_Nexts.l0 k y0 y1 y2 y3 y4 y5) (beaconref08_Nexts.l0 (k + 1) y0 y1 y2 y3 y4 y5))
 | 0 => fun _ _ _ _ _ _ r h => by simp [beaconref08_Nexts.l0] at h
 | k + 1 => by
  have ih0:=beaconref08_Nexts.mono_l k
  intro y0 y1 y2 y3 y4 y5
  unfold beaconref08_Nexts.l0
  repeat' first
  | (with_reducible exact ih0 _ _ _ _ _ _)
  | (with_reducible exact beaconref08_asked.mono _ _ _ _ _)
  | (with_reducible exact beaconref08_dists.mono _ _ _ _ _)
  | (with_reducible exact beaconref08_next.mono _ _ _ _ _ _)
  | (with_reducible exact LeO.refl _)
  | (with_reducible exact LeO.none _)
  | (with_reducible refine LeO.ite ?_ ?_)
  | (with_reducible refine LeO.bind ?_ (fun _ => ?_))
  | exact ih0 _ _ _ _ _ _
  | exact beaconref08_asked.mono _ _ _ _ _
  | exact beaconref08_dists.mono _ _ _ _ _
  | exact beaconref08_next.mono _ _ _ _ _ _
  | exact LeO.none _
  | refine LeO.ite ?_ ?_
  | refine LeO.bind ?_ (fun _ => ?_)
theorem beaconref08_Nexts.mono:∀ a0 a1 a2 a3 k,LeO (beaconref08_Nexts.f k a0 a1 a2 a3) (beaconref08_Nexts.f (k + 1) a0 a1 a2 a3):=by
 intro a0 a1 a2 a3 k
 have ih0:=beaconref08_Nexts.mono_l k
 unfold beaconref08_Nexts.f
 repeat' first
   | (with_reducible exact ih0 _ _ _ _ _ _)
   | (with_reducible exact beaconref08_asked.mono _ _ _ _ _)
   | (with_reducible exact beaconref08_dists.mono _ _ _ _ _)
   | (with_reducible exact beaconref08_next.mono _ _ _ _ _ _)
   | (with_reducible exact LeO.refl _)
   | (with_reducible exact LeO.none _)
   | (with_reducible refine LeO.ite ?_ ?_)
   | (with_reducible refine LeO.bind ?_ (fun _ => ?_))
   | exact ih0 _ _ _ _ _ _
   | exact beaconref08_asked.mono _ _ _ _ _
   | exact beaconref08_dists.mono _ _ _ _ _
   | exact beaconref08_next.mono _ _ _ _ _ _
   | exact LeO.none _
   | refine LeO.ite ?_ ?_
   | refine LeO.bind ?_ (fun _ => ?_)
noncomputable def beaconlaw08_ints.l0:Nat → List Int → List Int → Int → Option (Bool)
 | 0,_,_,_ => none
 | k + 1,x0,x1,x5 => if x5 < (x0.length:Int) then (if 0 ≤ x5 then (if x5 < (x1.length:Int) then (if (rd x0 x5) = (rd x1 x5) then (beaconlaw08_ints.l0 k x0 x1 (wrap64 (x5 + 1))) else (some false)) else (none)) else (none)) else (some true)
noncomputable def beaconlaw08_ints.f (k:Nat) (l0:List Int) (l1:List Int):Option (Bool):=if (l0.length:Int) = (l1.length:Int) then (beaconlaw08_ints.l0 k l0 l1 0) else (some false)
set_option maxHeartbeats 8000000 in
set_option maxRecDepth 100000 in
theorem beaconlaw08_ints.calls (k:Nat) (A0:Option Addr) (c0:Nat) (l0:List Int) (A1:Option Addr) (c1:Nat) (l1:List Int) (r:Bool) (w:World) (hr0:Kd.C (Kd.int .i64) w A0 l0.length l0) (hc0:l0.length ≤ c0) (hr1:Kd.C (Kd.int .i64) w A1 l1.length l1) (hc1:l1.length ≤ c1) (h:beaconlaw08_ints.f k l0 l1 = some r) :
  Calls Try.prog 13 #[.slice A0 l0.length c0,.slice A1 l1.length c1] w fun e w' => e = .returned (.bool r) ∧ Drawn0 w w':=by
 have HR0:=Aside0.mk hr0
 have HC0:=Aside0.mk hc0
 clear hr0 hc0
 have HR1:=Aside0.mk hr1
 have HC1:=Aside0.mk hc1
 clear hr1 hc1
 have H:(if (l0.length:Int) = (l1.length:Int) then (beaconlaw08_ints.l0 k l0 l1 0) else (some false)) = some r:=h
 clear h
 by_cases c3:(l0.length:Int) = (l1.length:Int)
 rotate_left
 ·rw [if_neg c3] at H
  have c3b0:((l0.length:Int) == (l1.length:Int)) = false:=beq_eq_false_iff_ne.mpr c3
  have c3b1:((l0.length:Int) != (l1.length:Int)) = true:=bne_iff_ne.mpr c3
  have c3b2:(l0.length == l1.length) = false:=by first | simpa using c3 | (simp at c3 ⊢;omega)
  obtain rfl:=Option.some.inj H
  go_enter Try.func13,Try.ntmps13
  go_wp2
  repeat (go_quiet (fail);try go_wp2)
  go_ret
  exact ⟨by first | rfl | (simp;done) | (simp [*];done),by repeat (first | exact Drawn0.refl _ | apply Drawn0.step)⟩
 rw [if_pos c3] at H
 have c3b0:((l0.length:Int) == (l1.length:Int)) = true:=beq_iff_eq.mpr c3
 have c3b1:((l0.length:Int) != (l1.length:Int)) = false:=bne_eq_false_iff_eq.mpr c3
 have c3b2:(l0.length == l1.length) = true:=by first | simpa using c3 | (simp at c3 ⊢;omega)
 clear c3
 have H':=Aside0.mk H
 clear H
 go_enter Try.func13,Try.ntmps13
 go_wp2
 repeat (go_quiet (fail);try go_wp2)
 go_loopg [5] k (fun kq v5 w' => ∃ (x5_1:Int),v5 = .int .i64 x5_1 ∧ Aside0 (beaconlaw08_ints.l0 kq l0 l1 x5_1 = some r) ∧ Aside0 (kq ≤ k) ∧ Drawn0 w w')
 case atStart => exact ⟨(0),(by first | rfl | (simp;done) | (simp [*];done)),H',⟨Nat.le_refl _⟩,by repeat (first | exact Drawn0.refl _ | apply Drawn0.step)⟩
 case round =>
  clear H'
  obtain ⟨x5_1,rfl,HA,HK1,⟨m1,rfl⟩⟩:=hrel
  cases gk with
  | zero => exact absurd HA.out (by simp [beaconlaw08_ints.l0])
  | succ k1 =>
   have H:=HA.out
   clear HA
   simp only [beaconlaw08_ints.l0] at H
   by_cases c4:x5_1 < (l0.length:Int)
   rotate_left
   ·rw [if_neg c4] at H
    have c4b0:decide (x5_1 < (l0.length:Int)) = false:=decide_eq_false c4
    clear c4
    obtain rfl:=Option.some.inj H
    go_wp2
    repeat (go_quiet (fail);try go_wp2)
    go_ret
    exact ⟨by first | rfl | (simp;done) | (simp [*];done),by repeat (first | exact Drawn0.refl _ | apply Drawn0.step)⟩
   rw [if_pos c4] at H
   have c4b0:decide (x5_1 < (l0.length:Int)) = true:=decide_eq_true c4
   clear c4
   by_cases c5:0 ≤ x5_1
   rotate_left
   ·rw [if_neg c5] at H
    exact absurd H (by simp)
   rw [if_pos c5] at H
   have c5b0:decide (0 ≤ x5_1) = true:=decide_eq_true c5
   clear c5
   by_cases c6:x5_1 < (l1.length:Int)
   rotate_left
   ·rw [if_neg c6] at H
    exact absurd H (by simp)
   rw [if_pos c6] at H
   have c6b0:decide (x5_1 < (l1.length:Int)) = true:=decide_eq_true c6
   clear c6
   by_cases c7:(rd l0 x5_1) = (rd l1 x5_1)
   ·rw [if_pos c7] at H
    have c7b0:((rd l0 x5_1) == (rd l1 x5_1)) = true:=beq_iff_eq.mpr c7
    have c7b1:((rd l0 x5_1) != (rd l1 x5_1)) = false:=bne_eq_false_iff_eq.mpr c7
    clear c7
    have H':=Aside0.mk H
    clear H
    have p235:0 ≤ (x5_1:Int):=of_decide_eq_true (by first | (with_reducible assumption) | assumption)
    have q235:x5_1 < (l0.length:Int):=of_decide_eq_true (by first | (with_reducible assumption) | assumption)
    obtain ⟨ad235,e235,hx235_0⟩:=Kd.at_int HR0.out x5_1 p235 q235
    cases e235
    replace p235:=eq_true p235
    replace q235:=eq_true q235
    have p236:0 ≤ (x5_1:Int):=of_decide_eq_true (by first | (with_reducible assumption) | assumption)
    have q236:x5_1 < (l1.length:Int):=of_decide_eq_true (by first | (with_reducible assumption) | assumption)
    obtain ⟨ad236,e236,hx236_0⟩:=Kd.at_int HR1.out x5_1 p236 q236
    cases e236
    replace p236:=eq_true p236
    replace q236:=eq_true q236
    go_wp2
    repeat (go_quiet (fail);try go_wp2)
    go_roundg k1
    case measure => have:=HK1.out;omega
    case rel => exact ⟨(wrap64 (x5_1 + 1)),(by first | rfl | (simp;done) | (simp [*];done)),H',⟨by have:=HK1.out;omega⟩,by repeat (first | exact Drawn0.refl _ | apply Drawn0.step)⟩
   rw [if_neg c7] at H
   have c7b0:((rd l0 x5_1) == (rd l1 x5_1)) = false:=beq_eq_false_iff_ne.mpr c7
   have c7b1:((rd l0 x5_1) != (rd l1 x5_1)) = true:=bne_iff_ne.mpr c7
   obtain rfl:=Option.some.inj H
   have p235:0 ≤ (x5_1:Int):=of_decide_eq_true (by first | (with_reducible assumption) | assumption)
   have q235:x5_1 < (l0.length:Int):=of_decide_eq_true (by first | (with_reducible assumption) | assumption)
   obtain ⟨ad235,e235,hx235_0⟩:=Kd.at_int HR0.out x5_1 p235 q235
   cases e235
   replace p235:=eq_true p235
   replace q235:=eq_true q235
   have p236:0 ≤ (x5_1:Int):=of_decide_eq_true (by first | (with_reducible assumption) | assumption)
   have q236:x5_1 < (l1.length:Int):=of_decide_eq_true (by first | (with_reducible assumption) | assumption)
   obtain ⟨ad236,e236,hx236_0⟩:=Kd.at_int HR1.out x5_1 p236 q236
   cases e236
   replace p236:=eq_true p236
   replace q236:=eq_true q236
   go_wp2
   repeat (go_quiet (fail);try go_wp2)
   go_ret
   exact ⟨by first | rfl | (simp;done) | (simp [*];done),by repeat (first | exact Drawn0.refl _ | apply Drawn0.step)⟩
noncomputable def beaconlaw08_small.f  : Option ((List (S40)) × (List (S74))):=some ((([(⟨1,true,false⟩:S40),(⟨2,true,false⟩:S40),(⟨3,true,false⟩:S40)]:List (S40))),(([(⟨1,2,4611686018427387904,true⟩:S74),(⟨1,3,4613937818241073152,true⟩:S74),(⟨2,3,4607182418800017408,true⟩:S74)]:List (S74))))
set_option maxHeartbeats 8000000 in
set_option maxRecDepth 100000 in
theorem beaconlaw08_small.calls  (r1:List (S40)) (r2:List (S74)) (w:World) (h:beaconlaw08_small.f  = some (r1,r2)) :
  Calls Try.prog 37 #[] w fun e w' => ∃ v0_ v1_:Value,e = .returned (.agg #[v0_,v1_]) ∧ Kd.R k40 40 w' w.heap.size (fun _ => True) v0_ r1 ∧ Kd.R k74 74 w' w.heap.size (fun _ => True) v1_ r2 ∧ Below w.heap.size w w':=by
 have hu25:=Try.underlying25
 have hu40:=Try.underlying40
 have hu74:=Try.underlying74
 have HB:=Aside0.mk (Below.refl w.heap.size w)
 have H:(some ((([(⟨1,true,false⟩:S40),(⟨2,true,false⟩:S40),(⟨3,true,false⟩:S40)]:List (S40))),(([(⟨1,2,4611686018427387904,true⟩:S74),(⟨1,3,4613937818241073152,true⟩:S74),(⟨2,3,4607182418800017408,true⟩:S74)]:List (S74))))) = some (r1,r2):=h
 clear h
 obtain ⟨y238,hy238⟩:∃ y_:List (S40),y_ = (([(⟨1,true,false⟩:S40),(⟨2,true,false⟩:S40),(⟨3,true,false⟩:S40)]:List (S40))):=⟨_,rfl⟩
 replace H:(some (y238,(([(⟨1,2,4611686018427387904,true⟩:S74),(⟨1,3,4613937818241073152,true⟩:S74),(⟨2,3,4607182418800017408,true⟩:S74)]:List (S74))))) = some (r1,r2):=by first | (rw [hy238];with_reducible exact H) | (have H2_:=(Option.bind_some _ _).symm.trans H;rw [hy238];with_reducible exact H2_) | (have H2_:=(Option.bind_some _ _).symm.trans H;with_reducible exact H2_) | with_reducible exact H | (rw [hy238];exact H) | exact H
 have Ny238:=Aside0.mk hy238
 clear hy238
 obtain ⟨y241,hy241⟩:∃ y_:List (S74),y_ = (([(⟨1,2,4611686018427387904,true⟩:S74),(⟨1,3,4613937818241073152,true⟩:S74),(⟨2,3,4607182418800017408,true⟩:S74)]:List (S74))):=⟨_,rfl⟩
 replace H:(some (y238,y241)) = some (r1,r2):=by first | (rw [hy241];with_reducible exact H) | (have H2_:=(Option.bind_some _ _).symm.trans H;rw [hy241];with_reducible exact H2_) | (have H2_:=(Option.bind_some _ _).symm.trans H;with_reducible exact H2_) | with_reducible exact H | (rw [hy241];exact H) | exact H
 have Ny241:=Aside0.mk hy241
 clear hy241
 simp only [Option.some.injEq,Prod.mk.injEq] at H
 obtain ⟨rfl,rfl⟩:=H
 go_enter Try.func37,Try.ntmps37
 go_wp2_with (first | ((with_reducible refine gate_dst (N:=0) rfl ?_);refine box_event ?hg (N:=0) ?hd (cs:=#[.slice none 0 0,.slice none 0 0]) (t:=25) ?hr ?_;(case hd => rfl);(case hg => rfl);(case hr => first | (go_simp;done) | (go_simp;rfl));intro gb237 hg w1 hbox hb;have n0_:=Aside0.mk (below_step (by repeat (first | (with_reducible first | exact HB.out | apply below_alloc | apply pw_below_drewN | apply below_drew1) | exact HB.out)) hb);have n1_:=Aside0.mk (hbox);have n2_:=Aside0.mk ((by rw [hg];exact (below_size (by repeat (first | (with_reducible first | exact HB.out | apply below_alloc | apply pw_below_drewN | apply below_drew1) | exact HB.out))):w.heap.size ≤ gb237));have n3_:=Aside0.mk ((by rw [hg];exact (below_size (by repeat (first | (with_reducible first | exact HB.out | apply below_alloc | apply pw_below_drewN | apply below_drew1) | exact HB.out))):w.heap.size ≤ gb237));clear HB;have HB:=n0_;have BK237:=n1_;have GW237:=n2_;have GE237:=n3_;clear n0_ n1_ n2_ n3_;clear hb hbox hg) | ((with_reducible refine gate_dst (N:=4) rfl ?_);refine Kd.R_lit k40 _ 40 ?hg (N:=4) ?hd (xs:=([(⟨1,true,false⟩:S40),(⟨2,true,false⟩:S40),(⟨3,true,false⟩:S40)]:List (S40))) (inner:=[.int .i64 1,.bool true,.bool false,.int .i64 2,.bool true,.bool false,.int .i64 3,.bool true,.bool false]) (ok:=fun _ => True) (okp:=fun _ => True) ?hr ?hp (fun _ hk => hk) trivial (Below.refl _ _) (Nat.le_refl _) (by simp) ?_;(case hd => rfl);(case hg => rfl);(case hr => first | (go_simp;done) | (go_simp;rfl));(case hp => exact (Reps.c3 (show Kd.M k40 _ _ _ (⟨1,true,false⟩:S40) [.int .i64 1,.bool true,.bool false] from (k40_mkM _ _ _ (⟨1,true,false⟩:S40) )) (Reps.c3 (show Kd.M k40 _ _ _ (⟨2,true,false⟩:S40) [.int .i64 2,.bool true,.bool false] from (k40_mkM _ _ _ (⟨2,true,false⟩:S40) )) (Reps.c3 (show Kd.M k40 _ _ _ (⟨3,true,false⟩:S40) [.int .i64 3,.bool true,.bool false] from (k40_mkM _ _ _ (⟨3,true,false⟩:S40) )) (Reps.none _ _)))));intro v239 w2 ho3 hb hg_ hnew_;clear hg_ hnew_;(first | rw [← Ny238.out] at ho3 | (simp only [Int.reduceToNat] at ho3;rw [← Ny238.out] at ho3));have n0_:=Aside0.mk (Kd.R_lower ho3 (below_size (by repeat (first | (with_reducible first | exact HB.out | apply below_alloc | apply pw_below_drewN | apply below_drew1 | refine below_set ?_ GE237.out) | exact HB.out))));have n1_:=Aside0.mk (blk_below (g:=gb237) (o:=.cells #[.slice none 0 0,.slice none 0 0] 25 (0,0)) (by (with_reducible repeat (first | refine blk_drewN ?_ _ | refine blk_drew ?_ | refine blk_alloc ?_ _));exact BK237.out) hb);have n2_:=Aside0.mk (below_step (by repeat (first | (with_reducible first | exact HB.out | apply below_alloc | apply pw_below_drewN | apply below_drew1 | refine below_set ?_ GE237.out) | exact HB.out)) hb);clear BK237;clear HB;have HO240:=n0_;have BK237:=n1_;have HB:=n2_;clear n0_ n1_ n2_;clear hb ho3) | ((with_reducible refine gate_dst (N:=8) rfl ?_);refine Kd.R_lit k74 _ 74 ?hg (N:=8) ?hd (xs:=([(⟨1,2,4611686018427387904,true⟩:S74),(⟨1,3,4613937818241073152,true⟩:S74),(⟨2,3,4607182418800017408,true⟩:S74)]:List (S74))) (inner:=[.int .i64 1,.int .i64 2,.float .f64 4611686018427387904,.bool true,.int .i64 1,.int .i64 3,.float .f64 4613937818241073152,.bool true,.int .i64 2,.int .i64 3,.float .f64 4607182418800017408,.bool true]) (ok:=fun _ => True) (okp:=fun _ => True) ?hr ?hp (fun _ hk => hk) trivial (Below.refl _ _) (Nat.le_refl _) (by simp) ?_;(case hd => rfl);(case hg => rfl);(case hr => first | (go_simp;done) | (go_simp;rfl));(case hp => exact (Reps.c4 (show Kd.M k74 _ _ _ (⟨1,2,4611686018427387904,true⟩:S74) [.int .i64 1,.int .i64 2,.float .f64 4611686018427387904,.bool true] from (k74_mkM _ _ _ (⟨1,2,4611686018427387904,true⟩:S74) )) (Reps.c4 (show Kd.M k74 _ _ _ (⟨1,3,4613937818241073152,true⟩:S74) [.int .i64 1,.int .i64 3,.float .f64 4613937818241073152,.bool true] from (k74_mkM _ _ _ (⟨1,3,4613937818241073152,true⟩:S74) )) (Reps.c4 (show Kd.M k74 _ _ _ (⟨2,3,4607182418800017408,true⟩:S74) [.int .i64 2,.int .i64 3,.float .f64 4607182418800017408,.bool true] from (k74_mkM _ _ _ (⟨2,3,4607182418800017408,true⟩:S74) )) (Reps.none _ _)))));intro v242 w4 ho5 hb hg_ hnew_;clear hg_ hnew_;(first | rw [← Ny241.out] at ho5 | (simp only [Int.reduceToNat] at ho5;rw [← Ny241.out] at ho5));have n0_:=Aside0.mk (Kd.R_below (by (with_reducible repeat (first | apply Kd.R_alloc | apply Kd.R_drewN | apply Kd.R_drew));exact HO240.out) hb);have n1_:=Aside0.mk (Kd.R_lower ho5 (below_size (by repeat (first | (with_reducible first | exact HB.out | apply below_alloc | apply pw_below_drewN | apply below_drew1 | refine below_set ?_ GE237.out) | exact HB.out))));have n2_:=Aside0.mk (blk_below (g:=gb237) (o:=.cells #[.slice none 0 0,.slice none 0 0] 25 (0,0)) (by (with_reducible repeat (first | refine blk_drewN ?_ _ | refine blk_drew ?_ | refine blk_alloc ?_ _));exact BK237.out) hb);have n3_:=Aside0.mk (below_step (by repeat (first | (with_reducible first | exact HB.out | apply below_alloc | apply pw_below_drewN | apply below_drew1 | refine below_set ?_ GE237.out) | exact HB.out)) hb);clear HO240;clear BK237;clear HB;have HO240:=n0_;have HO243:=n1_;have BK237:=n2_;have HB:=n3_;clear n0_ n1_ n2_ n3_;clear hb ho5;obtain ⟨Ao6,co6,eo6⟩:=Kd.R_slice HO243.out;subst eo6;obtain ⟨Ao7,co7,eo7⟩:=Kd.R_slice HO240.out;subst eo7;have hcz8_0:w4.cell? ⟨gb237,0,none⟩ = some (.slice none 0 0):=(blk_cell BK237.out 0).trans rfl;have hcz8_1:w4.cell? ⟨gb237,1,none⟩ = some (.slice none 0 0):=(blk_cell BK237.out 1).trans rfl;have hfz8_0:=blk_frozen BK237.out 0;have hfz8_1:=blk_frozen BK237.out 1))
 refine bodyPost_ret (results_cell_row rfl _ _ gb237 25 #[.slice Ao7 y238.length co7,.slice Ao6 y241.length co6] (0,0) _ rfl (by (with_reducible repeat (first | refine blk_drewN ?_ _ | refine blk_drew ?_ | refine blk_alloc ?_ _));refine blk_put (cs:=#[.slice Ao7 y238.length co7,.slice none 0 0]) ?_ 1 _ rfl;(with_reducible repeat (first | refine blk_drewN ?_ _ | refine blk_drew ?_ | refine blk_alloc ?_ _));refine blk_put (cs:=#[.slice none 0 0,.slice none 0 0]) ?_ 0 _ rfl;(with_reducible repeat (first | refine blk_drewN ?_ _ | refine blk_drew ?_ | refine blk_alloc ?_ _));exact BK237.out) Try.underlying25 rfl (by kernel_rfl)) rfl ?_
 exact ⟨_,_,by first | rfl | (simp [errW_none,errW_some] <;> rfl) | (simp [*,errW_none,errW_some] <;> rfl),by (with_reducible repeat (first | apply Kd.R_alloc | apply Kd.R_drewN | apply Kd.R_drew));exact Kd.R_mono (Kd.R_far (p:=⟨gb237,1,none⟩) (Kd.R_far (p:=⟨gb237,0,none⟩) (Kd.R_types HO240.out BK237.out (by decide)) (fun _ hk => hk.2) (.slice Ao7 y238.length co7)) (fun _ hk => hk.2) (.slice Ao6 y241.length co6)) (fun _ hk => trivial),by (with_reducible repeat (first | apply Kd.R_alloc | apply Kd.R_drewN | apply Kd.R_drew));exact Kd.R_mono (Kd.R_far (p:=⟨gb237,1,none⟩) (Kd.R_far (p:=⟨gb237,0,none⟩) (Kd.R_types HO243.out BK237.out (by decide)) (fun _ hk => hk.2) (.slice Ao7 y238.length co7)) (fun _ hk => hk.2) (.slice Ao6 y241.length co6)) (fun _ hk => trivial),by repeat (first | (with_reducible first | exact HB.out | apply below_alloc | apply pw_below_drewN | apply below_drew1 | refine below_set ?_ GE237.out) | exact HB.out)⟩
noncomputable def beaconlaw08_awake.f  : Option (Bool):=(beaconlaw08_small.f).bind fun bt244 => ((paths_Nexts.f bt244.1 bt244.2 4621819117588971520 1).bind fun bt250 => (if bt250.2 = 0 then (if (bt250.1.length:Int) = 3 then (if 0 < (bt250.1.length:Int) then (if (rd bt250.1 0) = 0 then (if 1 < (bt250.1.length:Int) then (if (rd bt250.1 1) = 2 then (if 2 < (bt250.1.length:Int) then (some ((rd bt250.1 2) == 2)) else (none)) else (some false)) else (none)) else (some false)) else (none)) else (some false)) else (some false)))
set_option maxHeartbeats 8000000 in
set_option maxRecDepth 100000 in
theorem beaconlaw08_awake.calls  (r:Bool) (w:World) (h:beaconlaw08_awake.f  = some r) :
  Calls Try.prog 14 #[] w fun e w' => e = .returned (.bool r) ∧ Below w.heap.size w w':=by
 have HB:=Aside0.mk (Below.refl w.heap.size w)
 have H:((beaconlaw08_small.f).bind fun bt244 => ((paths_Nexts.f bt244.1 bt244.2 4621819117588971520 1).bind fun bt250 => (if bt250.2 = 0 then (if (bt250.1.length:Int) = 3 then (if 0 < (bt250.1.length:Int) then (if (rd bt250.1 0) = 0 then (if 1 < (bt250.1.length:Int) then (if (rd bt250.1 1) = 2 then (if 2 < (bt250.1.length:Int) then (some ((rd bt250.1 2) == 2)) else (none)) else (some false)) else (none)) else (some false)) else (none)) else (some false)) else (some false)))) = some r:=h
 clear h
 replace H:=Option.bind_eq_some_iff.mp H
 obtain ⟨⟨t244,t247⟩,A10,H⟩:=H
 replace H:((paths_Nexts.f t244 t247 4621819117588971520 1).bind fun bt250 => (if bt250.2 = 0 then (if (bt250.1.length:Int) = 3 then (if 0 < (bt250.1.length:Int) then (if (rd bt250.1 0) = 0 then (if 1 < (bt250.1.length:Int) then (if (rd bt250.1 1) = 2 then (if 2 < (bt250.1.length:Int) then (some ((rd bt250.1 2) == 2)) else (none)) else (some false)) else (none)) else (some false)) else (none)) else (some false)) else (some false))) = some r:=H
 have A1:=Aside0.mk A10
 clear A10
 replace H:=Option.bind_eq_some_iff.mp H
 obtain ⟨⟨t250,t253⟩,A20,H⟩:=H
 replace H:(if t253 = 0 then (if (t250.length:Int) = 3 then (if 0 < (t250.length:Int) then (if (rd t250 0) = 0 then (if 1 < (t250.length:Int) then (if (rd t250 1) = 2 then (if 2 < (t250.length:Int) then (some ((rd t250 2) == 2)) else (none)) else (some false)) else (none)) else (some false)) else (none)) else (some false)) else (some false)) = some r:=H
 have A2:=Aside0.mk A20
 clear A20
 by_cases c3:t253 = 0
 rotate_left
 ·rw [if_neg c3] at H
  have c3b0:(t253 == 0) = false:=beq_eq_false_iff_ne.mpr c3
  have c3b1:(t253 != 0) = true:=bne_iff_ne.mpr c3
  obtain rfl:=Option.some.inj H
  go_enter Try.func14,Try.ntmps14
  go_wp2_with (first | ((with_reducible refine gate_callee (f:=37) rfl ?_);refine goesL_ (some 4) rfl rfl Try.func37 (by kernel_rfl) rfl #[] rfl (by (try simp only [List.map_toArray,List.map_cons,List.map_nil]);first | done | rfl | (simp only [List.length_drop,List.length_take];rfl)) ?_;(with_reducible refine (beaconlaw08_small.calls  t244 t247 _ A1.out).mono ?_);rintro e w30 ⟨v245,v248,rfl,ho0,ho1,hb⟩;refine ⟨_,rfl,?_⟩;have n0_:=Aside0.mk (Kd.R_lower ho0 (below_size (by repeat (first | (with_reducible first | exact HB.out | apply below_alloc | apply pw_below_drewN | apply below_drew1) | exact HB.out))));have n1_:=Aside0.mk (Kd.R_lower ho1 (below_size (by repeat (first | (with_reducible first | exact HB.out | apply below_alloc | apply pw_below_drewN | apply below_drew1) | exact HB.out))));have n2_:=Aside0.mk (below_step (by repeat (first | (with_reducible first | exact HB.out | apply below_alloc | apply pw_below_drewN | apply below_drew1) | exact HB.out)) hb);clear HB;have HO246:=n0_;have HO249:=n1_;have HB:=n2_;clear n0_ n1_ n2_;(try clear hb);(try clear hb2);(try clear hk);(try clear hi);(try clear ho0);(try clear ho1);obtain ⟨Ao31,co31,eo31⟩:=Kd.R_slice HO246.out;subst eo31;obtain ⟨Ao32,co32,eo32⟩:=Kd.R_slice HO249.out;subst eo32) | ((with_reducible refine gate_callee (f:=11) rfl ?_);refine goesL_ (some 5) rfl rfl Try.func11 (by kernel_rfl) rfl #[.agg #[.slice Ao31 t244.length co31,.slice Ao32 t247.length co32],.float .f64 4621819117588971520,.int .i64 1] rfl (by (try simp only [List.map_toArray,List.map_cons,List.map_nil]);first | done | rfl | (simp only [List.length_drop,List.length_take];rfl)) ?_;(with_reducible refine (paths_Nexts.calls _ _ t244 _ _ t247 4621819117588971520 1 t250 t253 _ ?side1 ?side2 ?side3 ?side4 A2.out).mono ?_);(case side1 => repeat (first | exact (Kd.R_reads' HO246.out).2.2 | (with_reducible refine Kd.C_alloc ?_ _) | (with_reducible refine Kd.C_drewN ?_ _) | (with_reducible refine Kd.C_drew ?_)));(case side2 => exact (Kd.R_reads' HO246.out).2.1);(case side3 => repeat (first | exact (Kd.R_reads' HO249.out).2.2 | (with_reducible refine Kd.C_alloc ?_ _) | (with_reducible refine Kd.C_drewN ?_ _) | (with_reducible refine Kd.C_drew ?_)));(case side4 => exact (Kd.R_reads' HO249.out).2.1);rintro e w33 ⟨v251,rfl,ho0,hb⟩;refine ⟨_,rfl,?_⟩;have n0_:=Aside0.mk (Kd.R_below (by (with_reducible repeat (first | apply Kd.R_alloc | apply Kd.R_drewN | apply Kd.R_drew));exact HO246.out) hb);have n1_:=Aside0.mk (Kd.R_below (by (with_reducible repeat (first | apply Kd.R_alloc | apply Kd.R_drewN | apply Kd.R_drew));exact HO249.out) hb);have n2_:=Aside0.mk (Kd.R_lower ho0 (below_size (by repeat (first | (with_reducible first | exact HB.out | apply below_alloc | apply pw_below_drewN | apply below_drew1) | exact HB.out))));have n3_:=Aside0.mk (below_step (by repeat (first | (with_reducible first | exact HB.out | apply below_alloc | apply pw_below_drewN | apply below_drew1) | exact HB.out)) hb);clear HO246;clear HO249;clear HB;have HO246:=n0_;have HO249:=n1_;have HO252:=n2_;have HB:=n3_;clear n0_ n1_ n2_ n3_;(try clear hb);(try clear hb2);(try clear hk);(try clear hi);(try clear ho0)))
  go_ret
  exact ⟨by first | rfl | (simp [errW_none,errW_some] <;> rfl) | (simp [*,errW_none,errW_some] <;> rfl),by repeat (first | (with_reducible first | exact HB.out | apply below_alloc | apply pw_below_drewN | apply below_drew1) | exact HB.out)⟩
 rw [if_pos c3] at H
 have c3b0:(t253 == 0) = true:=beq_iff_eq.mpr c3
 have c3b1:(t253 != 0) = false:=bne_eq_false_iff_eq.mpr c3
 clear c3
 by_cases c4:(t250.length:Int) = 3
 rotate_left
 ·rw [if_neg c4] at H
  have c4b0:((t250.length:Int) == 3) = false:=beq_eq_false_iff_ne.mpr c4
  have c4b1:((t250.length:Int) != 3) = true:=bne_iff_ne.mpr c4
  obtain rfl:=Option.some.inj H
  go_enter Try.func14,Try.ntmps14
  go_wp2_with (first | ((with_reducible refine gate_callee (f:=37) rfl ?_);refine goesL_ (some 4) rfl rfl Try.func37 (by kernel_rfl) rfl #[] rfl (by (try simp only [List.map_toArray,List.map_cons,List.map_nil]);first | done | rfl | (simp only [List.length_drop,List.length_take];rfl)) ?_;(with_reducible refine (beaconlaw08_small.calls  t244 t247 _ A1.out).mono ?_);rintro e w25 ⟨v245,v248,rfl,ho0,ho1,hb⟩;refine ⟨_,rfl,?_⟩;have n0_:=Aside0.mk (Kd.R_lower ho0 (below_size (by repeat (first | (with_reducible first | exact HB.out | apply below_alloc | apply pw_below_drewN | apply below_drew1) | exact HB.out))));have n1_:=Aside0.mk (Kd.R_lower ho1 (below_size (by repeat (first | (with_reducible first | exact HB.out | apply below_alloc | apply pw_below_drewN | apply below_drew1) | exact HB.out))));have n2_:=Aside0.mk (below_step (by repeat (first | (with_reducible first | exact HB.out | apply below_alloc | apply pw_below_drewN | apply below_drew1) | exact HB.out)) hb);clear HB;have HO246:=n0_;have HO249:=n1_;have HB:=n2_;clear n0_ n1_ n2_;(try clear hb);(try clear hb2);(try clear hk);(try clear hi);(try clear ho0);(try clear ho1);obtain ⟨Ao26,co26,eo26⟩:=Kd.R_slice HO246.out;subst eo26;obtain ⟨Ao27,co27,eo27⟩:=Kd.R_slice HO249.out;subst eo27) | ((with_reducible refine gate_callee (f:=11) rfl ?_);refine goesL_ (some 5) rfl rfl Try.func11 (by kernel_rfl) rfl #[.agg #[.slice Ao26 t244.length co26,.slice Ao27 t247.length co27],.float .f64 4621819117588971520,.int .i64 1] rfl (by (try simp only [List.map_toArray,List.map_cons,List.map_nil]);first | done | rfl | (simp only [List.length_drop,List.length_take];rfl)) ?_;(with_reducible refine (paths_Nexts.calls _ _ t244 _ _ t247 4621819117588971520 1 t250 t253 _ ?side1 ?side2 ?side3 ?side4 A2.out).mono ?_);(case side1 => repeat (first | exact (Kd.R_reads' HO246.out).2.2 | (with_reducible refine Kd.C_alloc ?_ _) | (with_reducible refine Kd.C_drewN ?_ _) | (with_reducible refine Kd.C_drew ?_)));(case side2 => exact (Kd.R_reads' HO246.out).2.1);(case side3 => repeat (first | exact (Kd.R_reads' HO249.out).2.2 | (with_reducible refine Kd.C_alloc ?_ _) | (with_reducible refine Kd.C_drewN ?_ _) | (with_reducible refine Kd.C_drew ?_)));(case side4 => exact (Kd.R_reads' HO249.out).2.1);rintro e w28 ⟨v251,rfl,ho0,hb⟩;refine ⟨_,rfl,?_⟩;have n0_:=Aside0.mk (Kd.R_below (by (with_reducible repeat (first | apply Kd.R_alloc | apply Kd.R_drewN | apply Kd.R_drew));exact HO246.out) hb);have n1_:=Aside0.mk (Kd.R_below (by (with_reducible repeat (first | apply Kd.R_alloc | apply Kd.R_drewN | apply Kd.R_drew));exact HO249.out) hb);have n2_:=Aside0.mk (Kd.R_lower ho0 (below_size (by repeat (first | (with_reducible first | exact HB.out | apply below_alloc | apply pw_below_drewN | apply below_drew1) | exact HB.out))));have n3_:=Aside0.mk (below_step (by repeat (first | (with_reducible first | exact HB.out | apply below_alloc | apply pw_below_drewN | apply below_drew1) | exact HB.out)) hb);clear HO246;clear HO249;clear HB;have HO246:=n0_;have HO249:=n1_;have HO252:=n2_;have HB:=n3_;clear n0_ n1_ n2_ n3_;(try clear hb);(try clear hb2);(try clear hk);(try clear hi);(try clear ho0);obtain ⟨Ao29,co29,eo29⟩:=Kd.R_slice HO252.out;subst eo29))
  go_ret
  exact ⟨by first | rfl | (simp [errW_none,errW_some] <;> rfl) | (simp [*,errW_none,errW_some] <;> rfl),by repeat (first | (with_reducible first | exact HB.out | apply below_alloc | apply pw_below_drewN | apply below_drew1) | exact HB.out)⟩
 rw [if_pos c4] at H
 have c4b0:((t250.length:Int) == 3) = true:=beq_iff_eq.mpr c4
 have c4b1:((t250.length:Int) != 3) = false:=bne_eq_false_iff_eq.mpr c4
 clear c4
 by_cases c5:0 < (t250.length:Int)
 rotate_left
 ·rw [if_neg c5] at H
  exact absurd H (by simp)
 rw [if_pos c5] at H
 have c5b0:decide (0 < (t250.length:Int)) = true:=decide_eq_true c5
 have c5b1:decide (0 < t250.length) = true:=decide_eq_true (by omega)
 clear c5
 by_cases c6:(rd t250 0) = 0
 rotate_left
 ·rw [if_neg c6] at H
  have c6b0:((rd t250 0) == 0) = false:=beq_eq_false_iff_ne.mpr c6
  have c6b1:((rd t250 0) != 0) = true:=bne_iff_ne.mpr c6
  obtain rfl:=Option.some.inj H
  go_enter Try.func14,Try.ntmps14
  go_wp2_with (first | ((with_reducible refine gate_callee (f:=37) rfl ?_);refine goesL_ (some 4) rfl rfl Try.func37 (by kernel_rfl) rfl #[] rfl (by (try simp only [List.map_toArray,List.map_cons,List.map_nil]);first | done | rfl | (simp only [List.length_drop,List.length_take];rfl)) ?_;(with_reducible refine (beaconlaw08_small.calls  t244 t247 _ A1.out).mono ?_);rintro e w20 ⟨v245,v248,rfl,ho0,ho1,hb⟩;refine ⟨_,rfl,?_⟩;have n0_:=Aside0.mk (Kd.R_lower ho0 (below_size (by repeat (first | (with_reducible first | exact HB.out | apply below_alloc | apply pw_below_drewN | apply below_drew1) | exact HB.out))));have n1_:=Aside0.mk (Kd.R_lower ho1 (below_size (by repeat (first | (with_reducible first | exact HB.out | apply below_alloc | apply pw_below_drewN | apply below_drew1) | exact HB.out))));have n2_:=Aside0.mk (below_step (by repeat (first | (with_reducible first | exact HB.out | apply below_alloc | apply pw_below_drewN | apply below_drew1) | exact HB.out)) hb);clear HB;have HO246:=n0_;have HO249:=n1_;have HB:=n2_;clear n0_ n1_ n2_;(try clear hb);(try clear hb2);(try clear hk);(try clear hi);(try clear ho0);(try clear ho1);obtain ⟨Ao21,co21,eo21⟩:=Kd.R_slice HO246.out;subst eo21;obtain ⟨Ao22,co22,eo22⟩:=Kd.R_slice HO249.out;subst eo22) | ((with_reducible refine gate_callee (f:=11) rfl ?_);refine goesL_ (some 5) rfl rfl Try.func11 (by kernel_rfl) rfl #[.agg #[.slice Ao21 t244.length co21,.slice Ao22 t247.length co22],.float .f64 4621819117588971520,.int .i64 1] rfl (by (try simp only [List.map_toArray,List.map_cons,List.map_nil]);first | done | rfl | (simp only [List.length_drop,List.length_take];rfl)) ?_;(with_reducible refine (paths_Nexts.calls _ _ t244 _ _ t247 4621819117588971520 1 t250 t253 _ ?side1 ?side2 ?side3 ?side4 A2.out).mono ?_);(case side1 => repeat (first | exact (Kd.R_reads' HO246.out).2.2 | (with_reducible refine Kd.C_alloc ?_ _) | (with_reducible refine Kd.C_drewN ?_ _) | (with_reducible refine Kd.C_drew ?_)));(case side2 => exact (Kd.R_reads' HO246.out).2.1);(case side3 => repeat (first | exact (Kd.R_reads' HO249.out).2.2 | (with_reducible refine Kd.C_alloc ?_ _) | (with_reducible refine Kd.C_drewN ?_ _) | (with_reducible refine Kd.C_drew ?_)));(case side4 => exact (Kd.R_reads' HO249.out).2.1);rintro e w23 ⟨v251,rfl,ho0,hb⟩;refine ⟨_,rfl,?_⟩;have n0_:=Aside0.mk (Kd.R_below (by (with_reducible repeat (first | apply Kd.R_alloc | apply Kd.R_drewN | apply Kd.R_drew));exact HO246.out) hb);have n1_:=Aside0.mk (Kd.R_below (by (with_reducible repeat (first | apply Kd.R_alloc | apply Kd.R_drewN | apply Kd.R_drew));exact HO249.out) hb);have n2_:=Aside0.mk (Kd.R_lower ho0 (below_size (by repeat (first | (with_reducible first | exact HB.out | apply below_alloc | apply pw_below_drewN | apply below_drew1) | exact HB.out))));have n3_:=Aside0.mk (below_step (by repeat (first | (with_reducible first | exact HB.out | apply below_alloc | apply pw_below_drewN | apply below_drew1) | exact HB.out)) hb);clear HO246;clear HO249;clear HB;have HO246:=n0_;have HO249:=n1_;have HO252:=n2_;have HB:=n3_;clear n0_ n1_ n2_ n3_;(try clear hb);(try clear hb2);(try clear hk);(try clear hi);(try clear ho0);obtain ⟨Ao24,co24,eo24⟩:=Kd.R_slice HO252.out;subst eo24;have p254:0 ≤ (0:Int):=(by omega);have q254:0 < (t250.length:Int):=of_decide_eq_true (by first | (with_reducible assumption) | assumption);obtain ⟨ad254,e254,hx254_0⟩:=Kd.at_int (Kd.R_reads' HO252.out).2.2 0 p254 q254;cases e254;have qi254:(0 < t250.length) = True:=eq_true (by omega);(try rw [show ((0:Int)).toNat = 0 from rfl] at hx254_0);(try rw [Addr.add_zero'] at hx254_0);replace p254:=eq_true p254;replace q254:=eq_true q254))
  go_ret
  exact ⟨by first | rfl | (simp [errW_none,errW_some] <;> rfl) | (simp [*,errW_none,errW_some] <;> rfl),by repeat (first | (with_reducible first | exact HB.out | apply below_alloc | apply pw_below_drewN | apply below_drew1) | exact HB.out)⟩
 rw [if_pos c6] at H
 have c6b0:((rd t250 0) == 0) = true:=beq_iff_eq.mpr c6
 have c6b1:((rd t250 0) != 0) = false:=bne_eq_false_iff_eq.mpr c6
 clear c6
 by_cases c7:1 < (t250.length:Int)
 rotate_left
 ·rw [if_neg c7] at H
  exact absurd H (by simp)
 rw [if_pos c7] at H
 have c7b0:decide (1 < (t250.length:Int)) = true:=decide_eq_true c7
 have c7b1:decide (1 < t250.length) = true:=decide_eq_true (by omega)
 clear c7
 by_cases c8:(rd t250 1) = 2
 ·rw [if_pos c8] at H
  have c8b0:((rd t250 1) == 2) = true:=beq_iff_eq.mpr c8
  have c8b1:((rd t250 1) != 2) = false:=bne_eq_false_iff_eq.mpr c8
  clear c8
  by_cases c9:2 < (t250.length:Int)
  ·rw [if_pos c9] at H
   have c9b0:decide (2 < (t250.length:Int)) = true:=decide_eq_true c9
   have c9b1:decide (2 < t250.length) = true:=decide_eq_true (by omega)
   clear c9
   obtain rfl:=Option.some.inj H
   go_enter Try.func14,Try.ntmps14
   go_wp2_with (first | ((with_reducible refine gate_callee (f:=37) rfl ?_);refine goesL_ (some 4) rfl rfl Try.func37 (by kernel_rfl) rfl #[] rfl (by (try simp only [List.map_toArray,List.map_cons,List.map_nil]);first | done | rfl | (simp only [List.length_drop,List.length_take];rfl)) ?_;(with_reducible refine (beaconlaw08_small.calls  t244 t247 _ A1.out).mono ?_);rintro e w10 ⟨v245,v248,rfl,ho0,ho1,hb⟩;refine ⟨_,rfl,?_⟩;have n0_:=Aside0.mk (Kd.R_lower ho0 (below_size (by repeat (first | (with_reducible first | exact HB.out | apply below_alloc | apply pw_below_drewN | apply below_drew1) | exact HB.out))));have n1_:=Aside0.mk (Kd.R_lower ho1 (below_size (by repeat (first | (with_reducible first | exact HB.out | apply below_alloc | apply pw_below_drewN | apply below_drew1) | exact HB.out))));have n2_:=Aside0.mk (below_step (by repeat (first | (with_reducible first | exact HB.out | apply below_alloc | apply pw_below_drewN | apply below_drew1) | exact HB.out)) hb);clear HB;have HO246:=n0_;have HO249:=n1_;have HB:=n2_;clear n0_ n1_ n2_;(try clear hb);(try clear hb2);(try clear hk);(try clear hi);(try clear ho0);(try clear ho1);obtain ⟨Ao11,co11,eo11⟩:=Kd.R_slice HO246.out;subst eo11;obtain ⟨Ao12,co12,eo12⟩:=Kd.R_slice HO249.out;subst eo12) | ((with_reducible refine gate_callee (f:=11) rfl ?_);refine goesL_ (some 5) rfl rfl Try.func11 (by kernel_rfl) rfl #[.agg #[.slice Ao11 t244.length co11,.slice Ao12 t247.length co12],.float .f64 4621819117588971520,.int .i64 1] rfl (by (try simp only [List.map_toArray,List.map_cons,List.map_nil]);first | done | rfl | (simp only [List.length_drop,List.length_take];rfl)) ?_;(with_reducible refine (paths_Nexts.calls _ _ t244 _ _ t247 4621819117588971520 1 t250 t253 _ ?side1 ?side2 ?side3 ?side4 A2.out).mono ?_);(case side1 => repeat (first | exact (Kd.R_reads' HO246.out).2.2 | (with_reducible refine Kd.C_alloc ?_ _) | (with_reducible refine Kd.C_drewN ?_ _) | (with_reducible refine Kd.C_drew ?_)));(case side2 => exact (Kd.R_reads' HO246.out).2.1);(case side3 => repeat (first | exact (Kd.R_reads' HO249.out).2.2 | (with_reducible refine Kd.C_alloc ?_ _) | (with_reducible refine Kd.C_drewN ?_ _) | (with_reducible refine Kd.C_drew ?_)));(case side4 => exact (Kd.R_reads' HO249.out).2.1);rintro e w13 ⟨v251,rfl,ho0,hb⟩;refine ⟨_,rfl,?_⟩;have n0_:=Aside0.mk (Kd.R_below (by (with_reducible repeat (first | apply Kd.R_alloc | apply Kd.R_drewN | apply Kd.R_drew));exact HO246.out) hb);have n1_:=Aside0.mk (Kd.R_below (by (with_reducible repeat (first | apply Kd.R_alloc | apply Kd.R_drewN | apply Kd.R_drew));exact HO249.out) hb);have n2_:=Aside0.mk (Kd.R_lower ho0 (below_size (by repeat (first | (with_reducible first | exact HB.out | apply below_alloc | apply pw_below_drewN | apply below_drew1) | exact HB.out))));have n3_:=Aside0.mk (below_step (by repeat (first | (with_reducible first | exact HB.out | apply below_alloc | apply pw_below_drewN | apply below_drew1) | exact HB.out)) hb);clear HO246;clear HO249;clear HB;have HO246:=n0_;have HO249:=n1_;have HO252:=n2_;have HB:=n3_;clear n0_ n1_ n2_ n3_;(try clear hb);(try clear hb2);(try clear hk);(try clear hi);(try clear ho0);obtain ⟨Ao14,co14,eo14⟩:=Kd.R_slice HO252.out;subst eo14;have p254:0 ≤ (0:Int):=(by omega);have q254:0 < (t250.length:Int):=of_decide_eq_true (by first | (with_reducible assumption) | assumption);obtain ⟨ad254,e254,hx254_0⟩:=Kd.at_int (Kd.R_reads' HO252.out).2.2 0 p254 q254;cases e254;have qi254:(0 < t250.length) = True:=eq_true (by omega);(try rw [show ((0:Int)).toNat = 0 from rfl] at hx254_0);(try rw [Addr.add_zero'] at hx254_0);replace p254:=eq_true p254;replace q254:=eq_true q254;have p255:0 ≤ (1:Int):=(by omega);have q255:1 < (t250.length:Int):=of_decide_eq_true (by first | (with_reducible assumption) | assumption);obtain ⟨ad255,e255,hx255_0⟩:=Kd.at_int (Kd.R_reads' HO252.out).2.2 1 p255 q255;obtain rfl:ad254 = ad255:=(by injection e255);(try simp only [show (1:Int).toNat = 1 from rfl,Nat.reduceMul,Nat.reduceEqDiff,Go.Addr.add,↓reduceIte] at hx255_0);have qi255:(1 < t250.length) = True:=eq_true (by omega);(try rw [show ((1:Int)).toNat = 1 from rfl] at hx255_0);replace p255:=eq_true p255;replace q255:=eq_true q255;have p256:0 ≤ (2:Int):=(by omega);have q256:2 < (t250.length:Int):=of_decide_eq_true (by first | (with_reducible assumption) | assumption);obtain ⟨ad256,e256,hx256_0⟩:=Kd.at_int (Kd.R_reads' HO252.out).2.2 2 p256 q256;obtain rfl:ad254 = ad256:=(by injection e256);(try simp only [show (2:Int).toNat = 2 from rfl,Nat.reduceMul,Nat.reduceEqDiff,Go.Addr.add,↓reduceIte] at hx256_0);have qi256:(2 < t250.length) = True:=eq_true (by omega);(try rw [show ((2:Int)).toNat = 2 from rfl] at hx256_0);replace p256:=eq_true p256;replace q256:=eq_true q256))
   go_ret
   exact ⟨by first | rfl | (simp [errW_none,errW_some] <;> rfl) | (simp [*,errW_none,errW_some] <;> rfl),by repeat (first | (with_reducible first | exact HB.out | apply below_alloc | apply pw_below_drewN | apply below_drew1) | exact HB.out)⟩
  rw [if_neg c9] at H
  exact absurd H (by simp)
 rw [if_neg c8] at H
 have c8b0:((rd t250 1) == 2) = false:=beq_eq_false_iff_ne.mpr c8
 have c8b1:((rd t250 1) != 2) = true:=bne_iff_ne.mpr c8
 obtain rfl:=Option.some.inj H
 go_enter Try.func14,Try.ntmps14
 go_wp2_with (first | ((with_reducible refine gate_callee (f:=37) rfl ?_);refine goesL_ (some 4) rfl rfl Try.func37 (by kernel_rfl) rfl #[] rfl (by (try simp only [List.map_toArray,List.map_cons,List.map_nil]);first | done | rfl | (simp only [List.length_drop,List.length_take];rfl)) ?_;(with_reducible refine (beaconlaw08_small.calls  t244 t247 _ A1.out).mono ?_);rintro e w15 ⟨v245,v248,rfl,ho0,ho1,hb⟩;refine ⟨_,rfl,?_⟩;have n0_:=Aside0.mk (Kd.R_lower ho0 (below_size (by repeat (first | (with_reducible first | exact HB.out | apply below_alloc | apply pw_below_drewN | apply below_drew1) | exact HB.out))));have n1_:=Aside0.mk (Kd.R_lower ho1 (below_size (by repeat (first | (with_reducible first | exact HB.out | apply below_alloc | apply pw_below_drewN | apply below_drew1) | exact HB.out))));have n2_:=Aside0.mk (below_step (by repeat (first | (with_reducible first | exact HB.out | apply below_alloc | apply pw_below_drewN | apply below_drew1) | exact HB.out)) hb);clear HB;have HO246:=n0_;have HO249:=n1_;have HB:=n2_;clear n0_ n1_ n2_;(try clear hb);(try clear hb2);(try clear hk);(try clear hi);(try clear ho0);(try clear ho1);obtain ⟨Ao16,co16,eo16⟩:=Kd.R_slice HO246.out;subst eo16;obtain ⟨Ao17,co17,eo17⟩:=Kd.R_slice HO249.out;subst eo17) | ((with_reducible refine gate_callee (f:=11) rfl ?_);refine goesL_ (some 5) rfl rfl Try.func11 (by kernel_rfl) rfl #[.agg #[.slice Ao16 t244.length co16,.slice Ao17 t247.length co17],.float .f64 4621819117588971520,.int .i64 1] rfl (by (try simp only [List.map_toArray,List.map_cons,List.map_nil]);first | done | rfl | (simp only [List.length_drop,List.length_take];rfl)) ?_;(with_reducible refine (paths_Nexts.calls _ _ t244 _ _ t247 4621819117588971520 1 t250 t253 _ ?side1 ?side2 ?side3 ?side4 A2.out).mono ?_);(case side1 => repeat (first | exact (Kd.R_reads' HO246.out).2.2 | (with_reducible refine Kd.C_alloc ?_ _) | (with_reducible refine Kd.C_drewN ?_ _) | (with_reducible refine Kd.C_drew ?_)));(case side2 => exact (Kd.R_reads' HO246.out).2.1);(case side3 => repeat (first | exact (Kd.R_reads' HO249.out).2.2 | (with_reducible refine Kd.C_alloc ?_ _) | (with_reducible refine Kd.C_drewN ?_ _) | (with_reducible refine Kd.C_drew ?_)));(case side4 => exact (Kd.R_reads' HO249.out).2.1);rintro e w18 ⟨v251,rfl,ho0,hb⟩;refine ⟨_,rfl,?_⟩;have n0_:=Aside0.mk (Kd.R_below (by (with_reducible repeat (first | apply Kd.R_alloc | apply Kd.R_drewN | apply Kd.R_drew));exact HO246.out) hb);have n1_:=Aside0.mk (Kd.R_below (by (with_reducible repeat (first | apply Kd.R_alloc | apply Kd.R_drewN | apply Kd.R_drew));exact HO249.out) hb);have n2_:=Aside0.mk (Kd.R_lower ho0 (below_size (by repeat (first | (with_reducible first | exact HB.out | apply below_alloc | apply pw_below_drewN | apply below_drew1) | exact HB.out))));have n3_:=Aside0.mk (below_step (by repeat (first | (with_reducible first | exact HB.out | apply below_alloc | apply pw_below_drewN | apply below_drew1) | exact HB.out)) hb);clear HO246;clear HO249;clear HB;have HO246:=n0_;have HO249:=n1_;have HO252:=n2_;have HB:=n3_;clear n0_ n1_ n2_ n3_;(try clear hb);(try clear hb2);(try clear hk);(try clear hi);(try clear ho0);obtain ⟨Ao19,co19,eo19⟩:=Kd.R_slice HO252.out;subst eo19;have p254:0 ≤ (0:Int):=(by omega);have q254:0 < (t250.length:Int):=of_decide_eq_true (by first | (with_reducible assumption) | assumption);obtain ⟨ad254,e254,hx254_0⟩:=Kd.at_int (Kd.R_reads' HO252.out).2.2 0 p254 q254;cases e254;have qi254:(0 < t250.length) = True:=eq_true (by omega);(try rw [show ((0:Int)).toNat = 0 from rfl] at hx254_0);(try rw [Addr.add_zero'] at hx254_0);replace p254:=eq_true p254;replace q254:=eq_true q254;have p255:0 ≤ (1:Int):=(by omega);have q255:1 < (t250.length:Int):=of_decide_eq_true (by first | (with_reducible assumption) | assumption);obtain ⟨ad255,e255,hx255_0⟩:=Kd.at_int (Kd.R_reads' HO252.out).2.2 1 p255 q255;obtain rfl:ad254 = ad255:=(by injection e255);(try simp only [show (1:Int).toNat = 1 from rfl,Nat.reduceMul,Nat.reduceEqDiff,Go.Addr.add,↓reduceIte] at hx255_0);have qi255:(1 < t250.length) = True:=eq_true (by omega);(try rw [show ((1:Int)).toNat = 1 from rfl] at hx255_0);replace p255:=eq_true p255;replace q255:=eq_true q255))
 go_ret
 exact ⟨by first | rfl | (simp [errW_none,errW_some] <;> rfl) | (simp [*,errW_none,errW_some] <;> rfl),by repeat (first | (with_reducible first | exact HB.out | apply below_alloc | apply pw_below_drewN | apply below_drew1) | exact HB.out)⟩
end Go.Proofs.Ytmdkcecbklgihaa.PA
