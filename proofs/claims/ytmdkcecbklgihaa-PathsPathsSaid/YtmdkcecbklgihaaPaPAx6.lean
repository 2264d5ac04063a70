/- Printed by a program of this session (wip/tools/patch_print.py and pr.py, over the kit's print): each Go function as a plain Lean function, and that the Go code comes to just its answers. Conditions: those that each theorem names. -/
import Derived.Test.YtmdkcecbklgihaaCPAx0
import Derived.Test.YtmdkcecbklgihaaCPAx1
import Derived.Test.YtmdkcecbklgihaaCPAx5
namespace Go.Proofs.Ytmdkcecbklgihaa.PA
open Go.RowKit Go.Proofs.YtmdkcecbklgihaaW.PrintWords Go.Proofs.YtmdkcecbklgihaaW.PrintLast Go.Proofs.YtmdkcecbklgihaaW.PrintMore
attribute [local go_sem] max2_int min2_int max_two min_two max_three min_three max_four min_four
set_option linter.unusedVariables false
set_option linter.unusedSimpArgs false
mutual
def beaconref08_next.j0:Nat → Int → List Nat → Int → Bool → List (S40) → List (S74) → Option (Int)
 | 0,_,_,_,_,_,_ => none
 | k + 1,x1,x3,x9,x26,x178000,x178001 => if x26 = true then (some 0) else (beaconref08_next.l0 k x1 x3 x9 0 0 x178000 x178001)
def beaconref08_next.l0:Nat → Int → List Nat → Int → Int → Int → List (S40) → List (S74) → Option (Int)
 | 0,_,_,_,_,_,_,_ => none
 | k + 1,x1,x3,x9,x10,x11,x178000,x178001 => if x11 < (x178001.length:Int) then (if 0 ≤ x11 then ((beaconref08_other.f ((rd_T74 x178001 x11).f0) ((rd_T74 x178001 x11).f1) ((rd_T74 x178001 x11).f2) ((rd_T74 x178001 x11).f3) x1).bind fun t183 => (if t183 = 0 then (beaconref08_next.j2 k x1 x3 x9 x10 x11 t183 true x178000 x178001) else (if ((rd_T74 x178001 x11).f3 = true) then ((beaconref08_place.f k x178000 x178001 t183).bind fun t184 => (if 0 ≤ t184 then (if t184 < (x3.length:Int) then ((floatBits .add .f64 (rdOf (0:Nat) x3 t184) ((rd_T74 x178001 x11).f2)).bind fun t186 => (if 0 ≤ x9 then (if x9 < (x3.length:Int) then (beaconref08_next.j2 k x1 x3 x9 x10 x11 t183 (FloatKind.f64.format.order t186 (rdOf (0:Nat) x3 x9) != some .eq) x178000 x178001) else (none)) else (none))) else (none)) else (none))) else (beaconref08_next.j2 k x1 x3 x9 x10 x11 t183 true x178000 x178001)))) else (none)) else (some x10)
def beaconref08_next.j2:Nat → Int → List Nat → Int → Int → Int → Int → Bool → List (S40) → List (S74) → Option (Int)
 | 0,_,_,_,_,_,_,_,_,_ => none
 | k + 1,x1,x3,x9,x10,x11,x13,x64,x178000,x178001 => if x64 = true then (beaconref08_next.l0 k x1 x3 x9 x10 (wrap64 (x11 + 1)) x178000 x178001) else (if x10 = 0 then (beaconref08_next.l0 k x1 x3 x9 x13 (wrap64 (x11 + 1)) x178000 x178001) else (if x13 < x10 then (beaconref08_next.l0 k x1 x3 x9 x13 (wrap64 (x11 + 1)) x178000 x178001) else (beaconref08_next.l0 k x1 x3 x9 x10 (wrap64 (x11 + 1)) x178000 x178001)))
end
def beaconref08_next.f (k:Nat) (l0_0:List (S40)) (l0_1:List (S74)) (a1:Int) (a2:Int) (l3:List Nat):Option (Int):=(beaconref08_place.f k l0_0 l0_1 a1).bind fun t178 => (if a1 = a2 then (beaconref08_next.j0 k a1 l3 t178 true l0_0 l0_1) else (if 0 ≤ t178 then (if t178 < (l3.length:Int) then ((math_IsInf.f (rdOf (0:Nat) l3 t178) 1).bind fun t180 => (beaconref08_next.j0 k a1 l3 t178 t180 l0_0 l0_1)) else (none)) else (none)))
theorem beaconref08_next.mono_l:∀ k,(∀ y0 y1 y2 y3 y4 y5,LeO (beaconref08_next.j0 k y0 y1 y2 y3 y4 y5) (beaconref08_next.j0 (k + 1) y0 y1 y2 y3 y4 y5)) ∧ (∀ y0 y1 y2 y3 y4 y5 y6,LeO (beaconref08_next.l0 k y0 y1 y2 y3 y4 y5 y6) (beaconref08_next.l0 (k + 1) y0 y1 y2 y3 y4 y5 y6)) ∧ (∀ y0 y1 y2 y3 y4 y5 y6 y7 y8,LeO (beaconref08_next.j2 k y0 y1 y2 y3 y4 y5 y6 y7 y8) (beaconref08_next.j2 (k + 1) y0 y1 y2 y3 y4 y5 y6 y7 y8))
 | 0 => ⟨fun _ _ _ _ _ _ r h => by simp [beaconref08_next.j0] at h,fun _ _ _ _ _ _ _ r h => by simp [beaconref08_next.l0] at h,fun _ _ _ _ _ _ _ _ _ r h => by simp [beaconref08_next.j2] at h⟩
 | k + 1 => by
  obtain ⟨ih0,ih1,ih2⟩:=beaconref08_next.mono_l k
  refine ⟨?_,?_,?_⟩
  ·intro y0 y1 y2 y3 y4 y5
   unfold beaconref08_next.j0
   repeat' first
   | (with_reducible exact ih0 _ _ _ _ _ _)
   | (with_reducible exact ih1 _ _ _ _ _ _ _)
   | (with_reducible exact ih2 _ _ _ _ _ _ _ _ _)
   | (with_reducible exact beaconref08_place.mono _ _ _ _)
   | (with_reducible exact LeO.refl _)
   | (with_reducible exact LeO.none _)
   | (with_reducible refine LeO.ite ?_ ?_)
   | (with_reducible refine LeO.bind ?_ (fun _ => ?_))
   | exact ih0 _ _ _ _ _ _
   | exact ih1 _ _ _ _ _ _ _
   | exact ih2 _ _ _ _ _ _ _ _ _
   | exact beaconref08_place.mono _ _ _ _
   | exact LeO.none _
   | refine LeO.ite ?_ ?_
   | refine LeO.bind ?_ (fun _ => ?_)
  ·intro y0 y1 y2 y3 y4 y5 y6
   unfold beaconref08_next.l0
   repeat' first
   | (with_reducible exact ih0 _ _ _ _ _ _)
   | (with_reducible exact ih1 _ _ _ _ _ _ _)
   | (with_reducible exact ih2 _ _ _ _ _ _ _ _ _)
   | (with_reducible exact beaconref08_place.mono _ _ _ _)
   | (with_reducible exact LeO.refl _)
   | (with_reducible exact LeO.none _)
   | (with_reducible refine LeO.ite ?_ ?_)
   | (with_reducible refine LeO.bind ?_ (fun _ => ?_))
   | exact ih0 _ _ _ _ _ _
   | exact ih1 _ _ _ _ _ _ _
   | exact ih2 _ _ _ _ _ _ _ _ _
   | exact beaconref08_place.mono _ _ _ _
   | exact LeO.none _
   | refine LeO.ite ?_ ?_
   | refine LeO.bind ?_ (fun _ => ?_)
  ·intro y0 y1 y2 y3 y4 y5 y6 y7 y8
   unfold beaconref08_next.j2
   repeat' first
   | (with_reducible exact ih0 _ _ _ _ _ _)
   | (with_reducible exact ih1 _ _ _ _ _ _ _)
   | (with_reducible exact ih2 _ _ _ _ _ _ _ _ _)
   | (with_reducible exact beaconref08_place.mono _ _ _ _)
   | (with_reducible exact LeO.refl _)
   | (with_reducible exact LeO.none _)
   | (with_reducible refine LeO.ite ?_ ?_)
   | (with_reducible refine LeO.bind ?_ (fun _ => ?_))
   | exact ih0 _ _ _ _ _ _
   | exact ih1 _ _ _ _ _ _ _
   | exact ih2 _ _ _ _ _ _ _ _ _
   | exact beaconref08_place.mono _ _ _ _
   | exact LeO.none _
   | refine LeO.ite ?_ ?_
   | refine LeO.bind ?_ (fun _ => ?_)
theorem beaconref08_next.mono:∀ a0 a1 a2 a3 a4 k,LeO (beaconref08_next.f k a0 a1 a2 a3 a4) (beaconref08_next.f (k + 1) a0 a1 a2 a3 a4):=by
 intro a0 a1 a2 a3 a4 k
 obtain ⟨ih0,ih1,ih2⟩:=beaconref08_next.mono_l k
 unfold beaconref08_next.f
 repeat' first
   | (with_reducible exact ih0 _ _ _ _ _ _)
   | (with_reducible exact ih1 _ _ _ _ _ _ _)
   | (with_reducible exact ih2 _ _ _ _ _ _ _ _ _)
   | (with_reducible exact beaconref08_place.mono _ _ _ _)
   | (with_reducible exact LeO.refl _)
   | (with_reducible exact LeO.none _)
   | (with_reducible refine LeO.ite ?_ ?_)
   | (with_reducible refine LeO.bind ?_ (fun _ => ?_))
   | exact ih0 _ _ _ _ _ _
   | exact ih1 _ _ _ _ _ _ _
   | exact ih2 _ _ _ _ _ _ _ _ _
   | exact beaconref08_place.mono _ _ _ _
   | exact LeO.none _
   | refine LeO.ite ?_ ?_
   | refine LeO.bind ?_ (fun _ => ?_)
def beaconref08_next.T10:Bool × List (List Nat × List Nat):=(true,[([],[]),([0],[0]),([1],[1]),([2],[2]),([3,2],[2,3]),([4,2],[2,4]),([2,5],[2,5]),([6,2],[6]),([7],[7]),([7],[7]),([7],[7]),([9,10,7,7],[7,9,10]),([8,11,7],[7,8,11]),([12,7],[7,12]),([7],[7]),([14,7],[7,14]),([13,15,7],[7,13,15]),([7],[7]),([7],[7]),([17,18,7],[7,17,18]),([19,7],[7,19]),([16,20,7],[7,16,20]),([7,21],[7,21])])
def beaconref08_next.B10:List Nat:=[0,1,3,7,15,31,63,127,255,255,255,1791,4095,8191,255,16639,65535,255,255,393471,917759,2097151,4194303]
theorem beaconref08_next.tab10:rtab .any (opsOf Try.f35 10) = beaconref08_next.T10:=by kernel_rfl
theorem beaconref08_next.bits10:waitsOk beaconref08_next.T10.2 beaconref08_next.B10 = true:=by kernel_rfl
set_option maxHeartbeats 8000000 in
set_option maxRecDepth 100000 in
theorem beaconref08_next.calls (k:Nat) (A0_0:Option Addr) (c0_0:Nat) (l0_0:List (S40)) (A0_1:Option Addr) (c0_1:Nat) (l0_1:List (S74)) (a1:Int) (a2:Int) (A3:Option Addr) (c3:Nat) (l3:List Nat) (r:Int) (w:World) (hr0_0:Kd.C k40 w A0_0 l0_0.length l0_0) (hc0_0:l0_0.length ≤ c0_0) (hr0_1:Kd.C k74 w A0_1 l0_1.length l0_1) (hc0_1:l0_1.length ≤ c0_1) (hr3:Kd.C Kd.float w A3 l3.length l3) (hc3:l3.length ≤ c3) (h:beaconref08_next.f k l0_0 l0_1 a1 a2 l3 = some r) :
  Calls Try.prog 35 #[.agg #[.slice A0_0 l0_0.length c0_0,.slice A0_1 l0_1.length c0_1],.int .i64 a1,.int .i64 a2,.slice A3 l3.length c3] w fun e w' => e = .returned (.int .i64 r) ∧ Below w.heap.size w w':=by
 have hu25:=Try.underlying25
 have hu74:=Try.underlying74
 have HR0_0:=Aside0.mk hr0_0
 have HC0_0:=Aside0.mk hc0_0
 clear hr0_0 hc0_0
 have HR0_1:=Aside0.mk hr0_1
 have HC0_1:=Aside0.mk hc0_1
 clear hr0_1 hc0_1
 have HR3:=Aside0.mk hr3
 have HC3:=Aside0.mk hc3
 clear hr3 hc3
 have HB:=Aside0.mk (Below.refl w.heap.size w)
 have H:((beaconref08_place.f k l0_0 l0_1 a1).bind fun t178 => (if a1 = a2 then (beaconref08_next.j0 k a1 l3 t178 true l0_0 l0_1) else (if 0 ≤ t178 then (if t178 < (l3.length:Int) then ((math_IsInf.f (rdOf (0:Nat) l3 t178) 1).bind fun t180 => (beaconref08_next.j0 k a1 l3 t178 t180 l0_0 l0_1)) else (none)) else (none)))) = some r:=h
 clear h
 replace H:=Option.bind_eq_some_iff.mp H
 obtain ⟨t178,A50,H⟩:=H
 replace H:(if a1 = a2 then (beaconref08_next.j0 k a1 l3 t178 true l0_0 l0_1) else (if 0 ≤ t178 then (if t178 < (l3.length:Int) then ((math_IsInf.f (rdOf (0:Nat) l3 t178) 1).bind fun t180 => (beaconref08_next.j0 k a1 l3 t178 t180 l0_0 l0_1)) else (none)) else (none))) = some r:=H
 have A5:=Aside0.mk A50
 clear A50
 have HC6:=Aside0.mk H
 clear H
 go_enter Try.func35,Try.ntmps35
 go_upto_region 2 with (first | ((with_reducible refine gate_dst (N:=4) rfl ?_);refine box_event ?hg (N:=4) ?hd (cs:=#[.slice A0_0 l0_0.length c0_0,.slice A0_1 l0_1.length c0_1]) (t:=25) ?hr ?_;(case hd => rfl);(case hg => rfl);(case hr => first | (go_simp;done) | (go_simp;rfl));intro gb177 hg w7 hbox hb;have n0_:=Aside0.mk (below_step (by repeat (first | (with_reducible first | exact HB.out | apply below_alloc | apply pw_below_drewN | apply below_drew1) | exact HB.out)) hb);have n1_:=Aside0.mk (hbox);have n2_:=Aside0.mk ((by rw [hg];exact (below_size (by repeat (first | (with_reducible first | exact HB.out | apply below_alloc | apply pw_below_drewN | apply below_drew1) | exact HB.out))):w.heap.size ≤ gb177));have n3_:=Aside0.mk ((by rw [hg];exact (below_size (by repeat (first | (with_reducible first | exact HB.out | apply below_alloc | apply pw_below_drewN | apply below_drew1) | exact HB.out))):w.heap.size ≤ gb177));clear HB;have HB:=n0_;have BK177:=n1_;have GW177:=n2_;have GE177:=n3_;clear n0_ n1_ n2_ n3_;clear hb hbox hg;have hcz8_0:w7.cell? ⟨gb177,0,none⟩ = some (.slice A0_0 l0_0.length c0_0):=(blk_cell BK177.out 0).trans rfl;have hcz8_1:w7.cell? ⟨gb177,1,none⟩ = some (.slice A0_1 l0_1.length c0_1):=(blk_cell BK177.out 1).trans rfl;have hfz8_0:=blk_frozen BK177.out 0;have hfz8_1:=blk_frozen BK177.out 1) | ((with_reducible refine gate_callee (f:=38) rfl ?_);refine goesL_ (some 16) rfl rfl Try.func38 (by kernel_rfl) rfl #[.agg #[.slice A0_0 l0_0.length c0_0,.slice A0_1 l0_1.length c0_1],.int .i64 a1] rfl (by (try simp only [List.map_toArray,List.map_cons,List.map_nil]);first | done | rfl | (simp only [List.length_drop,List.length_take];rfl)) ?_;(with_reducible refine (beaconref08_place.calls k _ _ l0_0 _ _ l0_1 a1 t178 _ ?side1 ?side2 ?side3 ?side4 A5.out).mono ?_);(case side1 => repeat (first | exact (Kd.C_below HR0_0.out HB.out) | (with_reducible refine Kd.C_alloc ?_ _) | (with_reducible refine Kd.C_drewN ?_ _) | (with_reducible refine Kd.C_drew ?_)));(case side2 => exact HC0_0.out);(case side3 => repeat (first | exact (Kd.C_below HR0_1.out HB.out) | (with_reducible refine Kd.C_alloc ?_ _) | (with_reducible refine Kd.C_drewN ?_ _) | (with_reducible refine Kd.C_drew ?_)));(case side4 => exact HC0_1.out);rintro e w9 ⟨rfl,hb⟩;refine ⟨_,rfl,?_⟩;have n0_:=Aside0.mk (blk_below (g:=gb177) (o:=.cells #[.slice A0_0 l0_0.length c0_0,.slice A0_1 l0_1.length c0_1] 25 (0,0)) (by (with_reducible repeat (first | refine blk_drewN ?_ _ | refine blk_drew ?_ | refine blk_alloc ?_ _));exact BK177.out) hb);have n1_:=Aside0.mk (below_step (by repeat (first | (with_reducible first | exact HB.out | apply below_alloc | apply pw_below_drewN | apply below_drew1 | refine below_set ?_ GE177.out) | exact HB.out)) hb);clear BK177;clear HB;have BK177:=n0_;have HB:=n1_;clear n0_ n1_;(try clear hb);(try clear hb2);(try clear hk);(try clear hi)))
 (try simp only [Act.put,List.setIfInBounds_toArray,List.set_cons_zero,List.set_cons_succ])
 go_cut [26] (fun v26 wc => ∃ (kq:Nat) (x26_5:Bool),v26 = .bool x26_5 ∧ Aside0 (beaconref08_next.j0 kq a1 l3 t178 x26_5 l0_0 l0_1 = some r) ∧ Aside0 (kq ≤ k) ∧ Aside0 (wc.heap[gb177]? = some (.cells #[(.slice A0_0 l0_0.length c0_0),(.slice A0_1 l0_1.length c0_1)] 25 (0,0))) ∧ Aside0 (Below w.heap.size w wc))
 case first =>
  have H:=HC6.out
  clear HC6
  by_cases c10:a1 = a2
  ·rw [if_pos c10] at H
   have c10b0:(a1 == a2) = true:=beq_iff_eq.mpr c10
   have c10b1:(a1 != a2) = false:=bne_eq_false_iff_eq.mpr c10
   clear c10
   (first | rw [c10b0] | (simp only [i64_w,i32_w];rw [c10b0]) | skip)
   have H':=Aside0.mk H
   clear H
   go_wp2
   go_meet
   case rel => exact ⟨_,(true),(by first | rfl | (simp;done) | (simp [*];done)),H',⟨by first | omega | exact Nat.le_refl _⟩,⟨by (with_reducible repeat (first | refine blk_drewN ?_ _ | refine blk_drew ?_ | refine blk_alloc ?_ _));exact BK177.out⟩,⟨by repeat (first | (with_reducible first | exact HB.out | apply below_alloc | apply pw_below_drewN | apply below_drew1 | refine below_set ?_ GE177.out) | exact HB.out)⟩⟩
  ·rw [if_neg c10] at H
   have c10b0:(a1 == a2) = false:=beq_eq_false_iff_ne.mpr c10
   have c10b1:(a1 != a2) = true:=bne_iff_ne.mpr c10
   (first | rw [c10b0] | (simp only [i64_w,i32_w];rw [c10b0]) | skip)
   by_cases c11:0 ≤ t178
   ·rw [if_pos c11] at H
    have c11b0:decide (0 ≤ t178) = true:=decide_eq_true c11
    clear c11
    by_cases c12:t178 < (l3.length:Int)
    ·rw [if_pos c12] at H
     have c12b0:decide (t178 < (l3.length:Int)) = true:=decide_eq_true c12
     clear c12
     replace H:=Option.bind_eq_some_iff.mp H
     obtain ⟨t180,A130,H⟩:=H
     replace H:(beaconref08_next.j0 k a1 l3 t178 t180 l0_0 l0_1) = some r:=H
     have A13:=Aside0.mk A130
     clear A130
     have H':=Aside0.mk H
     clear H
     have p179:0 ≤ (t178:Int):=of_decide_eq_true (by first | (with_reducible assumption) | assumption)
     have q179:t178 < (l3.length:Int):=of_decide_eq_true (by first | (with_reducible assumption) | assumption)
     obtain ⟨ad179,e179,hx179_0⟩:=Kd.at_float HR3.out t178 p179 q179
     cases e179
     replace hx179_0:=(HB.out.cell (World.block_lt_of_cell? w _ hx179_0)).trans hx179_0
     replace p179:=eq_true p179
     replace q179:=eq_true q179
     go_wp2_with (first | (go_at_call 20;(with_reducible refine (math_IsInf.calls (rdOf (0:Nat) l3 t178) 1 t180 _ A13.out).mono ?_);rintro e w' ⟨rfl,⟨nd,rfl⟩⟩))
     go_meet
     case rel => exact ⟨_,(t180),(by first | rfl | (simp;done) | (simp [*];done)),H',⟨by first | omega | exact Nat.le_refl _⟩,⟨by (with_reducible repeat (first | refine blk_drewN ?_ _ | refine blk_drew ?_ | refine blk_alloc ?_ _));exact BK177.out⟩,⟨by repeat (first | (with_reducible first | exact HB.out | apply below_alloc | apply pw_below_drewN | apply below_drew1 | refine below_set ?_ GE177.out) | exact HB.out)⟩⟩
    ·rw [if_neg c12] at H
     exact absurd H (by simp)
   ·rw [if_neg c11] at H
    exact absurd H (by simp)
 case rest =>
  clear HC6
  try clear c1
  try clear p1
  try clear q1
  try clear hx1
  try clear p2
  try clear c3
  try clear c10
  try clear c10b0
  try clear c10b1
  try clear c11
  try clear c11b0
  try clear c12
  try clear c12b0
  try clear hcz8_0
  try clear hcz8_1
  try clear hfz8_0
  try clear hfz8_1
  try clear hx179_0
  try clear p179
  try clear q179
  obtain ⟨kq,x26_5,rfl,HA,HJ5,BK177,HB⟩:=hcut
  cases kq with
  | zero => exact absurd HA.out (by simp [beaconref08_next.j0])
  | succ kj5 =>
   have H:=HA.out
   clear HA
   simp only [beaconref08_next.j0] at H
   by_cases c14:x26_5 = true
   ·subst c14
    have H1:(some 0) = some r:=by rw [if_pos rfl] at H;exact H
    clear H
    have H:=H1
    clear H1
    obtain rfl:=Option.some.inj H
    go_wp2
    go_ret
    exact ⟨by first | rfl | (simp [errW_none,errW_some] <;> rfl) | (simp [*,errW_none,errW_some] <;> rfl),by repeat (first | (with_reducible first | exact HB.out | apply below_alloc | apply pw_below_drewN | apply below_drew1 | refine below_set ?_ GE177.out) | exact HB.out)⟩
   ·replace c14:=Bool.eq_false_iff.mpr c14
    subst c14
    have H1:(beaconref08_next.l0 kj5 a1 l3 t178 0 0 l0_0 l0_1) = some r:=by rw [if_neg (show ¬ (false = true) by decide)] at H;exact H
    clear H
    have H:=H1
    clear H1
    have H':=Aside0.mk H
    clear H
    go_wp2
    go_loopg [10,11] kj5 (fun kq v10 v11 w' => ∃ (x10_2:Int) (x11_2:Int),v10 = .int .i64 x10_2 ∧ v11 = .int .i64 x11_2 ∧ Aside0 (beaconref08_next.l0 kq a1 l3 t178 x10_2 x11_2 l0_0 l0_1 = some r) ∧ Aside0 (kq ≤ kj5) ∧ Aside0 (w'.heap[gb177]? = some (.cells #[(.slice A0_0 l0_0.length c0_0),(.slice A0_1 l0_1.length c0_1)] 25 (0,0))) ∧ Aside0 (Below w.heap.size w w'))
    case atStart => exact ⟨(0),(0),(by first | rfl | (simp;done) | (simp [*];done)),(by first | rfl | (simp;done) | (simp [*];done)),H',⟨Nat.le_refl _⟩,⟨by (with_reducible repeat (first | refine blk_drewN ?_ _ | refine blk_drew ?_ | refine blk_alloc ?_ _));exact BK177.out⟩,⟨by repeat (first | (with_reducible first | exact HB.out | apply below_alloc | apply pw_below_drewN | apply below_drew1 | refine below_set ?_ GE177.out) | exact HB.out)⟩⟩
    case round =>
     clear H'
     try clear c1
     try clear p1
     try clear q1
     try clear hx1
     try clear p2
     try clear c3
     try clear c10
     try clear c10b0
     try clear c10b1
     try clear c11
     try clear c11b0
     try clear c12
     try clear c12b0
     try clear c14
     try clear hcz8_0
     try clear hcz8_1
     try clear hfz8_0
     try clear hfz8_1
     try clear hx179_0
     try clear p1
     try clear p179
     try clear p2
     try clear q1
     try clear q179
     obtain ⟨x10_2,x11_2,rfl,rfl,HA,HK2,BK177,HB⟩:=hrel
     cases gk with
     | zero => exact absurd HA.out (by simp [beaconref08_next.l0])
     | succ k2 =>
      have H:=HA.out
      clear HA
      simp only [beaconref08_next.l0] at H
      by_cases c15:x11_2 < (l0_1.length:Int)
      ·rw [if_pos c15] at H
       have c15b0:decide (x11_2 < (l0_1.length:Int)) = true:=decide_eq_true c15
       clear c15
       by_cases c16:0 ≤ x11_2
       ·rw [if_pos c16] at H
        have c16b0:decide (0 ≤ x11_2) = true:=decide_eq_true c16
        clear c16
        replace H:=Option.bind_eq_some_iff.mp H
        obtain ⟨t183,A170,H⟩:=H
        replace H:(if t183 = 0 then (beaconref08_next.j2 k2 a1 l3 t178 x10_2 x11_2 t183 true l0_0 l0_1) else (if ((rd_T74 l0_1 x11_2).f3 = true) then ((beaconref08_place.f k2 l0_0 l0_1 t183).bind fun t184 => (if 0 ≤ t184 then (if t184 < (l3.length:Int) then ((floatBits .add .f64 (rdOf (0:Nat) l3 t184) ((rd_T74 l0_1 x11_2).f2)).bind fun t186 => (if 0 ≤ t178 then (if t178 < (l3.length:Int) then (beaconref08_next.j2 k2 a1 l3 t178 x10_2 x11_2 t183 (FloatKind.f64.format.order t186 (rdOf (0:Nat) l3 t178) != some .eq) l0_0 l0_1) else (none)) else (none))) else (none)) else (none))) else (beaconref08_next.j2 k2 a1 l3 t178 x10_2 x11_2 t183 true l0_0 l0_1))) = some r:=H
        have A17:=Aside0.mk A170
        clear A170
        have HC18:=Aside0.mk H
        clear H
        have hcz19_0:wr.cell? ⟨gb177,0,none⟩ = some (.slice A0_0 l0_0.length c0_0):=(blk_cell BK177.out 0).trans rfl
        have hcz19_1:wr.cell? ⟨gb177,1,none⟩ = some (.slice A0_1 l0_1.length c0_1):=(blk_cell BK177.out 1).trans rfl
        have hfz19_0:=blk_frozen BK177.out 0
        have hfz19_1:=blk_frozen BK177.out 1
        have p181:0 ≤ (x11_2:Int):=of_decide_eq_true (by first | (with_reducible assumption) | assumption)
        have q181:x11_2 < (l0_1.length:Int):=of_decide_eq_true (by first | (with_reducible assumption) | assumption)
        obtain ⟨ad181,e181,hx181_0,hx181_1,hx181_2,hx181_3⟩:=at_T74 HR0_1.out x11_2 p181 q181
        cases e181
        replace hx181_0:=(HB.out.cell (World.block_lt_of_cell? w _ hx181_0)).trans hx181_0
        replace hx181_1:=(HB.out.cell (World.block_lt_of_cell? w _ hx181_1)).trans hx181_1
        replace hx181_2:=(HB.out.cell (World.block_lt_of_cell? w _ hx181_2)).trans hx181_2
        replace hx181_3:=(HB.out.cell (World.block_lt_of_cell? w _ hx181_3)).trans hx181_3
        replace p181:=eq_true p181
        replace q181:=eq_true q181
        go_upto_region 10 with (first | ((with_reducible refine gate_dst (N:=12) rfl ?_);refine box_event ?hg (N:=12) ?hd (cs:=#[.int .i64 0,.int .i64 0,.float .f64 0,.bool false]) (t:=74) ?hr ?_;(case hd => rfl);(case hg => rfl);(case hr => first | (go_simp;done) | (go_simp;rfl));intro gb182 hg w20 hbox hb;have n0_:=Aside0.mk (blk_below (g:=gb177) (o:=.cells #[.slice A0_0 l0_0.length c0_0,.slice (some ad181) l0_1.length c0_1] 25 (0,0)) (by (with_reducible repeat (first | refine blk_drewN ?_ _ | refine blk_drew ?_ | refine blk_alloc ?_ _));exact BK177.out) hb);have n1_:=Aside0.mk (below_step (by repeat (first | (with_reducible first | exact HB.out | apply below_alloc | apply pw_below_drewN | apply below_drew1 | refine below_set ?_ GE177.out) | exact HB.out)) hb);have n2_:=Aside0.mk (hbox);have n3_:=Aside0.mk ((by rw [hg];exact (below_size (by repeat (first | (with_reducible first | exact HB.out | apply below_alloc | apply pw_below_drewN | apply below_drew1 | refine below_set ?_ GE177.out) | exact HB.out))):w.heap.size ≤ gb182));have n4_:=Aside0.mk ((by rw [hg];exact (below_size (by repeat (first | (with_reducible first | exact HB.out | apply below_alloc | apply pw_below_drewN | apply below_drew1 | refine below_set ?_ GE177.out) | exact HB.out))):w.heap.size ≤ gb182));have n5_:=Aside0.mk ((by rw [hg];exact Nat.ne_of_lt (blk_lt (g:=gb177) (o:=.cells #[.slice A0_0 l0_0.length c0_0,.slice (some ad181) l0_1.length c0_1] 25 (0,0)) (by (with_reducible repeat (first | refine blk_drewN ?_ _ | refine blk_drew ?_ | refine blk_alloc ?_ _));exact BK177.out)):gb177 ≠ gb182));have n6_:=Aside0.mk ((by rw [hg];exact Nat.ne_of_gt (blk_lt (g:=gb177) (o:=.cells #[.slice A0_0 l0_0.length c0_0,.slice (some ad181) l0_1.length c0_1] 25 (0,0)) (by (with_reducible repeat (first | refine blk_drewN ?_ _ | refine blk_drew ?_ | refine blk_alloc ?_ _));exact BK177.out)):gb182 ≠ gb177));clear BK177;clear HB;have BK177:=n0_;have HB:=n1_;have BK182:=n2_;have GW182:=n3_;have GE182:=n4_;have NB177_182:=n5_;have NB182_177:=n6_;clear n0_ n1_ n2_ n3_ n4_ n5_ n6_;clear hb hbox hg;have hnb21:=NB182_177.out;have hnc21:=NB177_182.out;have hcz22_0:w20.cell? ⟨gb182,0,none⟩ = some (.int .i64 0):=(blk_cell BK182.out 0).trans rfl;have hcz22_1:w20.cell? ⟨gb182,1,none⟩ = some (.int .i64 0):=(blk_cell BK182.out 1).trans rfl;have hcz22_2:w20.cell? ⟨gb182,2,none⟩ = some (.float .f64 0):=(blk_cell BK182.out 2).trans rfl;have hcz22_3:w20.cell? ⟨gb182,3,none⟩ = some (.bool false):=(blk_cell BK182.out 3).trans rfl;have hfz22_0:=blk_frozen BK182.out 0;have hfz22_1:=blk_frozen BK182.out 1;have hfz22_2:=blk_frozen BK182.out 2;have hfz22_3:=blk_frozen BK182.out 3) | ((with_reducible refine gate_callee (f:=52) rfl ?_);refine goesL_ (some 41) rfl rfl Try.func52 (by kernel_rfl) rfl #[.agg #[.int .i64 ((rd_T74 l0_1 x11_2).f0),.int .i64 ((rd_T74 l0_1 x11_2).f1),.float .f64 ((rd_T74 l0_1 x11_2).f2),.bool ((rd_T74 l0_1 x11_2).f3)],.int .i64 a1] rfl (by (try simp only [List.map_toArray,List.map_cons,List.map_nil]);first | done | rfl | (simp only [List.length_drop,List.length_take];rfl)) ?_;(with_reducible refine (beaconref08_other.calls ((rd_T74 l0_1 x11_2).f0) ((rd_T74 l0_1 x11_2).f1) ((rd_T74 l0_1 x11_2).f2) ((rd_T74 l0_1 x11_2).f3) a1 t183 _ A17.out).mono ?_);rintro e w23 ⟨rfl,hb⟩;refine ⟨_,rfl,?_⟩;have n0_:=Aside0.mk (blk_below (g:=gb177) (o:=.cells #[.slice A0_0 l0_0.length c0_0,.slice (some ad181) l0_1.length c0_1] 25 (0,0)) (by (with_reducible repeat (first | refine blk_drewN ?_ _ | refine blk_drew ?_ | refine blk_alloc ?_ _));refine blk_far ?_ NB177_182.out _;(with_reducible repeat (first | refine blk_drewN ?_ _ | refine blk_drew ?_ | refine blk_alloc ?_ _));refine blk_far ?_ NB177_182.out _;(with_reducible repeat (first | refine blk_drewN ?_ _ | refine blk_drew ?_ | refine blk_alloc ?_ _));refine blk_far ?_ NB177_182.out _;(with_reducible repeat (first | refine blk_drewN ?_ _ | refine blk_drew ?_ | refine blk_alloc ?_ _));refine blk_far ?_ NB177_182.out _;(with_reducible repeat (first | refine blk_drewN ?_ _ | refine blk_drew ?_ | refine blk_alloc ?_ _));exact BK177.out) hb);have n1_:=Aside0.mk (blk_below (g:=gb182) (o:=.cells #[.int .i64 ((rd_T74 l0_1 x11_2).f0),.int .i64 ((rd_T74 l0_1 x11_2).f1),.float .f64 ((rd_T74 l0_1 x11_2).f2),.bool ((rd_T74 l0_1 x11_2).f3)] 74 (0,0)) (by (with_reducible repeat (first | refine blk_drewN ?_ _ | refine blk_drew ?_ | refine blk_alloc ?_ _));refine blk_put (cs:=#[.int .i64 ((rd_T74 l0_1 x11_2).f0),.int .i64 ((rd_T74 l0_1 x11_2).f1),.float .f64 ((rd_T74 l0_1 x11_2).f2),.bool false]) ?_ 3 _ rfl;(with_reducible repeat (first | refine blk_drewN ?_ _ | refine blk_drew ?_ | refine blk_alloc ?_ _));refine blk_put (cs:=#[.int .i64 ((rd_T74 l0_1 x11_2).f0),.int .i64 ((rd_T74 l0_1 x11_2).f1),.float .f64 0,.bool false]) ?_ 2 _ rfl;(with_reducible repeat (first | refine blk_drewN ?_ _ | refine blk_drew ?_ | refine blk_alloc ?_ _));refine blk_put (cs:=#[.int .i64 ((rd_T74 l0_1 x11_2).f0),.int .i64 0,.float .f64 0,.bool false]) ?_ 1 _ rfl;(with_reducible repeat (first | refine blk_drewN ?_ _ | refine blk_drew ?_ | refine blk_alloc ?_ _));refine blk_put (cs:=#[.int .i64 0,.int .i64 0,.float .f64 0,.bool false]) ?_ 0 _ rfl;(with_reducible repeat (first | refine blk_drewN ?_ _ | refine blk_drew ?_ | refine blk_alloc ?_ _));exact BK182.out) hb);have n2_:=Aside0.mk (below_step (by repeat (first | (with_reducible first | exact HB.out | apply below_alloc | apply pw_below_drewN | apply below_drew1 | refine below_set ?_ GE177.out | refine below_set ?_ GE182.out) | exact HB.out)) hb);clear BK177;clear BK182;clear HB;have BK177:=n0_;have BK182:=n1_;have HB:=n2_;clear n0_ n1_ n2_;(try clear hb);(try clear hb2);(try clear hk);(try clear hi)))
        (try simp only [Act.put,List.setIfInBounds_toArray,List.set_cons_zero,List.set_cons_succ])
        go_cut [64] (fun v64 wc => ∃ (kq:Nat) (x64_17:Bool),v64 = .bool x64_17 ∧ Aside0 (beaconref08_next.j2 kq a1 l3 t178 x10_2 x11_2 t183 x64_17 l0_0 l0_1 = some r) ∧ Aside0 (kq ≤ k2) ∧ Aside0 (wc.heap[gb177]? = some (.cells #[(.slice A0_0 l0_0.length c0_0),(.slice (some ad181) l0_1.length c0_1)] 25 (0,0))) ∧ Aside0 (wc.heap[gb182]? = some (.cells #[.int .i64 ((rd_T74 l0_1 x11_2).f0),.int .i64 ((rd_T74 l0_1 x11_2).f1),.float .f64 ((rd_T74 l0_1 x11_2).f2),.bool ((rd_T74 l0_1 x11_2).f3)] 74 (0,0))) ∧ Aside0 (Below w.heap.size w wc))
        case first =>
         have H:=HC18.out
         clear HC18
         by_cases c24:t183 = 0
         ·rw [if_pos c24] at H
          have c24b0:(t183 == 0) = true:=beq_iff_eq.mpr c24
          have c24b1:(t183 != 0) = false:=bne_eq_false_iff_eq.mpr c24
          clear c24
          (first | rw [c24b0] | (simp only [i64_w,i32_w];rw [c24b0]) | skip)
          have H':=Aside0.mk H
          clear H
          try go_wp2
          have n0_:=Aside0.mk (blk_drew BK177.out)
          have n1_:=Aside0.mk (blk_drew BK182.out)
          have n2_:=Aside0.mk (below_drew1 HB.out)
          clear BK177
          clear BK182
          clear HB
          have BK177:=n0_
          have BK182:=n1_
          have HB:=n2_
          clear n0_ n1_ n2_
          refine start_ (n:=23) (S:=fun w' => True) (ds:=[]) #[false,false,false,false,false,false,false,false,false,false,false,false,false,false,false,false,false,false,false,false,false,false,false] (by kernel_rfl) rfl rfl trivial (fun hHeld => ?_);refine with_tabW beaconref08_next.tab10 beaconref08_next.bits10 (fun HT_ HW_ => ?_)
          generalize w23.drew = w25 at BK177 BK182 HB hHeld ⊢
          refine pure_ (i:=0) (N:=some 42) (v:=?_) (a':=?_) #[true,false,false,false,false,false,false,false,false,false,false,false,false,false,false,false,false,false,false,false,false,false,false] rfl rfl (any_of HT_.out (by kernel_rfl)) (fun _ _ _ h => h) (Or.inl ⟨by rfl,?_⟩) ?_ ?_
          rotate_left
          ·intro w'
           go_simp
           with_reducible rfl
          rotate_left
          ·simp only [Act.put,List.setIfInBounds_toArray,List.set_cons_zero,List.set_cons_succ,i64_w,i32_w]
           rfl
          refine pure_ (i:=1) (N:=some 43) (v:=?_) (a':=?_) #[true,true,false,false,false,false,false,false,false,false,false,false,false,false,false,false,false,false,false,false,false,false,false] rfl rfl (any_of HT_.out (by kernel_rfl)) (fun _ _ _ h => h) (Or.inl ⟨by rfl,?_⟩) ?_ ?_
          rotate_left
          ·intro w'
           go_simp
           with_reducible rfl
          rotate_left
          ·simp only [Act.put,List.setIfInBounds_toArray,List.set_cons_zero,List.set_cons_succ,i64_w,i32_w]
           rfl
          refine pure_ (i:=2) (N:=some 44) (v:=?_) (a':=?_) #[true,true,true,false,false,false,false,false,false,false,false,false,false,false,false,false,false,false,false,false,false,false,false] rfl rfl (any_of HT_.out (by kernel_rfl)) (fun _ _ _ h => h) (Or.inl ⟨by rfl,?_⟩) ?_ ?_
          rotate_left
          ·intro w'
           go_simp
           with_reducible rfl
          rotate_left
          ·simp only [Act.put,List.setIfInBounds_toArray,List.set_cons_zero,List.set_cons_succ,i64_w,i32_w]
           rfl
          refine pure_ (i:=3) (N:=some 45) (v:=undef) (a':=?_) #[true,true,true,true,false,false,false,false,false,false,false,false,false,false,false,false,false,false,false,false,false,false,false] rfl rfl (any_of HT_.out (by kernel_rfl)) (fun _ _ _ h => h) (Or.inr ⟨by rfl,rfl⟩) ?_ ?_
          rotate_left
          ·simp only [Act.put,List.setIfInBounds_toArray,List.set_cons_zero,List.set_cons_succ,i64_w,i32_w]
           rfl
          refine pure_ (i:=4) (N:=some 46) (v:=undef) (a':=?_) #[true,true,true,true,true,false,false,false,false,false,false,false,false,false,false,false,false,false,false,false,false,false,false] rfl rfl (any_of HT_.out (by kernel_rfl)) (fun _ _ _ h => h) (Or.inr ⟨by rfl,rfl⟩) ?_ ?_
          rotate_left
          ·simp only [Act.put,List.setIfInBounds_toArray,List.set_cons_zero,List.set_cons_succ,i64_w,i32_w]
           rfl
          refine pure_ (i:=5) (N:=some 47) (v:=undef) (a':=?_) #[true,true,true,true,true,true,false,false,false,false,false,false,false,false,false,false,false,false,false,false,false,false,false] rfl rfl (any_of HT_.out (by kernel_rfl)) (fun _ _ _ h => h) (Or.inr ⟨by rfl,rfl⟩) ?_ ?_
          rotate_left
          ·simp only [Act.put,List.setIfInBounds_toArray,List.set_cons_zero,List.set_cons_succ,i64_w,i32_w]
           rfl
          refine pure_ (i:=6) (N:=some 48) (v:=?_) (a':=?_) #[true,true,true,true,true,true,true,false,false,false,false,false,false,false,false,false,false,false,false,false,false,false,false] rfl rfl (any_of HT_.out (by kernel_rfl)) (fun _ _ _ h => h) (Or.inl ⟨by rfl,?_⟩) ?_ ?_
          rotate_left
          ·intro w'
           go_simp
           with_reducible rfl
          rotate_left
          ·simp only [Act.put,List.setIfInBounds_toArray,List.set_cons_zero,List.set_cons_succ,i64_w,i32_w]
           rfl
          refine pure_ (i:=7) (N:=some 49) (v:=?_) (a':=?_) #[true,true,true,true,true,true,true,true,false,false,false,false,false,false,false,false,false,false,false,false,false,false,false] rfl rfl (any_of HT_.out (by kernel_rfl)) (fun _ _ _ h => h) (Or.inl ⟨by rfl,?_⟩) ?_ ?_
          rotate_left
          ·intro w'
           go_simp
           with_reducible rfl
          rotate_left
          ·simp only [Act.put,List.setIfInBounds_toArray,List.set_cons_zero,List.set_cons_succ,i64_w,i32_w]
           rfl
          refine pure_ (i:=8) (N:=some 50) (v:=undef) (a':=?_) #[true,true,true,true,true,true,true,true,true,false,false,false,false,false,false,false,false,false,false,false,false,false,false] rfl rfl (any_of HT_.out (by kernel_rfl)) (fun _ _ _ h => h) (Or.inr ⟨by rfl,rfl⟩) ?_ ?_
          rotate_left
          ·simp only [Act.put,List.setIfInBounds_toArray,List.set_cons_zero,List.set_cons_succ,i64_w,i32_w]
           rfl
          refine pure_ (i:=9) (N:=some 51) (v:=undef) (a':=?_) #[true,true,true,true,true,true,true,true,true,true,false,false,false,false,false,false,false,false,false,false,false,false,false] rfl rfl (any_of HT_.out (by kernel_rfl)) (fun _ _ _ h => h) (Or.inr ⟨by rfl,rfl⟩) ?_ ?_
          rotate_left
          ·simp only [Act.put,List.setIfInBounds_toArray,List.set_cons_zero,List.set_cons_succ,i64_w,i32_w]
           rfl
          refine pure_ (i:=10) (N:=some 52) (v:=undef) (a':=?_) #[true,true,true,true,true,true,true,true,true,true,true,false,false,false,false,false,false,false,false,false,false,false,false] rfl rfl (any_of HT_.out (by kernel_rfl)) (fun _ _ _ h => h) (Or.inr ⟨by rfl,rfl⟩) ?_ ?_
          rotate_left
          ·simp only [Act.put,List.setIfInBounds_toArray,List.set_cons_zero,List.set_cons_succ,i64_w,i32_w]
           rfl
          refine pure_ (i:=11) (N:=some 53) (v:=undef) (a':=?_) #[true,true,true,true,true,true,true,true,true,true,true,true,false,false,false,false,false,false,false,false,false,false,false] rfl rfl (any_of HT_.out (by kernel_rfl)) (fun _ _ _ h => h) (Or.inr ⟨by rfl,rfl⟩) ?_ ?_
          rotate_left
          ·simp only [Act.put,List.setIfInBounds_toArray,List.set_cons_zero,List.set_cons_succ,i64_w,i32_w]
           rfl
          refine pure_ (i:=12) (N:=some 54) (v:=undef) (a':=?_) #[true,true,true,true,true,true,true,true,true,true,true,true,true,false,false,false,false,false,false,false,false,false,false] rfl rfl (any_of HT_.out (by kernel_rfl)) (fun _ _ _ h => h) (Or.inr ⟨by rfl,rfl⟩) ?_ ?_
          rotate_left
          ·simp only [Act.put,List.setIfInBounds_toArray,List.set_cons_zero,List.set_cons_succ,i64_w,i32_w]
           rfl
          refine pure_ (i:=13) (N:=some 55) (v:=undef) (a':=?_) #[true,true,true,true,true,true,true,true,true,true,true,true,true,true,false,false,false,false,false,false,false,false,false] rfl rfl (any_of HT_.out (by kernel_rfl)) (fun _ _ _ h => h) (Or.inr ⟨by rfl,rfl⟩) ?_ ?_
          rotate_left
          ·simp only [Act.put,List.setIfInBounds_toArray,List.set_cons_zero,List.set_cons_succ,i64_w,i32_w]
           rfl
          refine pure_ (i:=14) (N:=some 56) (v:=undef) (a':=?_) #[true,true,true,true,true,true,true,true,true,true,true,true,true,true,true,false,false,false,false,false,false,false,false] rfl rfl (any_of HT_.out (by kernel_rfl)) (fun _ _ _ h => h) (Or.inr ⟨by rfl,rfl⟩) ?_ ?_
          rotate_left
          ·simp only [Act.put,List.setIfInBounds_toArray,List.set_cons_zero,List.set_cons_succ,i64_w,i32_w]
           rfl
          refine pure_ (i:=15) (N:=some 57) (v:=undef) (a':=?_) #[true,true,true,true,true,true,true,true,true,true,true,true,true,true,true,true,false,false,false,false,false,false,false] rfl rfl (any_of HT_.out (by kernel_rfl)) (fun _ _ _ h => h) (Or.inr ⟨by rfl,rfl⟩) ?_ ?_
          rotate_left
          ·simp only [Act.put,List.setIfInBounds_toArray,List.set_cons_zero,List.set_cons_succ,i64_w,i32_w]
           rfl
          refine pure_ (i:=16) (N:=some 58) (v:=undef) (a':=?_) #[true,true,true,true,true,true,true,true,true,true,true,true,true,true,true,true,true,false,false,false,false,false,false] rfl rfl (any_of HT_.out (by kernel_rfl)) (fun _ _ _ h => h) (Or.inr ⟨by rfl,rfl⟩) ?_ ?_
          rotate_left
          ·simp only [Act.put,List.setIfInBounds_toArray,List.set_cons_zero,List.set_cons_succ,i64_w,i32_w]
           rfl
          refine pure_ (i:=17) (N:=some 59) (v:=undef) (a':=?_) #[true,true,true,true,true,true,true,true,true,true,true,true,true,true,true,true,true,true,false,false,false,false,false] rfl rfl (any_of HT_.out (by kernel_rfl)) (fun _ _ _ h => h) (Or.inr ⟨by rfl,rfl⟩) ?_ ?_
          rotate_left
          ·simp only [Act.put,List.setIfInBounds_toArray,List.set_cons_zero,List.set_cons_succ,i64_w,i32_w]
           rfl
          refine pure_ (i:=18) (N:=some 60) (v:=undef) (a':=?_) #[true,true,true,true,true,true,true,true,true,true,true,true,true,true,true,true,true,true,true,false,false,false,false] rfl rfl (any_of HT_.out (by kernel_rfl)) (fun _ _ _ h => h) (Or.inr ⟨by rfl,rfl⟩) ?_ ?_
          rotate_left
          ·simp only [Act.put,List.setIfInBounds_toArray,List.set_cons_zero,List.set_cons_succ,i64_w,i32_w]
           rfl
          refine pure_ (i:=19) (N:=some 61) (v:=undef) (a':=?_) #[true,true,true,true,true,true,true,true,true,true,true,true,true,true,true,true,true,true,true,true,false,false,false] rfl rfl (any_of HT_.out (by kernel_rfl)) (fun _ _ _ h => h) (Or.inr ⟨by rfl,rfl⟩) ?_ ?_
          rotate_left
          ·simp only [Act.put,List.setIfInBounds_toArray,List.set_cons_zero,List.set_cons_succ,i64_w,i32_w]
           rfl
          refine pure_ (i:=20) (N:=some 62) (v:=undef) (a':=?_) #[true,true,true,true,true,true,true,true,true,true,true,true,true,true,true,true,true,true,true,true,true,false,false] rfl rfl (any_of HT_.out (by kernel_rfl)) (fun _ _ _ h => h) (Or.inr ⟨by rfl,rfl⟩) ?_ ?_
          rotate_left
          ·simp only [Act.put,List.setIfInBounds_toArray,List.set_cons_zero,List.set_cons_succ,i64_w,i32_w]
           rfl
          refine pure_ (i:=21) (N:=some 63) (v:=undef) (a':=?_) #[true,true,true,true,true,true,true,true,true,true,true,true,true,true,true,true,true,true,true,true,true,true,false] rfl rfl (any_of HT_.out (by kernel_rfl)) (fun _ _ _ h => h) (Or.inr ⟨by rfl,rfl⟩) ?_ ?_
          rotate_left
          ·simp only [Act.put,List.setIfInBounds_toArray,List.set_cons_zero,List.set_cons_succ,i64_w,i32_w]
           rfl
          refine pure_ (i:=22) (N:=some 64) (v:=?_) (a':=?_) #[true,true,true,true,true,true,true,true,true,true,true,true,true,true,true,true,true,true,true,true,true,true,true] rfl rfl (any_of HT_.out (by kernel_rfl)) (fun _ _ _ h => h) (Or.inl ⟨by rfl,?_⟩) ?_ ?_
          rotate_left
          ·intro w'
           go_simp
           with_reducible rfl
          rotate_left
          ·simp only [Act.put,List.setIfInBounds_toArray,List.set_cons_zero,List.set_cons_succ,i64_w,i32_w]
           rfl
          refine done_ (done_of HT_.out (by kernel_rfl)) ?_
          try go_wp2
          go_meet
          case rel => exact ⟨_,(true),(by first | rfl | (simp;done) | (simp [*];done)),H',⟨by have:=HJ5.out;have:=HK2.out;first | omega | exact Nat.le_refl _⟩,⟨by (with_reducible repeat (first | refine blk_drewN ?_ _ | refine blk_drew ?_ | refine blk_alloc ?_ _));exact BK177.out⟩,⟨by (with_reducible repeat (first | refine blk_drewN ?_ _ | refine blk_drew ?_ | refine blk_alloc ?_ _));exact BK182.out⟩,⟨by repeat (first | (with_reducible first | exact HB.out | apply below_alloc | apply pw_below_drewN | apply below_drew1 | refine below_set ?_ GE177.out | refine below_set ?_ GE182.out) | exact HB.out)⟩⟩
         ·rw [if_neg c24] at H
          have c24b0:(t183 == 0) = false:=beq_eq_false_iff_ne.mpr c24
          have c24b1:(t183 != 0) = true:=bne_iff_ne.mpr c24
          (first | rw [c24b0] | (simp only [i64_w,i32_w];rw [c24b0]) | skip)
          obtain ⟨bq26,hbq26⟩:∃ b_:Bool,b_ = ((rd_T74 l0_1 x11_2).f3):=⟨_,rfl⟩
          replace H:(if (bq26 = true) then ((beaconref08_place.f k2 l0_0 l0_1 t183).bind fun t184 => (if 0 ≤ t184 then (if t184 < (l3.length:Int) then ((floatBits .add .f64 (rdOf (0:Nat) l3 t184) ((rd_T74 l0_1 x11_2).f2)).bind fun t186 => (if 0 ≤ t178 then (if t178 < (l3.length:Int) then (beaconref08_next.j2 k2 a1 l3 t178 x10_2 x11_2 t183 (FloatKind.f64.format.order t186 (rdOf (0:Nat) l3 t178) != some .eq) l0_0 l0_1) else (none)) else (none))) else (none)) else (none))) else (beaconref08_next.j2 k2 a1 l3 t178 x10_2 x11_2 t183 true l0_0 l0_1)) = some r:=by rw [← hbq26] at H;exact H
          have Nbq26:=Aside0.mk hbq26
          clear hbq26
          by_cases c27:(bq26 = true)
          ·subst c27
           have H1:((beaconref08_place.f k2 l0_0 l0_1 t183).bind fun t184 => (if 0 ≤ t184 then (if t184 < (l3.length:Int) then ((floatBits .add .f64 (rdOf (0:Nat) l3 t184) ((rd_T74 l0_1 x11_2).f2)).bind fun t186 => (if 0 ≤ t178 then (if t178 < (l3.length:Int) then (beaconref08_next.j2 k2 a1 l3 t178 x10_2 x11_2 t183 (FloatKind.f64.format.order t186 (rdOf (0:Nat) l3 t178) != some .eq) l0_0 l0_1) else (none)) else (none))) else (none)) else (none))) = some r:=by rw [if_pos rfl] at H;exact H
           clear H
           have H:=H1
           clear H1
           replace H:=Option.bind_eq_some_iff.mp H
           obtain ⟨t184,A280,H⟩:=H
           replace H:(if 0 ≤ t184 then (if t184 < (l3.length:Int) then ((floatBits .add .f64 (rdOf (0:Nat) l3 t184) ((rd_T74 l0_1 x11_2).f2)).bind fun t186 => (if 0 ≤ t178 then (if t178 < (l3.length:Int) then (beaconref08_next.j2 k2 a1 l3 t178 x10_2 x11_2 t183 (FloatKind.f64.format.order t186 (rdOf (0:Nat) l3 t178) != some .eq) l0_0 l0_1) else (none)) else (none))) else (none)) else (none)) = some r:=H
           have A28:=Aside0.mk A280
           clear A280
           by_cases c29:0 ≤ t184
           ·rw [if_pos c29] at H
            have c29b0:decide (0 ≤ t184) = true:=decide_eq_true c29
            clear c29
            by_cases c30:t184 < (l3.length:Int)
            ·rw [if_pos c30] at H
             have c30b0:decide (t184 < (l3.length:Int)) = true:=decide_eq_true c30
             clear c30
             replace H:=Option.bind_eq_some_iff.mp H
             obtain ⟨t186,A310,H⟩:=H
             replace H:(if 0 ≤ t178 then (if t178 < (l3.length:Int) then (beaconref08_next.j2 k2 a1 l3 t178 x10_2 x11_2 t183 (FloatKind.f64.format.order t186 (rdOf (0:Nat) l3 t178) != some .eq) l0_0 l0_1) else (none)) else (none)) = some r:=H
             have A31f:∀ W_:World,(binOp .add 26 (.float .f64 (rdOf (0:Nat) l3 t184)) (.float .f64 ((rd_T74 l0_1 x11_2).f2))).run Try.prog W_ = .ok (.float .f64 t186) W_:=fun W_ => run_float_arith W_ .add 26 .f64 _ _ _ A310
             have A31:=Aside0.mk A310
             clear A310
             by_cases c32:0 ≤ t178
             ·rw [if_pos c32] at H
              have c32b0:decide (0 ≤ t178) = true:=decide_eq_true c32
              clear c32
              by_cases c33:t178 < (l3.length:Int)
              ·rw [if_pos c33] at H
               have c33b0:decide (t178 < (l3.length:Int)) = true:=decide_eq_true c33
               clear c33
               have H':=Aside0.mk H
               clear H
               try go_wp2
               have n0_:=Aside0.mk (blk_drew BK177.out)
               have n1_:=Aside0.mk (blk_drew BK182.out)
               have n2_:=Aside0.mk (below_drew1 HB.out)
               clear BK177
               clear BK182
               clear HB
               have BK177:=n0_
               have BK182:=n1_
               have HB:=n2_
               clear n0_ n1_ n2_
               have p187:0 ≤ (t178:Int):=of_decide_eq_true (by first | (with_reducible assumption) | assumption)
               have q187:t178 < (l3.length:Int):=of_decide_eq_true (by first | (with_reducible assumption) | assumption)
               obtain ⟨ad187,e187,hx187_0⟩:=Kd.at_float HR3.out t178 p187 q187
               have hw187_0:=hx187_0
               cases e187
               replace hx187_0:=(HB.out.cell (World.block_lt_of_cell? w _ hx187_0)).trans hx187_0
               replace p187:=eq_true p187
               replace q187:=eq_true q187
               have p185:0 ≤ (t184:Int):=of_decide_eq_true (by first | (with_reducible assumption) | assumption)
               have q185:t184 < (l3.length:Int):=of_decide_eq_true (by first | (with_reducible assumption) | assumption)
               obtain ⟨ad185,e185,hx185_0⟩:=Kd.at_float HR3.out t184 p185 q185
               have hw185_0:=hx185_0
               obtain rfl:ad187 = ad185:=(by injection e185)
               replace hx185_0:=(HB.out.cell (World.block_lt_of_cell? w _ hx185_0)).trans hx185_0
               replace p185:=eq_true p185
               replace q185:=eq_true q185
               refine start_ (n:=23) (S:=fun w' => w'.cell? ⟨gb182,0,none⟩ = some (.int .i64 ((rd_T74 l0_1 x11_2).f0)) ∧ w'.cell? ⟨gb182,1,none⟩ = some (.int .i64 ((rd_T74 l0_1 x11_2).f1)) ∧ w'.cell? ⟨gb182,2,none⟩ = some (.float .f64 ((rd_T74 l0_1 x11_2).f2)) ∧ w'.cell? ⟨gb182,3,none⟩ = some (.bool true) ∧ w'.cell? ⟨gb177,0,none⟩ = some (.slice A0_0 l0_0.length c0_0) ∧ w'.cell? ⟨gb177,1,none⟩ = some (.slice (some ad181) l0_1.length c0_1) ∧ w'.cell? (ad187.add (t178).toNat) = some (.float .f64 (rdOf (0:Nat) l3 t178)) ∧ w'.cell? (ad187.add (t184).toNat) = some (.float .f64 (rdOf (0:Nat) l3 t184))) (ds:=[]) #[false,false,false,false,false,false,false,false,false,false,false,false,false,false,false,false,false,false,false,false,false,false,false] (by kernel_rfl) rfl rfl ⟨(blk_cell BK182.out 0).trans (by first | rfl | ((try rw [← Nbq26.out]);rfl)),(blk_cell BK182.out 1).trans (by first | rfl | ((try rw [← Nbq26.out]);rfl)),(blk_cell BK182.out 2).trans (by first | rfl | ((try rw [← Nbq26.out]);rfl)),(blk_cell BK182.out 3).trans (by first | rfl | ((try rw [← Nbq26.out]);rfl)),(blk_cell BK177.out 0).trans (by first | rfl | ((try rw [← Nbq26.out]);rfl)),(blk_cell BK177.out 1).trans (by first | rfl | ((try rw [← Nbq26.out]);rfl)),((HB.out.cell (World.block_lt_of_cell? w _ hw187_0)).trans hw187_0),((HB.out.cell (World.block_lt_of_cell? w _ hw185_0)).trans hw185_0)⟩ (fun hHeld => ?_);refine with_tabW beaconref08_next.tab10 beaconref08_next.bits10 (fun HT_ HW_ => ?_)
               generalize w23.drew = w34 at BK177 BK182 HB hx185_0 hx187_0 hHeld ⊢
               refine pure_ (i:=0) (N:=some 42) (v:=?_) (a':=?_) #[true,false,false,false,false,false,false,false,false,false,false,false,false,false,false,false,false,false,false,false,false,false,false] rfl rfl (any_of HT_.out (by kernel_rfl)) (fun _ _ _ h => h) (Or.inl ⟨by rfl,?_⟩) ?_ ?_
               rotate_left
               ·intro w'
                go_simp
                with_reducible rfl
               rotate_left
               ·simp only [Act.put,List.setIfInBounds_toArray,List.set_cons_zero,List.set_cons_succ,i64_w,i32_w]
                rfl
               refine pure_ (i:=1) (N:=some 43) (v:=?_) (a':=?_) #[true,true,false,false,false,false,false,false,false,false,false,false,false,false,false,false,false,false,false,false,false,false,false] rfl rfl (any_of HT_.out (by kernel_rfl)) (fun _ _ _ h => h) (Or.inl ⟨by rfl,?_⟩) ?_ ?_
               rotate_left
               ·intro w'
                go_simp
                with_reducible rfl
               rotate_left
               ·simp only [Act.put,List.setIfInBounds_toArray,List.set_cons_zero,List.set_cons_succ,i64_w,i32_w]
                rfl
               refine pure_ (i:=2) (N:=some 44) (v:=?_) (a':=?_) #[true,true,true,false,false,false,false,false,false,false,false,false,false,false,false,false,false,false,false,false,false,false,false] rfl rfl (any_of HT_.out (by kernel_rfl)) (fun _ _ _ h => h) (Or.inl ⟨by rfl,?_⟩) ?_ ?_
               rotate_left
               ·intro w'
                go_simp
                with_reducible rfl
               rotate_left
               ·simp only [Act.put,List.setIfInBounds_toArray,List.set_cons_zero,List.set_cons_succ,i64_w,i32_w]
                rfl
               refine pure_ (i:=3) (N:=some 45) (v:=?_) (a':=?_) #[true,true,true,true,false,false,false,false,false,false,false,false,false,false,false,false,false,false,false,false,false,false,false] rfl rfl (any_of HT_.out (by kernel_rfl)) (fun _ _ _ h => h) (Or.inl ⟨by rfl,?_⟩) ?_ ?_
               rotate_left
               ·intro w'
                go_simp
                with_reducible rfl
               rotate_left
               ·simp only [Act.put,List.setIfInBounds_toArray,List.set_cons_zero,List.set_cons_succ,i64_w,i32_w]
                rfl
               refine take_ (i:=4) (N:=some 46) (v:=?_) (a':=?_) #[true,true,true,true,true,false,false,false,false,false,false,false,false,false,false,false,false,false,false,false,false,false,false] rfl rfl (take_ofW HT_.out HW_.out (by kernel_rfl)) (fun _ _ _ h => h) (Or.inl ⟨by rfl,?_⟩) hHeld ?_ ?_
               rotate_left
               ·rintro w' ⟨s0,s1,s2,s3,s4,s5,s6,s7⟩
                go_simp
                with_reducible rfl
               rotate_left
               ·simp only [Act.put,List.setIfInBounds_toArray,List.set_cons_zero,List.set_cons_succ,i64_w,i32_w]
                rfl
               refine pure_ (i:=5) (N:=some 47) (v:=?_) (a':=?_) #[true,true,true,true,true,true,false,false,false,false,false,false,false,false,false,false,false,false,false,false,false,false,false] rfl rfl (any_of HT_.out (by kernel_rfl)) (fun _ _ _ h => h) (Or.inl ⟨by rfl,?_⟩) ?_ ?_
               rotate_left
               ·intro w'
                go_simp
                with_reducible rfl
               rotate_left
               ·simp only [Act.put,List.setIfInBounds_toArray,List.set_cons_zero,List.set_cons_succ,i64_w,i32_w]
                rfl
               refine pure_ (i:=6) (N:=some 48) (v:=?_) (a':=?_) #[true,true,true,true,true,true,true,false,false,false,false,false,false,false,false,false,false,false,false,false,false,false,false] rfl rfl (any_of HT_.out (by kernel_rfl)) (fun _ _ _ h => h) (Or.inl ⟨by rfl,?_⟩) ?_ ?_
               rotate_left
               ·intro w'
                go_simp
                with_reducible rfl
               rotate_left
               ·simp only [Act.put,List.setIfInBounds_toArray,List.set_cons_zero,List.set_cons_succ,i64_w,i32_w]
                rfl
               refine pure_ (i:=7) (N:=some 49) (v:=?_) (a':=?_) #[true,true,true,true,true,true,true,true,false,false,false,false,false,false,false,false,false,false,false,false,false,false,false] rfl rfl (any_of HT_.out (by kernel_rfl)) (fun _ _ _ h => h) (Or.inl ⟨by rfl,?_⟩) ?_ ?_
               rotate_left
               ·intro w'
                go_simp
                with_reducible rfl
               rotate_left
               ·simp only [Act.put,List.setIfInBounds_toArray,List.set_cons_zero,List.set_cons_succ,i64_w,i32_w]
                rfl
               refine pure_ (i:=8) (N:=some 50) (v:=?_) (a':=?_) #[true,true,true,true,true,true,true,true,true,false,false,false,false,false,false,false,false,false,false,false,false,false,false] rfl rfl (any_of HT_.out (by kernel_rfl)) (fun _ _ _ h => h) (Or.inl ⟨by rfl,?_⟩) ?_ ?_
               rotate_left
               ·intro w'
                go_simp
                with_reducible rfl
               rotate_left
               ·simp only [Act.put,List.setIfInBounds_toArray,List.set_cons_zero,List.set_cons_succ,i64_w,i32_w]
                rfl
               refine pure_ (i:=10) (N:=some 52) (v:=?_) (a':=?_) #[true,true,true,true,true,true,true,true,true,false,true,false,false,false,false,false,false,false,false,false,false,false,false] rfl rfl (any_of HT_.out (by kernel_rfl)) (fun _ _ _ h => h) (Or.inl ⟨by rfl,?_⟩) ?_ ?_
               rotate_left
               ·intro w'
                go_simp
                with_reducible rfl
               rotate_left
               ·simp only [Act.put,List.setIfInBounds_toArray,List.set_cons_zero,List.set_cons_succ,i64_w,i32_w]
                rfl
               refine pure_ (i:=14) (N:=some 56) (v:=?_) (a':=?_) #[true,true,true,true,true,true,true,true,true,false,true,false,false,false,true,false,false,false,false,false,false,false,false] rfl rfl (any_of HT_.out (by kernel_rfl)) (fun _ _ _ h => h) (Or.inl ⟨by rfl,?_⟩) ?_ ?_
               rotate_left
               ·intro w'
                go_simp
                with_reducible rfl
               rotate_left
               ·simp only [Act.put,List.setIfInBounds_toArray,List.set_cons_zero,List.set_cons_succ,i64_w,i32_w]
                rfl
               refine pure_ (i:=17) (N:=some 59) (v:=?_) (a':=?_) #[true,true,true,true,true,true,true,true,true,false,true,false,false,false,true,false,false,true,false,false,false,false,false] rfl rfl (any_of HT_.out (by kernel_rfl)) (fun _ _ _ h => h) (Or.inl ⟨by rfl,?_⟩) ?_ ?_
               rotate_left
               ·intro w'
                go_simp
                with_reducible rfl
               rotate_left
               ·simp only [Act.put,List.setIfInBounds_toArray,List.set_cons_zero,List.set_cons_succ,i64_w,i32_w]
                rfl
               refine pure_ (i:=18) (N:=some 60) (v:=?_) (a':=?_) #[true,true,true,true,true,true,true,true,true,false,true,false,false,false,true,false,false,true,true,false,false,false,false] rfl rfl (any_of HT_.out (by kernel_rfl)) (fun _ _ _ h => h) (Or.inl ⟨by rfl,?_⟩) ?_ ?_
               rotate_left
               ·intro w'
                go_simp
                with_reducible rfl
               rotate_left
               ·simp only [Act.put,List.setIfInBounds_toArray,List.set_cons_zero,List.set_cons_succ,i64_w,i32_w]
                rfl
               refine pure_ (i:=19) (N:=some 61) (v:=?_) (a':=?_) #[true,true,true,true,true,true,true,true,true,false,true,false,false,false,true,false,false,true,true,true,false,false,false] rfl rfl (any_of HT_.out (by kernel_rfl)) (fun _ _ _ h => h) (Or.inl ⟨by rfl,?_⟩) ?_ ?_
               rotate_left
               ·intro w'
                go_simp
                with_reducible rfl
               rotate_left
               ·simp only [Act.put,List.setIfInBounds_toArray,List.set_cons_zero,List.set_cons_succ,i64_w,i32_w]
                rfl
               refine take_ (i:=9) (N:=some 51) (v:=?_) (a':=?_) #[true,true,true,true,true,true,true,true,true,true,true,false,false,false,true,false,false,true,true,true,false,false,false] rfl rfl (take_ofW HT_.out HW_.out (by kernel_rfl)) (fun _ _ _ h => h) (Or.inl ⟨by rfl,?_⟩) hHeld ?_ ?_
               rotate_left
               ·rintro w' ⟨s0,s1,s2,s3,s4,s5,s6,s7⟩
                go_simp
                with_reducible rfl
               rotate_left
               ·simp only [Act.put,List.setIfInBounds_toArray,List.set_cons_zero,List.set_cons_succ,i64_w,i32_w]
                rfl
               refine take_ (i:=15) (N:=some 57) (v:=?_) (a':=?_) #[true,true,true,true,true,true,true,true,true,true,true,false,false,false,true,true,false,true,true,true,false,false,false] rfl rfl (take_ofW HT_.out HW_.out (by kernel_rfl)) (fun _ _ _ h => h) (Or.inl ⟨by rfl,?_⟩) hHeld ?_ ?_
               rotate_left
               ·rintro w' ⟨s0,s1,s2,s3,s4,s5,s6,s7⟩
                go_simp
                with_reducible rfl
               rotate_left
               ·simp only [Act.put,List.setIfInBounds_toArray,List.set_cons_zero,List.set_cons_succ,i64_w,i32_w]
                rfl
               refine take_ (i:=20) (N:=some 62) (v:=?_) (a':=?_) #[true,true,true,true,true,true,true,true,true,true,true,false,false,false,true,true,false,true,true,true,true,false,false] rfl rfl (take_ofW HT_.out HW_.out (by kernel_rfl)) (fun _ _ _ h => h) (Or.inl ⟨by rfl,?_⟩) hHeld ?_ ?_
               rotate_left
               ·rintro w' ⟨s0,s1,s2,s3,s4,s5,s6,s7⟩
                go_simp
                with_reducible rfl
               rotate_left
               ·simp only [Act.put,List.setIfInBounds_toArray,List.set_cons_zero,List.set_cons_succ,i64_w,i32_w]
                rfl
               refine one_ (i:=11) (N:=some 53) #[true,true,true,true,true,true,true,true,true,true,true,true,false,false,true,true,false,true,true,true,true,false,false] rfl rfl (one_of HT_.out (by kernel_rfl)) (by decide) (fun K hK => ?_)
               refine goes_ Try.func38 (by kernel_rfl) rfl #[.agg #[.slice A0_0 l0_0.length c0_0,.slice (some ad181) l0_1.length c0_1],.int .i64 t183] (by rfl) rfl rfl (by (try simp only [List.map_toArray,List.map_cons,List.map_nil]);first | done | rfl | (simp only [List.length_drop,List.length_take];rfl)) ?_
               with_reducible refine (beaconref08_place.calls k2 _ _ l0_0 _ _ l0_1 t183 t184 _ ?side1 ?side2 ?side3 ?side4 A28.out).mono ?_
               (case side1 => repeat (first | exact (Kd.C_below HR0_0.out HB.out) | (with_reducible refine Kd.C_alloc ?_ _) | (with_reducible refine Kd.C_drewN ?_ _) | (with_reducible refine Kd.C_drew ?_)))
               (case side2 => exact HC0_0.out)
               (case side3 => repeat (first | exact (Kd.C_below HR0_1.out HB.out) | (with_reducible refine Kd.C_alloc ?_ _) | (with_reducible refine Kd.C_drewN ?_ _) | (with_reducible refine Kd.C_drew ?_)))
               (case side4 => exact HC0_1.out)
               rintro e w35 ⟨rfl,hb⟩
               refine ⟨_,rfl,?_⟩
               have n0_:=Aside0.mk (blk_below (g:=gb177) (o:=.cells #[.slice A0_0 l0_0.length c0_0,.slice (some ad181) l0_1.length c0_1] 25 (0,0)) (by (with_reducible repeat (first | refine blk_drewN ?_ _ | refine blk_drew ?_ | refine blk_alloc ?_ _));first | exact BK177.out | ((try rw [← Nbq26.out]);exact BK177.out) | (have hb_:=BK177.out;(try rw [← Nbq26.out] at hb_);exact hb_)) hb)
               have n1_:=Aside0.mk (blk_below (g:=gb182) (o:=.cells #[.int .i64 ((rd_T74 l0_1 x11_2).f0),.int .i64 ((rd_T74 l0_1 x11_2).f1),.float .f64 ((rd_T74 l0_1 x11_2).f2),.bool true] 74 (0,0)) (by (with_reducible repeat (first | refine blk_drewN ?_ _ | refine blk_drew ?_ | refine blk_alloc ?_ _));first | exact BK182.out | ((try rw [← Nbq26.out]);exact BK182.out) | (have hb_:=BK182.out;(try rw [← Nbq26.out] at hb_);exact hb_)) hb)
               have n2_:=Aside0.mk (below_step (by repeat (first | (with_reducible first | exact HB.out | apply below_alloc | apply pw_below_drewN | apply below_drew1 | refine below_set ?_ GE177.out | refine below_set ?_ GE182.out) | exact HB.out)) hb)
               clear BK177
               clear BK182
               clear HB
               have BK177:=n0_
               have BK182:=n1_
               have HB:=n2_
               clear n0_ n1_ n2_
               (try clear hb)
               (try clear hb2)
               (try clear hk)
               (try clear hi)
               refine hK.out _ _ ⟨(blk_cell BK182.out 0).trans (by first | rfl | ((try rw [← Nbq26.out]);rfl)),(blk_cell BK182.out 1).trans (by first | rfl | ((try rw [← Nbq26.out]);rfl)),(blk_cell BK182.out 2).trans (by first | rfl | ((try rw [← Nbq26.out]);rfl)),(blk_cell BK182.out 3).trans (by first | rfl | ((try rw [← Nbq26.out]);rfl)),(blk_cell BK177.out 0).trans (by first | rfl | ((try rw [← Nbq26.out]);rfl)),(blk_cell BK177.out 1).trans (by first | rfl | ((try rw [← Nbq26.out]);rfl)),((HB.out.cell (World.block_lt_of_cell? w _ hw187_0)).trans hw187_0),((HB.out.cell (World.block_lt_of_cell? w _ hw185_0)).trans hw185_0)⟩ (fun hHeld => ?_)
               clear hK K
               refine norm_ (a':=?_) ?_ ?_
               rotate_left
               ·show Act.put _ (some 53) _ = _
                simp only [Act.put,List.setIfInBounds_toArray,List.set_cons_zero,List.set_cons_succ,i64_w,i32_w]
                rfl
               refine pure_ (i:=12) (N:=some 54) (v:=?_) (a':=?_) #[true,true,true,true,true,true,true,true,true,true,true,true,true,false,true,true,false,true,true,true,true,false,false] rfl rfl (any_of HT_.out (by kernel_rfl)) (fun _ _ _ h => h) (Or.inl ⟨by rfl,?_⟩) ?_ ?_
               rotate_left
               ·intro w'
                go_simp
                with_reducible rfl
               rotate_left
               ·simp only [Act.put,List.setIfInBounds_toArray,List.set_cons_zero,List.set_cons_succ,i64_w,i32_w]
                rfl
               refine take_ (i:=13) (N:=some 55) (v:=?_) (a':=?_) #[true,true,true,true,true,true,true,true,true,true,true,true,true,true,true,true,false,true,true,true,true,false,false] rfl rfl (take_ofW HT_.out HW_.out (by kernel_rfl)) (fun _ _ _ h => h) (Or.inl ⟨by rfl,?_⟩) hHeld ?_ ?_
               rotate_left
               ·rintro w' ⟨s0,s1,s2,s3,s4,s5,s6,s7⟩
                go_simp
                with_reducible rfl
               rotate_left
               ·simp only [Act.put,List.setIfInBounds_toArray,List.set_cons_zero,List.set_cons_succ,i64_w,i32_w]
                rfl
               refine pure_ (i:=16) (N:=some 58) (v:=?_) (a':=?_) #[true,true,true,true,true,true,true,true,true,true,true,true,true,true,true,true,true,true,true,true,true,false,false] rfl rfl (any_of HT_.out (by kernel_rfl)) (fun _ _ _ h => h) (Or.inl ⟨by rfl,?_⟩) ?_ ?_
               rotate_left
               ·intro w'
                go_simp
                with_reducible rfl
               rotate_left
               ·simp only [Act.put,List.setIfInBounds_toArray,List.set_cons_zero,List.set_cons_succ,i64_w,i32_w]
                rfl
               refine pure_ (i:=21) (N:=some 63) (v:=?_) (a':=?_) #[true,true,true,true,true,true,true,true,true,true,true,true,true,true,true,true,true,true,true,true,true,true,false] rfl rfl (any_of HT_.out (by kernel_rfl)) (fun _ _ _ h => h) (Or.inl ⟨by rfl,?_⟩) ?_ ?_
               rotate_left
               ·intro w'
                go_simp
                with_reducible rfl
               rotate_left
               ·simp only [Act.put,List.setIfInBounds_toArray,List.set_cons_zero,List.set_cons_succ,i64_w,i32_w]
                rfl
               refine pure_ (i:=22) (N:=some 64) (v:=?_) (a':=?_) #[true,true,true,true,true,true,true,true,true,true,true,true,true,true,true,true,true,true,true,true,true,true,true] rfl rfl (any_of HT_.out (by kernel_rfl)) (fun _ _ _ h => h) (Or.inl ⟨by rfl,?_⟩) ?_ ?_
               rotate_left
               ·intro w'
                go_simp
                with_reducible rfl
               rotate_left
               ·simp only [Act.put,List.setIfInBounds_toArray,List.set_cons_zero,List.set_cons_succ,i64_w,i32_w]
                rfl
               refine done_ (done_of HT_.out (by kernel_rfl)) ?_
               try go_wp2
               go_meet
               case rel => (try rw [← Nbq26.out]);exact ⟨_,((FloatKind.f64.format.order t186 (rdOf (0:Nat) l3 t178) != some .eq)),(by first | rfl | (simp;done) | (simp [*];done)),H',⟨by have:=HJ5.out;have:=HK2.out;first | omega | exact Nat.le_refl _⟩,⟨by (with_reducible repeat (first | refine blk_drewN ?_ _ | refine blk_drew ?_ | refine blk_alloc ?_ _));first | exact BK177.out | ((try rw [← Nbq26.out]);exact BK177.out) | (have hb_:=BK177.out;(try rw [← Nbq26.out] at hb_);exact hb_)⟩,⟨by (with_reducible repeat (first | refine blk_drewN ?_ _ | refine blk_drew ?_ | refine blk_alloc ?_ _));first | exact BK182.out | ((try rw [← Nbq26.out]);exact BK182.out) | (have hb_:=BK182.out;(try rw [← Nbq26.out] at hb_);exact hb_)⟩,⟨by repeat (first | (with_reducible first | exact HB.out | apply below_alloc | apply pw_below_drewN | apply below_drew1 | refine below_set ?_ GE177.out | refine below_set ?_ GE182.out) | exact HB.out)⟩⟩
              ·rw [if_neg c33] at H
               exact absurd H (by simp)
             ·rw [if_neg c32] at H
              exact absurd H (by simp)
            ·rw [if_neg c30] at H
             exact absurd H (by simp)
           ·rw [if_neg c29] at H
            exact absurd H (by simp)
          ·replace c27:=Bool.eq_false_iff.mpr c27
           subst c27
           have H1:(beaconref08_next.j2 k2 a1 l3 t178 x10_2 x11_2 t183 true l0_0 l0_1) = some r:=by rw [if_neg (show ¬ (false = true) by decide)] at H;exact H
           clear H
           have H:=H1
           clear H1
           have H':=Aside0.mk H
           clear H
           try go_wp2
           have n0_:=Aside0.mk (blk_drew BK177.out)
           have n1_:=Aside0.mk (blk_drew BK182.out)
           have n2_:=Aside0.mk (below_drew1 HB.out)
           clear BK177
           clear BK182
           clear HB
           have BK177:=n0_
           have BK182:=n1_
           have HB:=n2_
           clear n0_ n1_ n2_
           refine start_ (n:=23) (S:=fun w' => w'.cell? ⟨gb182,0,none⟩ = some (.int .i64 ((rd_T74 l0_1 x11_2).f0)) ∧ w'.cell? ⟨gb182,1,none⟩ = some (.int .i64 ((rd_T74 l0_1 x11_2).f1)) ∧ w'.cell? ⟨gb182,2,none⟩ = some (.float .f64 ((rd_T74 l0_1 x11_2).f2)) ∧ w'.cell? ⟨gb182,3,none⟩ = some (.bool false)) (ds:=[]) #[false,false,false,false,false,false,false,false,false,false,false,false,false,false,false,false,false,false,false,false,false,false,false] (by kernel_rfl) rfl rfl ⟨(blk_cell BK182.out 0).trans (by first | rfl | ((try rw [← Nbq26.out]);rfl)),(blk_cell BK182.out 1).trans (by first | rfl | ((try rw [← Nbq26.out]);rfl)),(blk_cell BK182.out 2).trans (by first | rfl | ((try rw [← Nbq26.out]);rfl)),(blk_cell BK182.out 3).trans (by first | rfl | ((try rw [← Nbq26.out]);rfl))⟩ (fun hHeld => ?_);refine with_tabW beaconref08_next.tab10 beaconref08_next.bits10 (fun HT_ HW_ => ?_)
           generalize w23.drew = w36 at BK177 BK182 HB hHeld ⊢
           refine pure_ (i:=0) (N:=some 42) (v:=?_) (a':=?_) #[true,false,false,false,false,false,false,false,false,false,false,false,false,false,false,false,false,false,false,false,false,false,false] rfl rfl (any_of HT_.out (by kernel_rfl)) (fun _ _ _ h => h) (Or.inl ⟨by rfl,?_⟩) ?_ ?_
           rotate_left
           ·intro w'
            go_simp
            with_reducible rfl
           rotate_left
           ·simp only [Act.put,List.setIfInBounds_toArray,List.set_cons_zero,List.set_cons_succ,i64_w,i32_w]
            rfl
           refine pure_ (i:=1) (N:=some 43) (v:=?_) (a':=?_) #[true,true,false,false,false,false,false,false,false,false,false,false,false,false,false,false,false,false,false,false,false,false,false] rfl rfl (any_of HT_.out (by kernel_rfl)) (fun _ _ _ h => h) (Or.inl ⟨by rfl,?_⟩) ?_ ?_
           rotate_left
           ·intro w'
            go_simp
            with_reducible rfl
           rotate_left
           ·simp only [Act.put,List.setIfInBounds_toArray,List.set_cons_zero,List.set_cons_succ,i64_w,i32_w]
            rfl
           refine pure_ (i:=2) (N:=some 44) (v:=?_) (a':=?_) #[true,true,true,false,false,false,false,false,false,false,false,false,false,false,false,false,false,false,false,false,false,false,false] rfl rfl (any_of HT_.out (by kernel_rfl)) (fun _ _ _ h => h) (Or.inl ⟨by rfl,?_⟩) ?_ ?_
           rotate_left
           ·intro w'
            go_simp
            with_reducible rfl
           rotate_left
           ·simp only [Act.put,List.setIfInBounds_toArray,List.set_cons_zero,List.set_cons_succ,i64_w,i32_w]
            rfl
           refine pure_ (i:=3) (N:=some 45) (v:=?_) (a':=?_) #[true,true,true,true,false,false,false,false,false,false,false,false,false,false,false,false,false,false,false,false,false,false,false] rfl rfl (any_of HT_.out (by kernel_rfl)) (fun _ _ _ h => h) (Or.inl ⟨by rfl,?_⟩) ?_ ?_
           rotate_left
           ·intro w'
            go_simp
            with_reducible rfl
           rotate_left
           ·simp only [Act.put,List.setIfInBounds_toArray,List.set_cons_zero,List.set_cons_succ,i64_w,i32_w]
            rfl
           refine take_ (i:=4) (N:=some 46) (v:=?_) (a':=?_) #[true,true,true,true,true,false,false,false,false,false,false,false,false,false,false,false,false,false,false,false,false,false,false] rfl rfl (take_ofW HT_.out HW_.out (by kernel_rfl)) (fun _ _ _ h => h) (Or.inl ⟨by rfl,?_⟩) hHeld ?_ ?_
           rotate_left
           ·rintro w' ⟨s0,s1,s2,s3⟩
            go_simp
            with_reducible rfl
           rotate_left
           ·simp only [Act.put,List.setIfInBounds_toArray,List.set_cons_zero,List.set_cons_succ,i64_w,i32_w]
            rfl
           refine pure_ (i:=5) (N:=some 47) (v:=?_) (a':=?_) #[true,true,true,true,true,true,false,false,false,false,false,false,false,false,false,false,false,false,false,false,false,false,false] rfl rfl (any_of HT_.out (by kernel_rfl)) (fun _ _ _ h => h) (Or.inl ⟨by rfl,?_⟩) ?_ ?_
           rotate_left
           ·intro w'
            go_simp
            with_reducible rfl
           rotate_left
           ·simp only [Act.put,List.setIfInBounds_toArray,List.set_cons_zero,List.set_cons_succ,i64_w,i32_w]
            rfl
           refine pure_ (i:=6) (N:=some 48) (v:=?_) (a':=?_) #[true,true,true,true,true,true,true,false,false,false,false,false,false,false,false,false,false,false,false,false,false,false,false] rfl rfl (any_of HT_.out (by kernel_rfl)) (fun _ _ _ h => h) (Or.inl ⟨by rfl,?_⟩) ?_ ?_
           rotate_left
           ·intro w'
            go_simp
            with_reducible rfl
           rotate_left
           ·simp only [Act.put,List.setIfInBounds_toArray,List.set_cons_zero,List.set_cons_succ,i64_w,i32_w]
            rfl
           refine pure_ (i:=7) (N:=some 49) (v:=?_) (a':=?_) #[true,true,true,true,true,true,true,true,false,false,false,false,false,false,false,false,false,false,false,false,false,false,false] rfl rfl (any_of HT_.out (by kernel_rfl)) (fun _ _ _ h => h) (Or.inl ⟨by rfl,?_⟩) ?_ ?_
           rotate_left
           ·intro w'
            go_simp
            with_reducible rfl
           rotate_left
           ·simp only [Act.put,List.setIfInBounds_toArray,List.set_cons_zero,List.set_cons_succ,i64_w,i32_w]
            rfl
           refine pure_ (i:=8) (N:=some 50) (v:=undef) (a':=?_) #[true,true,true,true,true,true,true,true,true,false,false,false,false,false,false,false,false,false,false,false,false,false,false] rfl rfl (any_of HT_.out (by kernel_rfl)) (fun _ _ _ h => h) (Or.inr ⟨by rfl,rfl⟩) ?_ ?_
           rotate_left
           ·simp only [Act.put,List.setIfInBounds_toArray,List.set_cons_zero,List.set_cons_succ,i64_w,i32_w]
            rfl
           refine pure_ (i:=9) (N:=some 51) (v:=undef) (a':=?_) #[true,true,true,true,true,true,true,true,true,true,false,false,false,false,false,false,false,false,false,false,false,false,false] rfl rfl (any_of HT_.out (by kernel_rfl)) (fun _ _ _ h => h) (Or.inr ⟨by rfl,rfl⟩) ?_ ?_
           rotate_left
           ·simp only [Act.put,List.setIfInBounds_toArray,List.set_cons_zero,List.set_cons_succ,i64_w,i32_w]
            rfl
           refine pure_ (i:=10) (N:=some 52) (v:=undef) (a':=?_) #[true,true,true,true,true,true,true,true,true,true,true,false,false,false,false,false,false,false,false,false,false,false,false] rfl rfl (any_of HT_.out (by kernel_rfl)) (fun _ _ _ h => h) (Or.inr ⟨by rfl,rfl⟩) ?_ ?_
           rotate_left
           ·simp only [Act.put,List.setIfInBounds_toArray,List.set_cons_zero,List.set_cons_succ,i64_w,i32_w]
            rfl
           refine pure_ (i:=11) (N:=some 53) (v:=undef) (a':=?_) #[true,true,true,true,true,true,true,true,true,true,true,true,false,false,false,false,false,false,false,false,false,false,false] rfl rfl (any_of HT_.out (by kernel_rfl)) (fun _ _ _ h => h) (Or.inr ⟨by rfl,rfl⟩) ?_ ?_
           rotate_left
           ·simp only [Act.put,List.setIfInBounds_toArray,List.set_cons_zero,List.set_cons_succ,i64_w,i32_w]
            rfl
           refine pure_ (i:=12) (N:=some 54) (v:=undef) (a':=?_) #[true,true,true,true,true,true,true,true,true,true,true,true,true,false,false,false,false,false,false,false,false,false,false] rfl rfl (any_of HT_.out (by kernel_rfl)) (fun _ _ _ h => h) (Or.inr ⟨by rfl,rfl⟩) ?_ ?_
           rotate_left
           ·simp only [Act.put,List.setIfInBounds_toArray,List.set_cons_zero,List.set_cons_succ,i64_w,i32_w]
            rfl
           refine pure_ (i:=13) (N:=some 55) (v:=undef) (a':=?_) #[true,true,true,true,true,true,true,true,true,true,true,true,true,true,false,false,false,false,false,false,false,false,false] rfl rfl (any_of HT_.out (by kernel_rfl)) (fun _ _ _ h => h) (Or.inr ⟨by rfl,rfl⟩) ?_ ?_
           rotate_left
           ·simp only [Act.put,List.setIfInBounds_toArray,List.set_cons_zero,List.set_cons_succ,i64_w,i32_w]
            rfl
           refine pure_ (i:=14) (N:=some 56) (v:=undef) (a':=?_) #[true,true,true,true,true,true,true,true,true,true,true,true,true,true,true,false,false,false,false,false,false,false,false] rfl rfl (any_of HT_.out (by kernel_rfl)) (fun _ _ _ h => h) (Or.inr ⟨by rfl,rfl⟩) ?_ ?_
           rotate_left
           ·simp only [Act.put,List.setIfInBounds_toArray,List.set_cons_zero,List.set_cons_succ,i64_w,i32_w]
            rfl
           refine pure_ (i:=15) (N:=some 57) (v:=undef) (a':=?_) #[true,true,true,true,true,true,true,true,true,true,true,true,true,true,true,true,false,false,false,false,false,false,false] rfl rfl (any_of HT_.out (by kernel_rfl)) (fun _ _ _ h => h) (Or.inr ⟨by rfl,rfl⟩) ?_ ?_
           rotate_left
           ·simp only [Act.put,List.setIfInBounds_toArray,List.set_cons_zero,List.set_cons_succ,i64_w,i32_w]
            rfl
           refine pure_ (i:=16) (N:=some 58) (v:=undef) (a':=?_) #[true,true,true,true,true,true,true,true,true,true,true,true,true,true,true,true,true,false,false,false,false,false,false] rfl rfl (any_of HT_.out (by kernel_rfl)) (fun _ _ _ h => h) (Or.inr ⟨by rfl,rfl⟩) ?_ ?_
           rotate_left
           ·simp only [Act.put,List.setIfInBounds_toArray,List.set_cons_zero,List.set_cons_succ,i64_w,i32_w]
            rfl
           refine pure_ (i:=17) (N:=some 59) (v:=undef) (a':=?_) #[true,true,true,true,true,true,true,true,true,true,true,true,true,true,true,true,true,true,false,false,false,false,false] rfl rfl (any_of HT_.out (by kernel_rfl)) (fun _ _ _ h => h) (Or.inr ⟨by rfl,rfl⟩) ?_ ?_
           rotate_left
           ·simp only [Act.put,List.setIfInBounds_toArray,List.set_cons_zero,List.set_cons_succ,i64_w,i32_w]
            rfl
           refine pure_ (i:=18) (N:=some 60) (v:=undef) (a':=?_) #[true,true,true,true,true,true,true,true,true,true,true,true,true,true,true,true,true,true,true,false,false,false,false] rfl rfl (any_of HT_.out (by kernel_rfl)) (fun _ _ _ h => h) (Or.inr ⟨by rfl,rfl⟩) ?_ ?_
           rotate_left
           ·simp only [Act.put,List.setIfInBounds_toArray,List.set_cons_zero,List.set_cons_succ,i64_w,i32_w]
            rfl
           refine pure_ (i:=19) (N:=some 61) (v:=undef) (a':=?_) #[true,true,true,true,true,true,true,true,true,true,true,true,true,true,true,true,true,true,true,true,false,false,false] rfl rfl (any_of HT_.out (by kernel_rfl)) (fun _ _ _ h => h) (Or.inr ⟨by rfl,rfl⟩) ?_ ?_
           rotate_left
           ·simp only [Act.put,List.setIfInBounds_toArray,List.set_cons_zero,List.set_cons_succ,i64_w,i32_w]
            rfl
           refine pure_ (i:=20) (N:=some 62) (v:=undef) (a':=?_) #[true,true,true,true,true,true,true,true,true,true,true,true,true,true,true,true,true,true,true,true,true,false,false] rfl rfl (any_of HT_.out (by kernel_rfl)) (fun _ _ _ h => h) (Or.inr ⟨by rfl,rfl⟩) ?_ ?_
           rotate_left
           ·simp only [Act.put,List.setIfInBounds_toArray,List.set_cons_zero,List.set_cons_succ,i64_w,i32_w]
            rfl
           refine pure_ (i:=21) (N:=some 63) (v:=undef) (a':=?_) #[true,true,true,true,true,true,true,true,true,true,true,true,true,true,true,true,true,true,true,true,true,true,false] rfl rfl (any_of HT_.out (by kernel_rfl)) (fun _ _ _ h => h) (Or.inr ⟨by rfl,rfl⟩) ?_ ?_
           rotate_left
           ·simp only [Act.put,List.setIfInBounds_toArray,List.set_cons_zero,List.set_cons_succ,i64_w,i32_w]
            rfl
           refine pure_ (i:=22) (N:=some 64) (v:=?_) (a':=?_) #[true,true,true,true,true,true,true,true,true,true,true,true,true,true,true,true,true,true,true,true,true,true,true] rfl rfl (any_of HT_.out (by kernel_rfl)) (fun _ _ _ h => h) (Or.inl ⟨by rfl,?_⟩) ?_ ?_
           rotate_left
           ·intro w'
            go_simp
            with_reducible rfl
           rotate_left
           ·simp only [Act.put,List.setIfInBounds_toArray,List.set_cons_zero,List.set_cons_succ,i64_w,i32_w]
            rfl
           refine done_ (done_of HT_.out (by kernel_rfl)) ?_
           try go_wp2
           go_meet
           case rel => (try rw [← Nbq26.out]);exact ⟨_,(true),(by first | rfl | (simp;done) | (simp [*];done)),H',⟨by have:=HJ5.out;have:=HK2.out;first | omega | exact Nat.le_refl _⟩,⟨by (with_reducible repeat (first | refine blk_drewN ?_ _ | refine blk_drew ?_ | refine blk_alloc ?_ _));first | exact BK177.out | ((try rw [← Nbq26.out]);exact BK177.out) | (have hb_:=BK177.out;(try rw [← Nbq26.out] at hb_);exact hb_)⟩,⟨by (with_reducible repeat (first | refine blk_drewN ?_ _ | refine blk_drew ?_ | refine blk_alloc ?_ _));first | exact BK182.out | ((try rw [← Nbq26.out]);exact BK182.out) | (have hb_:=BK182.out;(try rw [← Nbq26.out] at hb_);exact hb_)⟩,⟨by repeat (first | (with_reducible first | exact HB.out | apply below_alloc | apply pw_below_drewN | apply below_drew1 | refine below_set ?_ GE177.out | refine below_set ?_ GE182.out) | exact HB.out)⟩⟩
        case rest =>
         clear HC18
         try clear p1
         try clear q1
         try clear hx1
         try clear c2
         try clear p2
         try clear q2
         try clear c3
         try clear c5
         try clear p18
         try clear q18
         try clear hx18
         try clear c21
         try clear c24
         try clear c24b0
         try clear c24b1
         try clear q26
         try clear c27
         try clear c29
         try clear c29b0
         try clear c30
         try clear c30b0
         try clear c32
         try clear c32b0
         try clear c33
         try clear c33b0
         try clear hcz22_0
         try clear hcz22_1
         try clear hcz22_2
         try clear hcz22_3
         try clear hfz22_0
         try clear hfz22_1
         try clear hfz22_2
         try clear hfz22_3
         try clear hx181_0
         try clear hx181_1
         try clear hx181_2
         try clear hx181_3
         try clear hx185_0
         try clear hx187_0
         try clear p181
         try clear p185
         try clear p187
         try clear q181
         try clear q185
         try clear q187
         obtain ⟨kq,x64_17,rfl,HA,HJ17,BK177,BK182,HB⟩:=hcut
         cases kq with
         | zero => exact absurd HA.out (by simp [beaconref08_next.j2])
         | succ kj17 =>
          have H:=HA.out
          clear HA
          simp only [beaconref08_next.j2] at H
          by_cases c37:x64_17 = true
          ·subst c37
           have H1:(beaconref08_next.l0 kj17 a1 l3 t178 x10_2 (wrap64 (x11_2 + 1)) l0_0 l0_1) = some r:=by rw [if_pos rfl] at H;exact H
           clear H
           have H:=H1
           clear H1
           have H':=Aside0.mk H
           clear H
           go_wp2
           go_roundg kj17
           case measure => have:=HJ5.out;have:=HK2.out;have:=HJ17.out;omega
           case rel => exact ⟨(x10_2),(wrap64 (x11_2 + 1)),(by first | rfl | (simp;done) | (simp [*];done)),(by first | rfl | (simp;done) | (simp [*];done)),H',⟨by have:=HJ5.out;have:=HK2.out;have:=HJ17.out;omega⟩,⟨by (with_reducible repeat (first | refine blk_drewN ?_ _ | refine blk_drew ?_ | refine blk_alloc ?_ _));exact BK177.out⟩,⟨by repeat (first | (with_reducible first | exact HB.out | apply below_alloc | apply pw_below_drewN | apply below_drew1 | refine below_set ?_ GE177.out | refine below_set ?_ GE182.out) | exact HB.out)⟩⟩
          ·replace c37:=Bool.eq_false_iff.mpr c37
           subst c37
           have H1:(if x10_2 = 0 then (beaconref08_next.l0 kj17 a1 l3 t178 t183 (wrap64 (x11_2 + 1)) l0_0 l0_1) else (if t183 < x10_2 then (beaconref08_next.l0 kj17 a1 l3 t178 t183 (wrap64 (x11_2 + 1)) l0_0 l0_1) else (beaconref08_next.l0 kj17 a1 l3 t178 x10_2 (wrap64 (x11_2 + 1)) l0_0 l0_1))) = some r:=by rw [if_neg (show ¬ (false = true) by decide)] at H;exact H
           clear H
           have H:=H1
           clear H1
           by_cases c38:x10_2 = 0
           ·rw [if_pos c38] at H
            have c38b0:(x10_2 == 0) = true:=beq_iff_eq.mpr c38
            have c38b1:(x10_2 != 0) = false:=bne_eq_false_iff_eq.mpr c38
            clear c38
            have H':=Aside0.mk H
            clear H
            go_wp2
            go_roundg kj17
            case measure => have:=HJ5.out;have:=HK2.out;have:=HJ17.out;omega
            case rel => exact ⟨(t183),(wrap64 (x11_2 + 1)),(by first | rfl | (simp;done) | (simp [*];done)),(by first | rfl | (simp;done) | (simp [*];done)),H',⟨by have:=HJ5.out;have:=HK2.out;have:=HJ17.out;omega⟩,⟨by (with_reducible repeat (first | refine blk_drewN ?_ _ | refine blk_drew ?_ | refine blk_alloc ?_ _));exact BK177.out⟩,⟨by repeat (first | (with_reducible first | exact HB.out | apply below_alloc | apply pw_below_drewN | apply below_drew1 | refine below_set ?_ GE177.out | refine below_set ?_ GE182.out) | exact HB.out)⟩⟩
           ·rw [if_neg c38] at H
            have c38b0:(x10_2 == 0) = false:=beq_eq_false_iff_ne.mpr c38
            have c38b1:(x10_2 != 0) = true:=bne_iff_ne.mpr c38
            by_cases c39:t183 < x10_2
            ·rw [if_pos c39] at H
             have c39b0:decide (t183 < x10_2) = true:=decide_eq_true c39
             clear c39
             have H':=Aside0.mk H
             clear H
             go_wp2
             go_roundg kj17
             case measure => have:=HJ5.out;have:=HK2.out;have:=HJ17.out;omega
             case rel => exact ⟨(t183),(wrap64 (x11_2 + 1)),(by first | rfl | (simp;done) | (simp [*];done)),(by first | rfl | (simp;done) | (simp [*];done)),H',⟨by have:=HJ5.out;have:=HK2.out;have:=HJ17.out;omega⟩,⟨by (with_reducible repeat (first | refine blk_drewN ?_ _ | refine blk_drew ?_ | refine blk_alloc ?_ _));exact BK177.out⟩,⟨by repeat (first | (with_reducible first | exact HB.out | apply below_alloc | apply pw_below_drewN | apply below_drew1 | refine below_set ?_ GE177.out | refine below_set ?_ GE182.out) | exact HB.out)⟩⟩
            ·rw [if_neg c39] at H
             have c39b0:decide (t183 < x10_2) = false:=decide_eq_false c39
             clear c39
             have H':=Aside0.mk H
             clear H
             go_wp2
             go_roundg kj17
             case measure => have:=HJ5.out;have:=HK2.out;have:=HJ17.out;omega
             case rel => exact ⟨(x10_2),(wrap64 (x11_2 + 1)),(by first | rfl | (simp;done) | (simp [*];done)),(by first | rfl | (simp;done) | (simp [*];done)),H',⟨by have:=HJ5.out;have:=HK2.out;have:=HJ17.out;omega⟩,⟨by (with_reducible repeat (first | refine blk_drewN ?_ _ | refine blk_drew ?_ | refine blk_alloc ?_ _));exact BK177.out⟩,⟨by repeat (first | (with_reducible first | exact HB.out | apply below_alloc | apply pw_below_drewN | apply below_drew1 | refine below_set ?_ GE177.out | refine below_set ?_ GE182.out) | exact HB.out)⟩⟩
       ·rw [if_neg c16] at H
        exact absurd H (by simp)
      ·rw [if_neg c15] at H
       have c15b0:decide (x11_2 < (l0_1.length:Int)) = false:=decide_eq_false c15
       clear c15
       obtain rfl:=Option.some.inj H
       have hcz40_0:wr.cell? ⟨gb177,0,none⟩ = some (.slice A0_0 l0_0.length c0_0):=(blk_cell BK177.out 0).trans rfl
       have hcz40_1:wr.cell? ⟨gb177,1,none⟩ = some (.slice A0_1 l0_1.length c0_1):=(blk_cell BK177.out 1).trans rfl
       have hfz40_0:=blk_frozen BK177.out 0
       have hfz40_1:=blk_frozen BK177.out 1
       go_wp2
       go_ret
       exact ⟨by first | rfl | (simp [errW_none,errW_some] <;> rfl) | (simp [*,errW_none,errW_some] <;> rfl),by repeat (first | (with_reducible first | exact HB.out | apply below_alloc | apply pw_below_drewN | apply below_drew1 | refine below_set ?_ GE177.out) | exact HB.out)⟩
end Go.Proofs.Ytmdkcecbklgihaa.PA
