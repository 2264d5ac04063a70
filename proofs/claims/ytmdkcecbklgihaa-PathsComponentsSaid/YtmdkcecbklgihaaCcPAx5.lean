/- Printed by a program of this session (wip/tools/patch_print.py and pr.py, over the kit's print): each Go function as a plain Lean function, and that the Go code comes to just its answers. Conditions: those that each theorem names. -/
import Derived.Test.YtmdkcecbklgihaaCcPAx0
import Derived.Test.YtmdkcecbklgihaaCcPAx3
import Derived.Test.YtmdkcecbklgihaaCcPAx4
namespace Go.Proofs.Ytmdkcecbklgihaa.PA
open Go.RowKit Go.Proofs.YtmdkcecbklgihaaW.PrintWords Go.Proofs.YtmdkcecbklgihaaW.PrintLast Go.Proofs.YtmdkcecbklgihaaW.PrintMore
attribute [local go_sem] max2_int min2_int max_two min_two max_three min_three max_four min_four
set_option linter.unusedVariables false
set_option linter.unusedSimpArgs false
def beaconref08_place.l0:Nat → Int → Int → List (S40) → List (S74) → Option (Int)
 | 0,_,_,_,_ => none
 | k + 1,x1,x5,x170000,x170001 => if x5 < (x170000.length:Int) then (if 0 ≤ x5 then (if ((rd_T40 x170000 x5).f0) = x1 then (some x5) else (beaconref08_place.l0 k x1 (wrap64 (x5 + 1)) x170000 x170001)) else (none)) else (some (-1))
def beaconref08_place.f (k:Nat) (l0_0:List (S40)) (l0_1:List (S74)) (a1:Int):Option (Int):=beaconref08_place.l0 k a1 0 l0_0 l0_1
theorem beaconref08_place.mono_l:∀ k,(∀ y0 y1 y2 y3,LeO (beaconref08_place.l0 k y0 y1 y2 y3) (beaconref08_place.l0 (k + 1) y0 y1 y2 y3))
 | 0 => fun _ _ _ _ r h => by simp [beaconref08_place.l0] at h
 | k + 1 => by
  have ih0:=beaconref08_place.mono_l k
  intro y0 y1 y2 y3
  unfold beaconref08_place.l0
  repeat' first
  | (with_reducible exact ih0 _ _ _ _)
  | (with_reducible exact LeO.refl _)
  | (with_reducible exact LeO.none _)
  | (with_reducible refine LeO.ite ?_ ?_)
  | (with_reducible refine LeO.bind ?_ (fun _ => ?_))
  | exact ih0 _ _ _ _
  | exact LeO.none _
  | refine LeO.ite ?_ ?_
  | refine LeO.bind ?_ (fun _ => ?_)
theorem beaconref08_place.mono:∀ a0 a1 a2 k,LeO (beaconref08_place.f k a0 a1 a2) (beaconref08_place.f (k + 1) a0 a1 a2):=by
 intro a0 a1 a2 k
 have ih0:=beaconref08_place.mono_l k
 unfold beaconref08_place.f
 repeat' first
   | (with_reducible exact ih0 _ _ _ _)
   | (with_reducible exact LeO.refl _)
   | (with_reducible exact LeO.none _)
   | (with_reducible refine LeO.ite ?_ ?_)
   | (with_reducible refine LeO.bind ?_ (fun _ => ?_))
   | exact ih0 _ _ _ _
   | exact LeO.none _
   | refine LeO.ite ?_ ?_
   | refine LeO.bind ?_ (fun _ => ?_)
set_option maxHeartbeats 8000000 in
set_option maxRecDepth 100000 in
theorem beaconref08_place.calls (k:Nat) (A0_0:Option Addr) (c0_0:Nat) (l0_0:List (S40)) (A0_1:Option Addr) (c0_1:Nat) (l0_1:List (S74)) (a1:Int) (r:Int) (w:World) (hr0_0:Kd.C k40 w A0_0 l0_0.length l0_0) (hc0_0:l0_0.length ≤ c0_0) (hr0_1:Kd.C k74 w A0_1 l0_1.length l0_1) (hc0_1:l0_1.length ≤ c0_1) (h:beaconref08_place.f k l0_0 l0_1 a1 = some r) :
  Calls Try.prog 38 #[.agg #[.slice A0_0 l0_0.length c0_0,.slice A0_1 l0_1.length c0_1],.int .i64 a1] w fun e w' => e = .returned (.int .i64 r) ∧ Below w.heap.size w w':=by
 have hu25:=Try.underlying25
 have HR0_0:=Aside0.mk hr0_0
 have HC0_0:=Aside0.mk hc0_0
 clear hr0_0 hc0_0
 have HR0_1:=Aside0.mk hr0_1
 have HC0_1:=Aside0.mk hc0_1
 clear hr0_1 hc0_1
 have HB:=Aside0.mk (Below.refl w.heap.size w)
 have H:(beaconref08_place.l0 k a1 0 l0_0 l0_1) = some r:=h
 clear h
 have H':=Aside0.mk H
 clear H
 go_enter Try.func38,Try.ntmps38
 go_wp2_with (first | ((with_reducible refine gate_dst (N:=2) rfl ?_);refine box_event ?hg (N:=2) ?hd (cs:=#[.slice A0_0 l0_0.length c0_0,.slice A0_1 l0_1.length c0_1]) (t:=25) ?hr ?_;(case hd => rfl);(case hg => rfl);(case hr => first | (go_simp;done) | (go_simp;rfl));intro gb169 hg w3 hbox hb;have n0_:=Aside0.mk (below_step (by repeat (first | (with_reducible first | exact HB.out | apply below_alloc | apply pw_below_drewN | apply below_drew1) | exact HB.out)) hb);have n1_:=Aside0.mk (hbox);have n2_:=Aside0.mk ((by rw [hg];exact (below_size (by repeat (first | (with_reducible first | exact HB.out | apply below_alloc | apply pw_below_drewN | apply below_drew1) | exact HB.out))):w.heap.size ≤ gb169));have n3_:=Aside0.mk ((by rw [hg];exact (below_size (by repeat (first | (with_reducible first | exact HB.out | apply below_alloc | apply pw_below_drewN | apply below_drew1) | exact HB.out))):w.heap.size ≤ gb169));clear HB;have HB:=n0_;have BK169:=n1_;have GW169:=n2_;have GE169:=n3_;clear n0_ n1_ n2_ n3_;clear hb hbox hg))
 go_loopg [5] k (fun kq v5 w' => ∃ (x5_1:Int),v5 = .int .i64 x5_1 ∧ Aside0 (beaconref08_place.l0 kq a1 x5_1 l0_0 l0_1 = some r) ∧ Aside0 (kq ≤ k) ∧ Aside0 (w'.heap[gb169]? = some (.cells #[(.slice A0_0 l0_0.length c0_0),(.slice A0_1 l0_1.length c0_1)] 25 (0,0))) ∧ Aside0 (Below w.heap.size w w'))
 case atStart => exact ⟨(0),(by first | rfl | (simp;done) | (simp [*];done)),H',⟨Nat.le_refl _⟩,⟨by (with_reducible repeat (first | refine blk_drewN ?_ _ | refine blk_drew ?_ | refine blk_alloc ?_ _));exact BK169.out⟩,⟨by repeat (first | (with_reducible first | exact HB.out | apply below_alloc | apply pw_below_drewN | apply below_drew1 | refine below_set ?_ GE169.out) | exact HB.out)⟩⟩
 case round =>
  clear H'
  obtain ⟨x5_1,rfl,HA,HK1,BK169,HB⟩:=hrel
  cases gk with
  | zero => exact absurd HA.out (by simp [beaconref08_place.l0])
  | succ k1 =>
   have H:=HA.out
   clear HA
   simp only [beaconref08_place.l0] at H
   by_cases c4:x5_1 < (l0_0.length:Int)
   rotate_left
   ·rw [if_neg c4] at H
    have c4b0:decide (x5_1 < (l0_0.length:Int)) = false:=decide_eq_false c4
    clear c4
    obtain rfl:=Option.some.inj H
    have hcz9_0:wr.cell? ⟨gb169,0,none⟩ = some (.slice A0_0 l0_0.length c0_0):=(blk_cell BK169.out 0).trans rfl
    have hcz9_1:wr.cell? ⟨gb169,1,none⟩ = some (.slice A0_1 l0_1.length c0_1):=(blk_cell BK169.out 1).trans rfl
    have hfz9_0:=blk_frozen BK169.out 0
    have hfz9_1:=blk_frozen BK169.out 1
    go_wp2
    go_ret
    exact ⟨by first | rfl | (simp [errW_none,errW_some] <;> rfl) | (simp [*,errW_none,errW_some] <;> rfl),by repeat (first | (with_reducible first | exact HB.out | apply below_alloc | apply pw_below_drewN | apply below_drew1 | refine below_set ?_ GE169.out) | exact HB.out)⟩
   rw [if_pos c4] at H
   have c4b0:decide (x5_1 < (l0_0.length:Int)) = true:=decide_eq_true c4
   clear c4
   by_cases c5:0 ≤ x5_1
   rotate_left
   ·rw [if_neg c5] at H
    exact absurd H (by simp)
   rw [if_pos c5] at H
   have c5b0:decide (0 ≤ x5_1) = true:=decide_eq_true c5
   clear c5
   by_cases c6:((rd_T40 l0_0 x5_1).f0) = a1
   ·rw [if_pos c6] at H
    have c6b0:(((rd_T40 l0_0 x5_1).f0) == a1) = true:=beq_iff_eq.mpr c6
    have c6b1:(((rd_T40 l0_0 x5_1).f0) != a1) = false:=bne_eq_false_iff_eq.mpr c6
    clear c6
    obtain rfl:=Option.some.inj H
    have hcz7_0:wr.cell? ⟨gb169,0,none⟩ = some (.slice A0_0 l0_0.length c0_0):=(blk_cell BK169.out 0).trans rfl
    have hcz7_1:wr.cell? ⟨gb169,1,none⟩ = some (.slice A0_1 l0_1.length c0_1):=(blk_cell BK169.out 1).trans rfl
    have hfz7_0:=blk_frozen BK169.out 0
    have hfz7_1:=blk_frozen BK169.out 1
    have p170:0 ≤ (x5_1:Int):=of_decide_eq_true (by first | (with_reducible assumption) | assumption)
    have q170:x5_1 < (l0_0.length:Int):=of_decide_eq_true (by first | (with_reducible assumption) | assumption)
    obtain ⟨ad170,e170,hx170_0,hx170_1,hx170_2⟩:=at_T40 HR0_0.out x5_1 p170 q170
    cases e170
    replace hx170_0:=(HB.out.cell (World.block_lt_of_cell? w _ hx170_0)).trans hx170_0
    replace hx170_1:=(HB.out.cell (World.block_lt_of_cell? w _ hx170_1)).trans hx170_1
    replace hx170_2:=(HB.out.cell (World.block_lt_of_cell? w _ hx170_2)).trans hx170_2
    replace p170:=eq_true p170
    replace q170:=eq_true q170
    go_wp2
    go_ret
    exact ⟨by first | rfl | (simp [errW_none,errW_some] <;> rfl) | (simp [*,errW_none,errW_some] <;> rfl),by repeat (first | (with_reducible first | exact HB.out | apply below_alloc | apply pw_below_drewN | apply below_drew1 | refine below_set ?_ GE169.out) | exact HB.out)⟩
   rw [if_neg c6] at H
   have c6b0:(((rd_T40 l0_0 x5_1).f0) == a1) = false:=beq_eq_false_iff_ne.mpr c6
   have c6b1:(((rd_T40 l0_0 x5_1).f0) != a1) = true:=bne_iff_ne.mpr c6
   have H':=Aside0.mk H
   clear H
   have hcz8_0:wr.cell? ⟨gb169,0,none⟩ = some (.slice A0_0 l0_0.length c0_0):=(blk_cell BK169.out 0).trans rfl
   have hcz8_1:wr.cell? ⟨gb169,1,none⟩ = some (.slice A0_1 l0_1.length c0_1):=(blk_cell BK169.out 1).trans rfl
   have hfz8_0:=blk_frozen BK169.out 0
   have hfz8_1:=blk_frozen BK169.out 1
   have p170:0 ≤ (x5_1:Int):=of_decide_eq_true (by first | (with_reducible assumption) | assumption)
   have q170:x5_1 < (l0_0.length:Int):=of_decide_eq_true (by first | (with_reducible assumption) | assumption)
   obtain ⟨ad170,e170,hx170_0,hx170_1,hx170_2⟩:=at_T40 HR0_0.out x5_1 p170 q170
   cases e170
   replace hx170_0:=(HB.out.cell (World.block_lt_of_cell? w _ hx170_0)).trans hx170_0
   replace hx170_1:=(HB.out.cell (World.block_lt_of_cell? w _ hx170_1)).trans hx170_1
   replace hx170_2:=(HB.out.cell (World.block_lt_of_cell? w _ hx170_2)).trans hx170_2
   replace p170:=eq_true p170
   replace q170:=eq_true q170
   go_wp2
   go_roundg k1
   case measure => have:=HK1.out;omega
   case rel => exact ⟨(wrap64 (x5_1 + 1)),(by first | rfl | (simp;done) | (simp [*];done)),H',⟨by have:=HK1.out;omega⟩,⟨by (with_reducible repeat (first | refine blk_drewN ?_ _ | refine blk_drew ?_ | refine blk_alloc ?_ _));exact BK169.out⟩,⟨by repeat (first | (with_reducible first | exact HB.out | apply below_alloc | apply pw_below_drewN | apply below_drew1 | refine below_set ?_ GE169.out) | exact HB.out)⟩⟩
def beaconref01_Limit.f (a0:Nat):Option (Int):=(beaconref01_bounded.f a0 4742290407621132288).bind fun t171 => (some t171)
set_option maxHeartbeats 8000000 in
set_option maxRecDepth 100000 in
theorem beaconref01_Limit.calls (a0:Nat) (r:Int) (w:World) (h:beaconref01_Limit.f a0 = some r) :
  Calls Try.prog 48 #[.float .f64 a0] w fun e w' => e = .returned (.int .i64 r) ∧ Drawn0 w w':=by
 have H:((beaconref01_bounded.f a0 4742290407621132288).bind fun t171 => (some t171)) = some r:=h
 clear h
 replace H:=Option.bind_eq_some_iff.mp H
 obtain ⟨t171,A20,H⟩:=H
 replace H:(some t171) = some r:=H
 have A2:=Aside0.mk A20
 clear A20
 obtain rfl:=Option.some.inj H
 go_enter Try.func48,Try.ntmps48
 go_wp2_with (first | ((with_reducible refine gate_callee (f:=55) rfl ?_);refine goesL_ (some 4) rfl rfl Try.func55 (by kernel_rfl) rfl #[.float .f64 a0,.float .f64 4742290407621132288] rfl (by (try simp only [List.map_toArray,List.map_cons,List.map_nil]);first | done | rfl | (simp only [List.length_drop,List.length_take];rfl)) ?_;(with_reducible refine (beaconref01_bounded.calls a0 4742290407621132288 t171 _ A2.out).mono ?_);rintro e w' ⟨rfl,⟨nd,rfl⟩⟩;refine ⟨_,rfl,?_⟩))
 go_ret
 exact ⟨by first | rfl | (simp;done) | (simp [*];done),by repeat (first | exact Drawn0.refl _ | apply Drawn0.step)⟩
def beaconref08_asked.f (k:Nat) (l0_0:List (S40)) (l0_1:List (S74)) (a1:Nat) (a2:Int):Option (Int):=(beaconref01_Limit.f a1).bind fun t173 => (if t173 = 0 then ((beaconref07_Check.f k l0_0 l0_1).bind fun t174 => (if t174 = 0 then ((beaconref08_place.f k l0_0 l0_1 a2).bind fun t175 => (if t175 < 0 then (some 4) else (some t174))) else (some t174))) else (some t173))
theorem beaconref08_asked.mono:∀ a0 a1 a2 a3 k,LeO (beaconref08_asked.f k a0 a1 a2 a3) (beaconref08_asked.f (k + 1) a0 a1 a2 a3):=by
 intro a0 a1 a2 a3 k
 unfold beaconref08_asked.f
 repeat' first
   | (with_reducible exact beaconref07_Check.mono _ _ _)
   | (with_reducible exact beaconref08_place.mono _ _ _ _)
   | (with_reducible exact LeO.refl _)
   | (with_reducible exact LeO.none _)
   | (with_reducible refine LeO.ite ?_ ?_)
   | (with_reducible refine LeO.bind ?_ (fun _ => ?_))
   | exact beaconref07_Check.mono _ _ _
   | exact beaconref08_place.mono _ _ _ _
   | exact LeO.none _
   | refine LeO.ite ?_ ?_
   | refine LeO.bind ?_ (fun _ => ?_)
def beaconref08_other.f (a0_0:Int) (a0_1:Int) (a0_2:Nat) (a0_3:Bool) (a1:Int):Option (Int):=if a0_0 = a1 then (some a0_1) else (if a0_1 = a1 then (some a0_0) else (some 0))
end Go.Proofs.Ytmdkcecbklgihaa.PA
