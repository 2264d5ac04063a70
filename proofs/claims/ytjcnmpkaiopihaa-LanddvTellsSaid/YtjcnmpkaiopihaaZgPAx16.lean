/- Printed by a program of this session (wip/tools/patch_print.py and pr.py, over the kit's print): each Go function as a plain Lean function, and that the Go code comes to just its answers. Conditions: those that each theorem names. -/
import Derived.Test.YtjcnmpkaiopihaaZgMn
import Derived.Test.YtjcnmpkaiopihaaZgPAx0
namespace Go.Proofs.Ytjcnmpkaiopihaa.PA
open Go.RowKit Go.Proofs.YtjcnmpkaiopihaaW.PrintWords Go.Proofs.YtjcnmpkaiopihaaW.PrintLast Go.Proofs.YtjcnmpkaiopihaaW.PrintMore
attribute [local go_sem] max2_int min2_int max_two min_two max_three min_three max_four min_four
set_option linter.unusedVariables false
set_option linter.unusedSimpArgs false
mutual
def beaconref06_SameNews.l0:Nat → List (S56) → List (S56) → Int → Option (Bool)
 | 0,_,_,_ => none
 | k + 1,x0,x1,x5 => if x5 < (x0.length:Int) then (if 0 ≤ x5 then (if x5 < (x1.length:Int) then (if ((rd_T56 x0 x5).f0) = ((rd_T56 x1 x5).f0) then (if ((rd_T56 x0 x5).f1) = ((rd_T56 x1 x5).f1) then (if ((rd_T56 x0 x5).f4) = ((rd_T56 x1 x5).f4) then (if (((rd_T56 x0 x5).f2):Int) = (((rd_T56 x1 x5).f2):Int) then (beaconref06_SameNews.j1 k x0 x1 x5 ((((rd_T56 x0 x5).f3):Int) != (((rd_T56 x1 x5).f3):Int))) else (beaconref06_SameNews.j1 k x0 x1 x5 true)) else (beaconref06_SameNews.j1 k x0 x1 x5 true)) else (beaconref06_SameNews.j1 k x0 x1 x5 true)) else (beaconref06_SameNews.j1 k x0 x1 x5 true)) else (none)) else (none)) else (some true)
def beaconref06_SameNews.j1:Nat → List (S56) → List (S56) → Int → Bool → Option (Bool)
 | 0,_,_,_,_ => none
 | k + 1,x0,x1,x5,x63 => if x63 = true then (some false) else (beaconref06_SameNews.l0 k x0 x1 (wrap64 (x5 + 1)))
end
def beaconref06_SameNews.f (k:Nat) (l0:List (S56)) (l1:List (S56)):Option (Bool):=if (l0.length:Int) = (l1.length:Int) then (beaconref06_SameNews.l0 k l0 l1 0) else (some false)
def beaconref06_SameNews.T8:Bool × List (List Nat × List Nat):=(true,[([],[]),([0],[0]),([],[]),([2],[2]),([1,3],[1,3]),([4],[4]),([5],[5]),([6,5],[5,6]),([5],[5]),([8,5],[5,8]),([7,9,5],[5,7,9]),([5,10],[5,10]),([11,5],[11]),([12],[12]),([13,12],[12,13]),([12],[12]),([15,12],[12,15]),([14,16,12],[12,14,16]),([12,17],[12,17]),([18,12],[18]),([19],[19]),([20,19],[19,20]),([21,19,19],[19,21]),([19],[19]),([23,19],[19,23]),([24,22,19],[19,24]),([22,25,19],[19,22,25]),([19,26],[19,26]),([27,25],[27]),([28],[28]),([29,28],[28,29]),([30,28,28],[28,30]),([28],[28]),([32,28],[28,32]),([33,31,28],[28,33]),([31,34,28],[28,31,34]),([28,35],[28,35])])
def beaconref06_SameNews.B8:List Nat:=[0,1,0,4,15,31,63,127,63,319,1023,2047,4095,8191,16383,8191,40959,131071,262143,524287,1048575,2097151,4194303,1048575,9437183,33554431,67108863,134217727,268435455,536870911,1073741823,2147483647,536870911,4831838207,17179869183,34359738367,68719476735]
theorem beaconref06_SameNews.tab8:rtab .any (opsOf Try.f22 8) = beaconref06_SameNews.T8:=by kernel_rfl
theorem beaconref06_SameNews.bits8:waitsOk beaconref06_SameNews.T8.2 beaconref06_SameNews.B8 = true:=by kernel_rfl
set_option maxHeartbeats 8000000 in
set_option maxRecDepth 100000 in
theorem beaconref06_SameNews.calls (k:Nat) (A0:Option Addr) (c0:Nat) (l0:List (S56)) (A1:Option Addr) (c1:Nat) (l1:List (S56)) (r:Bool) (w:World) (hr0:Kd.C k56 w A0 l0.length l0) (hc0:l0.length ≤ c0) (hr1:Kd.C k56 w A1 l1.length l1) (hc1:l1.length ≤ c1) (h:beaconref06_SameNews.f k l0 l1 = some r) :
  Calls Try.prog 22 #[.slice A0 l0.length c0,.slice A1 l1.length c1] w fun e w' => e = .returned (.bool r) ∧ Below w.heap.size w w':=by
 have hX39:=run_Float64bits Try.func39 (by kernel_rfl) (by kernel_rfl) (by kernel_rfl) (by kernel_rfl)
 have hu56:=Try.underlying56
 have HR0:=Aside0.mk hr0
 have HC0:=Aside0.mk hc0
 clear hr0 hc0
 have HR1:=Aside0.mk hr1
 have HC1:=Aside0.mk hc1
 clear hr1 hc1
 have HB:=Aside0.mk (Below.refl w.heap.size w)
 have H:(if (l0.length:Int) = (l1.length:Int) then (beaconref06_SameNews.l0 k l0 l1 0) else (some false)) = some r:=h
 clear h
 by_cases c3:(l0.length:Int) = (l1.length:Int)
 rotate_left
 ·rw [if_neg c3] at H
  have c3b0:((l0.length:Int) == (l1.length:Int)) = false:=beq_eq_false_iff_ne.mpr c3
  have c3b1:((l0.length:Int) != (l1.length:Int)) = true:=bne_iff_ne.mpr c3
  have c3b2:(l0.length == l1.length) = false:=by first | simpa using c3 | (simp at c3 ⊢;omega)
  obtain rfl:=Option.some.inj H
  go_enter Try.func22,Try.ntmps22
  go_wp2
  go_ret
  exact ⟨by first | rfl | (simp [errW_none,errW_some] <;> rfl) | (simp [*,errW_none,errW_some] <;> rfl),by repeat (first | (with_reducible first | exact HB.out | apply below_alloc | apply pw_below_drewN | apply below_drew1) | exact HB.out)⟩
 rw [if_pos c3] at H
 have c3b0:((l0.length:Int) == (l1.length:Int)) = true:=beq_iff_eq.mpr c3
 have c3b1:((l0.length:Int) != (l1.length:Int)) = false:=bne_eq_false_iff_eq.mpr c3
 have c3b2:(l0.length == l1.length) = true:=by first | simpa using c3 | (simp at c3 ⊢;omega)
 clear c3
 have H':=Aside0.mk H
 clear H
 go_enter Try.func22,Try.ntmps22
 go_wp2
 go_loopg [5] k (fun kq v5 w' => ∃ (x5_1:Int),v5 = .int .i64 x5_1 ∧ Aside0 (beaconref06_SameNews.l0 kq l0 l1 x5_1 = some r) ∧ Aside0 (kq ≤ k) ∧ Aside0 (Below w.heap.size w w'))
 case atStart => exact ⟨(0),(by first | rfl | (simp;done) | (simp [*];done)),H',⟨Nat.le_refl _⟩,⟨by repeat (first | (with_reducible first | exact HB.out | apply below_alloc | apply pw_below_drewN | apply below_drew1) | exact HB.out)⟩⟩
 case round =>
  clear H'
  obtain ⟨x5_1,rfl,HA,HK1,HB⟩:=hrel
  cases gk with
  | zero => exact absurd HA.out (by simp [beaconref06_SameNews.l0])
  | succ k1 =>
   have H:=HA.out
   clear HA
   simp only [beaconref06_SameNews.l0] at H
   by_cases c4:x5_1 < (l0.length:Int)
   rotate_left
   ·rw [if_neg c4] at H
    have c4b0:decide (x5_1 < (l0.length:Int)) = false:=decide_eq_false c4
    clear c4
    obtain rfl:=Option.some.inj H
    go_wp2
    go_ret
    exact ⟨by first | rfl | (simp [errW_none,errW_some] <;> rfl) | (simp [*,errW_none,errW_some] <;> rfl),by repeat (first | (with_reducible first | exact HB.out | apply below_alloc | apply pw_below_drewN | apply below_drew1) | exact HB.out)⟩
   rw [if_pos c4] at H
   have c4b0:decide (x5_1 < (l0.length:Int)) = true:=decide_eq_true c4
   clear c4
   by_cases c5:0 ≤ x5_1
   rotate_left
   ·rw [if_neg c5] at H
    exact absurd H (by simp)
   rw [if_pos c5] at H
   have c5b0:decide (0 ≤ x5_1) = true:=decide_eq_true c5
   clear c5
   by_cases c6:x5_1 < (l1.length:Int)
   rotate_left
   ·rw [if_neg c6] at H
    exact absurd H (by simp)
   rw [if_pos c6] at H
   have c6b0:decide (x5_1 < (l1.length:Int)) = true:=decide_eq_true c6
   clear c6
   have HC7:=Aside0.mk H
   clear H
   have p307:0 ≤ (x5_1:Int):=of_decide_eq_true (by first | (with_reducible assumption) | assumption)
   have q307:x5_1 < (l0.length:Int):=of_decide_eq_true (by first | (with_reducible assumption) | assumption)
   obtain ⟨ad307,e307,hx307_0,hx307_1,hx307_2,hx307_3,hx307_4⟩:=at_T56 HR0.out x5_1 p307 q307
   cases e307
   replace hx307_0:=(HB.out.cell (World.block_lt_of_cell? w _ hx307_0)).trans hx307_0
   replace hx307_1:=(HB.out.cell (World.block_lt_of_cell? w _ hx307_1)).trans hx307_1
   replace hx307_2:=(HB.out.cell (World.block_lt_of_cell? w _ hx307_2)).trans hx307_2
   replace hx307_3:=(HB.out.cell (World.block_lt_of_cell? w _ hx307_3)).trans hx307_3
   replace hx307_4:=(HB.out.cell (World.block_lt_of_cell? w _ hx307_4)).trans hx307_4
   replace p307:=eq_true p307
   replace q307:=eq_true q307
   go_upto_region 8 with (first | ((with_reducible refine gate_dst (N:=6) rfl ?_);refine box_event ?hg (N:=6) ?hd (cs:=#[.int .i64 0,.int .i64 0,.float .f64 0,.float .f64 0,.int .i64 0]) (t:=56) ?hr ?_;(case hd => rfl);(case hg => rfl);(case hr => first | (go_simp;done) | (go_simp;rfl));intro gb308 hg w8 hbox hb;have n0_:=Aside0.mk (below_step (by repeat (first | (with_reducible first | exact HB.out | apply below_alloc | apply pw_below_drewN | apply below_drew1) | exact HB.out)) hb);have n1_:=Aside0.mk (hbox);have n2_:=Aside0.mk ((by rw [hg];exact (below_size (by repeat (first | (with_reducible first | exact HB.out | apply below_alloc | apply pw_below_drewN | apply below_drew1) | exact HB.out))):w.heap.size ≤ gb308));have n3_:=Aside0.mk ((by rw [hg];exact (below_size (by repeat (first | (with_reducible first | exact HB.out | apply below_alloc | apply pw_below_drewN | apply below_drew1) | exact HB.out))):w.heap.size ≤ gb308));clear HB;have HB:=n0_;have BK308:=n1_;have GW308:=n2_;have GE308:=n3_;clear n0_ n1_ n2_ n3_;clear hb hbox hg;have hcz9_0:w8.cell? ⟨gb308,0,none⟩ = some (.int .i64 0):=(blk_cell BK308.out 0).trans rfl;have hcz9_1:w8.cell? ⟨gb308,1,none⟩ = some (.int .i64 0):=(blk_cell BK308.out 1).trans rfl;have hcz9_2:w8.cell? ⟨gb308,2,none⟩ = some (.float .f64 0):=(blk_cell BK308.out 2).trans rfl;have hcz9_3:w8.cell? ⟨gb308,3,none⟩ = some (.float .f64 0):=(blk_cell BK308.out 3).trans rfl;have hcz9_4:w8.cell? ⟨gb308,4,none⟩ = some (.int .i64 0):=(blk_cell BK308.out 4).trans rfl;have hfz9_0:=blk_frozen BK308.out 0;have hfz9_1:=blk_frozen BK308.out 1;have hfz9_2:=blk_frozen BK308.out 2;have hfz9_3:=blk_frozen BK308.out 3;have hfz9_4:=blk_frozen BK308.out 4;have p309:0 ≤ (x5_1:Int):=of_decide_eq_true (by first | (with_reducible assumption) | assumption);have q309:x5_1 < (l1.length:Int):=of_decide_eq_true (by first | (with_reducible assumption) | assumption);obtain ⟨ad309,e309,hx309_0,hx309_1,hx309_2,hx309_3,hx309_4⟩:=at_T56 HR1.out x5_1 p309 q309;cases e309;have hn309_0:ad309.block ≠ gb308:=Nat.ne_of_lt (Nat.lt_of_lt_of_le (by have:=World.block_lt_of_cell? _ _ hx309_0;first | rwa [add_block] at this | exact this) GW308.out);have hn309_1:ad309.block ≠ gb308:=Nat.ne_of_lt (Nat.lt_of_lt_of_le (by have:=World.block_lt_of_cell? _ _ hx309_0;first | rwa [add_block] at this | exact this) GW308.out);have hn309_2:ad309.block ≠ gb308:=Nat.ne_of_lt (Nat.lt_of_lt_of_le (by have:=World.block_lt_of_cell? _ _ hx309_0;first | rwa [add_block] at this | exact this) GW308.out);have hn309_3:ad309.block ≠ gb308:=Nat.ne_of_lt (Nat.lt_of_lt_of_le (by have:=World.block_lt_of_cell? _ _ hx309_0;first | rwa [add_block] at this | exact this) GW308.out);have hn309_4:ad309.block ≠ gb308:=Nat.ne_of_lt (Nat.lt_of_lt_of_le (by have:=World.block_lt_of_cell? _ _ hx309_0;first | rwa [add_block] at this | exact this) GW308.out);replace hx309_0:=(HB.out.cell (World.block_lt_of_cell? w _ hx309_0)).trans hx309_0;replace hx309_1:=(HB.out.cell (World.block_lt_of_cell? w _ hx309_1)).trans hx309_1;replace hx309_2:=(HB.out.cell (World.block_lt_of_cell? w _ hx309_2)).trans hx309_2;replace hx309_3:=(HB.out.cell (World.block_lt_of_cell? w _ hx309_3)).trans hx309_3;replace hx309_4:=(HB.out.cell (World.block_lt_of_cell? w _ hx309_4)).trans hx309_4;replace hx309_0:=(cell_far (p:=⟨gb308,0,none⟩) (by first | (rw [add_block];exact hn309_0) | (show (Addr.add _ _).block ≠ _;rw [add_block];exact hn309_0) | exact hn309_0) (.int .i64 ((rd_T56 l0 x5_1).f0))).trans hx309_0;replace hx309_1:=(cell_far (p:=⟨gb308,0,none⟩) (by first | (rw [add_block];exact hn309_0) | (show (Addr.add _ _).block ≠ _;rw [add_block];exact hn309_0) | exact hn309_0) (.int .i64 ((rd_T56 l0 x5_1).f0))).trans hx309_1;replace hx309_2:=(cell_far (p:=⟨gb308,0,none⟩) (by first | (rw [add_block];exact hn309_0) | (show (Addr.add _ _).block ≠ _;rw [add_block];exact hn309_0) | exact hn309_0) (.int .i64 ((rd_T56 l0 x5_1).f0))).trans hx309_2;replace hx309_3:=(cell_far (p:=⟨gb308,0,none⟩) (by first | (rw [add_block];exact hn309_0) | (show (Addr.add _ _).block ≠ _;rw [add_block];exact hn309_0) | exact hn309_0) (.int .i64 ((rd_T56 l0 x5_1).f0))).trans hx309_3;replace hx309_4:=(cell_far (p:=⟨gb308,0,none⟩) (by first | (rw [add_block];exact hn309_0) | (show (Addr.add _ _).block ≠ _;rw [add_block];exact hn309_0) | exact hn309_0) (.int .i64 ((rd_T56 l0 x5_1).f0))).trans hx309_4;replace hx309_0:=(cell_far (p:=⟨gb308,1,none⟩) (by first | (rw [add_block];exact hn309_1) | (show (Addr.add _ _).block ≠ _;rw [add_block];exact hn309_1) | exact hn309_1) (.int .i64 ((rd_T56 l0 x5_1).f1))).trans hx309_0;replace hx309_1:=(cell_far (p:=⟨gb308,1,none⟩) (by first | (rw [add_block];exact hn309_1) | (show (Addr.add _ _).block ≠ _;rw [add_block];exact hn309_1) | exact hn309_1) (.int .i64 ((rd_T56 l0 x5_1).f1))).trans hx309_1;replace hx309_2:=(cell_far (p:=⟨gb308,1,none⟩) (by first | (rw [add_block];exact hn309_1) | (show (Addr.add _ _).block ≠ _;rw [add_block];exact hn309_1) | exact hn309_1) (.int .i64 ((rd_T56 l0 x5_1).f1))).trans hx309_2;replace hx309_3:=(cell_far (p:=⟨gb308,1,none⟩) (by first | (rw [add_block];exact hn309_1) | (show (Addr.add _ _).block ≠ _;rw [add_block];exact hn309_1) | exact hn309_1) (.int .i64 ((rd_T56 l0 x5_1).f1))).trans hx309_3;replace hx309_4:=(cell_far (p:=⟨gb308,1,none⟩) (by first | (rw [add_block];exact hn309_1) | (show (Addr.add _ _).block ≠ _;rw [add_block];exact hn309_1) | exact hn309_1) (.int .i64 ((rd_T56 l0 x5_1).f1))).trans hx309_4;replace hx309_0:=(cell_far (p:=⟨gb308,2,none⟩) (by first | (rw [add_block];exact hn309_2) | (show (Addr.add _ _).block ≠ _;rw [add_block];exact hn309_2) | exact hn309_2) (.float .f64 ((rd_T56 l0 x5_1).f2))).trans hx309_0;replace hx309_1:=(cell_far (p:=⟨gb308,2,none⟩) (by first | (rw [add_block];exact hn309_2) | (show (Addr.add _ _).block ≠ _;rw [add_block];exact hn309_2) | exact hn309_2) (.float .f64 ((rd_T56 l0 x5_1).f2))).trans hx309_1;replace hx309_2:=(cell_far (p:=⟨gb308,2,none⟩) (by first | (rw [add_block];exact hn309_2) | (show (Addr.add _ _).block ≠ _;rw [add_block];exact hn309_2) | exact hn309_2) (.float .f64 ((rd_T56 l0 x5_1).f2))).trans hx309_2;replace hx309_3:=(cell_far (p:=⟨gb308,2,none⟩) (by first | (rw [add_block];exact hn309_2) | (show (Addr.add _ _).block ≠ _;rw [add_block];exact hn309_2) | exact hn309_2) (.float .f64 ((rd_T56 l0 x5_1).f2))).trans hx309_3;replace hx309_4:=(cell_far (p:=⟨gb308,2,none⟩) (by first | (rw [add_block];exact hn309_2) | (show (Addr.add _ _).block ≠ _;rw [add_block];exact hn309_2) | exact hn309_2) (.float .f64 ((rd_T56 l0 x5_1).f2))).trans hx309_4;replace hx309_0:=(cell_far (p:=⟨gb308,3,none⟩) (by first | (rw [add_block];exact hn309_3) | (show (Addr.add _ _).block ≠ _;rw [add_block];exact hn309_3) | exact hn309_3) (.float .f64 ((rd_T56 l0 x5_1).f3))).trans hx309_0;replace hx309_1:=(cell_far (p:=⟨gb308,3,none⟩) (by first | (rw [add_block];exact hn309_3) | (show (Addr.add _ _).block ≠ _;rw [add_block];exact hn309_3) | exact hn309_3) (.float .f64 ((rd_T56 l0 x5_1).f3))).trans hx309_1;replace hx309_2:=(cell_far (p:=⟨gb308,3,none⟩) (by first | (rw [add_block];exact hn309_3) | (show (Addr.add _ _).block ≠ _;rw [add_block];exact hn309_3) | exact hn309_3) (.float .f64 ((rd_T56 l0 x5_1).f3))).trans hx309_2;replace hx309_3:=(cell_far (p:=⟨gb308,3,none⟩) (by first | (rw [add_block];exact hn309_3) | (show (Addr.add _ _).block ≠ _;rw [add_block];exact hn309_3) | exact hn309_3) (.float .f64 ((rd_T56 l0 x5_1).f3))).trans hx309_3;replace hx309_4:=(cell_far (p:=⟨gb308,3,none⟩) (by first | (rw [add_block];exact hn309_3) | (show (Addr.add _ _).block ≠ _;rw [add_block];exact hn309_3) | exact hn309_3) (.float .f64 ((rd_T56 l0 x5_1).f3))).trans hx309_4;replace hx309_0:=(cell_far (p:=⟨gb308,4,none⟩) (by first | (rw [add_block];exact hn309_4) | (show (Addr.add _ _).block ≠ _;rw [add_block];exact hn309_4) | exact hn309_4) (.int .i64 ((rd_T56 l0 x5_1).f4))).trans hx309_0;replace hx309_1:=(cell_far (p:=⟨gb308,4,none⟩) (by first | (rw [add_block];exact hn309_4) | (show (Addr.add _ _).block ≠ _;rw [add_block];exact hn309_4) | exact hn309_4) (.int .i64 ((rd_T56 l0 x5_1).f4))).trans hx309_1;replace hx309_2:=(cell_far (p:=⟨gb308,4,none⟩) (by first | (rw [add_block];exact hn309_4) | (show (Addr.add _ _).block ≠ _;rw [add_block];exact hn309_4) | exact hn309_4) (.int .i64 ((rd_T56 l0 x5_1).f4))).trans hx309_2;replace hx309_3:=(cell_far (p:=⟨gb308,4,none⟩) (by first | (rw [add_block];exact hn309_4) | (show (Addr.add _ _).block ≠ _;rw [add_block];exact hn309_4) | exact hn309_4) (.int .i64 ((rd_T56 l0 x5_1).f4))).trans hx309_3;replace hx309_4:=(cell_far (p:=⟨gb308,4,none⟩) (by first | (rw [add_block];exact hn309_4) | (show (Addr.add _ _).block ≠ _;rw [add_block];exact hn309_4) | exact hn309_4) (.int .i64 ((rd_T56 l0 x5_1).f4))).trans hx309_4;clear hn309_0;clear hn309_1;clear hn309_2;clear hn309_3;clear hn309_4;replace p309:=eq_true p309;replace q309:=eq_true q309) | ((with_reducible refine gate_dst (N:=7) rfl ?_);refine box_event ?hg (N:=7) ?hd (cs:=#[.int .i64 0,.int .i64 0,.float .f64 0,.float .f64 0,.int .i64 0]) (t:=56) ?hr ?_;(case hd => rfl);(case hg => rfl);(case hr => first | (go_simp;done) | (go_simp;rfl));intro gb310 hg w10 hbox hb;have n0_:=Aside0.mk (blk_below (g:=gb308) (o:=.cells #[.int .i64 ((rd_T56 l0 x5_1).f0),.int .i64 ((rd_T56 l0 x5_1).f1),.float .f64 ((rd_T56 l0 x5_1).f2),.float .f64 ((rd_T56 l0 x5_1).f3),.int .i64 ((rd_T56 l0 x5_1).f4)] 56 (0,0)) (by (with_reducible repeat (first | refine blk_drewN ?_ _ | refine blk_drew ?_ | refine blk_alloc ?_ _));refine blk_put (cs:=#[.int .i64 ((rd_T56 l0 x5_1).f0),.int .i64 ((rd_T56 l0 x5_1).f1),.float .f64 ((rd_T56 l0 x5_1).f2),.float .f64 ((rd_T56 l0 x5_1).f3),.int .i64 0]) ?_ 4 _ rfl;(with_reducible repeat (first | refine blk_drewN ?_ _ | refine blk_drew ?_ | refine blk_alloc ?_ _));refine blk_put (cs:=#[.int .i64 ((rd_T56 l0 x5_1).f0),.int .i64 ((rd_T56 l0 x5_1).f1),.float .f64 ((rd_T56 l0 x5_1).f2),.float .f64 0,.int .i64 0]) ?_ 3 _ rfl;(with_reducible repeat (first | refine blk_drewN ?_ _ | refine blk_drew ?_ | refine blk_alloc ?_ _));refine blk_put (cs:=#[.int .i64 ((rd_T56 l0 x5_1).f0),.int .i64 ((rd_T56 l0 x5_1).f1),.float .f64 0,.float .f64 0,.int .i64 0]) ?_ 2 _ rfl;(with_reducible repeat (first | refine blk_drewN ?_ _ | refine blk_drew ?_ | refine blk_alloc ?_ _));refine blk_put (cs:=#[.int .i64 ((rd_T56 l0 x5_1).f0),.int .i64 0,.float .f64 0,.float .f64 0,.int .i64 0]) ?_ 1 _ rfl;(with_reducible repeat (first | refine blk_drewN ?_ _ | refine blk_drew ?_ | refine blk_alloc ?_ _));refine blk_put (cs:=#[.int .i64 0,.int .i64 0,.float .f64 0,.float .f64 0,.int .i64 0]) ?_ 0 _ rfl;(with_reducible repeat (first | refine blk_drewN ?_ _ | refine blk_drew ?_ | refine blk_alloc ?_ _));exact BK308.out) hb);have n1_:=Aside0.mk (below_step (by repeat (first | (with_reducible first | exact HB.out | apply below_alloc | apply pw_below_drewN | apply below_drew1 | refine below_set ?_ GE308.out) | exact HB.out)) hb);have n2_:=Aside0.mk (hbox);have n3_:=Aside0.mk ((by rw [hg];exact (below_size (by repeat (first | (with_reducible first | exact HB.out | apply below_alloc | apply pw_below_drewN | apply below_drew1 | refine below_set ?_ GE308.out) | exact HB.out))):w.heap.size ≤ gb310));have n4_:=Aside0.mk ((by rw [hg];exact (below_size (by repeat (first | (with_reducible first | exact HB.out | apply below_alloc | apply pw_below_drewN | apply below_drew1 | refine below_set ?_ GE308.out) | exact HB.out))):w.heap.size ≤ gb310));have n5_:=Aside0.mk ((by rw [hg];exact Nat.ne_of_lt (blk_lt (g:=gb308) (o:=.cells #[.int .i64 ((rd_T56 l0 x5_1).f0),.int .i64 ((rd_T56 l0 x5_1).f1),.float .f64 ((rd_T56 l0 x5_1).f2),.float .f64 ((rd_T56 l0 x5_1).f3),.int .i64 ((rd_T56 l0 x5_1).f4)] 56 (0,0)) (by (with_reducible repeat (first | refine blk_drewN ?_ _ | refine blk_drew ?_ | refine blk_alloc ?_ _));refine blk_put (cs:=#[.int .i64 ((rd_T56 l0 x5_1).f0),.int .i64 ((rd_T56 l0 x5_1).f1),.float .f64 ((rd_T56 l0 x5_1).f2),.float .f64 ((rd_T56 l0 x5_1).f3),.int .i64 0]) ?_ 4 _ rfl;(with_reducible repeat (first | refine blk_drewN ?_ _ | refine blk_drew ?_ | refine blk_alloc ?_ _));refine blk_put (cs:=#[.int .i64 ((rd_T56 l0 x5_1).f0),.int .i64 ((rd_T56 l0 x5_1).f1),.float .f64 ((rd_T56 l0 x5_1).f2),.float .f64 0,.int .i64 0]) ?_ 3 _ rfl;(with_reducible repeat (first | refine blk_drewN ?_ _ | refine blk_drew ?_ | refine blk_alloc ?_ _));refine blk_put (cs:=#[.int .i64 ((rd_T56 l0 x5_1).f0),.int .i64 ((rd_T56 l0 x5_1).f1),.float .f64 0,.float .f64 0,.int .i64 0]) ?_ 2 _ rfl;(with_reducible repeat (first | refine blk_drewN ?_ _ | refine blk_drew ?_ | refine blk_alloc ?_ _));refine blk_put (cs:=#[.int .i64 ((rd_T56 l0 x5_1).f0),.int .i64 0,.float .f64 0,.float .f64 0,.int .i64 0]) ?_ 1 _ rfl;(with_reducible repeat (first | refine blk_drewN ?_ _ | refine blk_drew ?_ | refine blk_alloc ?_ _));refine blk_put (cs:=#[.int .i64 0,.int .i64 0,.float .f64 0,.float .f64 0,.int .i64 0]) ?_ 0 _ rfl;(with_reducible repeat (first | refine blk_drewN ?_ _ | refine blk_drew ?_ | refine blk_alloc ?_ _));exact BK308.out)):gb308 ≠ gb310));have n6_:=Aside0.mk ((by rw [hg];exact Nat.ne_of_gt (blk_lt (g:=gb308) (o:=.cells #[.int .i64 ((rd_T56 l0 x5_1).f0),.int .i64 ((rd_T56 l0 x5_1).f1),.float .f64 ((rd_T56 l0 x5_1).f2),.float .f64 ((rd_T56 l0 x5_1).f3),.int .i64 ((rd_T56 l0 x5_1).f4)] 56 (0,0)) (by (with_reducible repeat (first | refine blk_drewN ?_ _ | refine blk_drew ?_ | refine blk_alloc ?_ _));refine blk_put (cs:=#[.int .i64 ((rd_T56 l0 x5_1).f0),.int .i64 ((rd_T56 l0 x5_1).f1),.float .f64 ((rd_T56 l0 x5_1).f2),.float .f64 ((rd_T56 l0 x5_1).f3),.int .i64 0]) ?_ 4 _ rfl;(with_reducible repeat (first | refine blk_drewN ?_ _ | refine blk_drew ?_ | refine blk_alloc ?_ _));refine blk_put (cs:=#[.int .i64 ((rd_T56 l0 x5_1).f0),.int .i64 ((rd_T56 l0 x5_1).f1),.float .f64 ((rd_T56 l0 x5_1).f2),.float .f64 0,.int .i64 0]) ?_ 3 _ rfl;(with_reducible repeat (first | refine blk_drewN ?_ _ | refine blk_drew ?_ | refine blk_alloc ?_ _));refine blk_put (cs:=#[.int .i64 ((rd_T56 l0 x5_1).f0),.int .i64 ((rd_T56 l0 x5_1).f1),.float .f64 0,.float .f64 0,.int .i64 0]) ?_ 2 _ rfl;(with_reducible repeat (first | refine blk_drewN ?_ _ | refine blk_drew ?_ | refine blk_alloc ?_ _));refine blk_put (cs:=#[.int .i64 ((rd_T56 l0 x5_1).f0),.int .i64 0,.float .f64 0,.float .f64 0,.int .i64 0]) ?_ 1 _ rfl;(with_reducible repeat (first | refine blk_drewN ?_ _ | refine blk_drew ?_ | refine blk_alloc ?_ _));refine blk_put (cs:=#[.int .i64 0,.int .i64 0,.float .f64 0,.float .f64 0,.int .i64 0]) ?_ 0 _ rfl;(with_reducible repeat (first | refine blk_drewN ?_ _ | refine blk_drew ?_ | refine blk_alloc ?_ _));exact BK308.out)):gb310 ≠ gb308));clear BK308;clear HB;have BK308:=n0_;have HB:=n1_;have BK310:=n2_;have GW310:=n3_;have GE310:=n4_;have NB308_310:=n5_;have NB310_308:=n6_;clear n0_ n1_ n2_ n3_ n4_ n5_ n6_;clear hb hbox hg;have hnb11:=NB310_308.out;have hnc11:=NB308_310.out;have hcz12_0:w10.cell? ⟨gb310,0,none⟩ = some (.int .i64 0):=(blk_cell BK310.out 0).trans rfl;have hcz12_1:w10.cell? ⟨gb310,1,none⟩ = some (.int .i64 0):=(blk_cell BK310.out 1).trans rfl;have hcz12_2:w10.cell? ⟨gb310,2,none⟩ = some (.float .f64 0):=(blk_cell BK310.out 2).trans rfl;have hcz12_3:w10.cell? ⟨gb310,3,none⟩ = some (.float .f64 0):=(blk_cell BK310.out 3).trans rfl;have hcz12_4:w10.cell? ⟨gb310,4,none⟩ = some (.int .i64 0):=(blk_cell BK310.out 4).trans rfl;have hfz12_0:=blk_frozen BK310.out 0;have hfz12_1:=blk_frozen BK310.out 1;have hfz12_2:=blk_frozen BK310.out 2;have hfz12_3:=blk_frozen BK310.out 3;have hfz12_4:=blk_frozen BK310.out 4))
   (try simp only [Act.put,List.setIfInBounds_toArray,List.set_cons_zero,List.set_cons_succ])
   go_cut [63] (fun v63 wc => ∃ (kq:Nat) (x63_6:Bool),v63 = .bool x63_6 ∧ Aside0 (beaconref06_SameNews.j1 kq l0 l1 x5_1 x63_6 = some r) ∧ Aside0 (kq ≤ k1) ∧ Aside0 (wc.heap[gb308]? = some (.cells #[.int .i64 ((rd_T56 l0 x5_1).f0),.int .i64 ((rd_T56 l0 x5_1).f1),.float .f64 ((rd_T56 l0 x5_1).f2),.float .f64 ((rd_T56 l0 x5_1).f3),.int .i64 ((rd_T56 l0 x5_1).f4)] 56 (0,0))) ∧ Aside0 (wc.heap[gb310]? = some (.cells #[.int .i64 ((rd_T56 l1 x5_1).f0),.int .i64 ((rd_T56 l1 x5_1).f1),.float .f64 ((rd_T56 l1 x5_1).f2),.float .f64 ((rd_T56 l1 x5_1).f3),.int .i64 ((rd_T56 l1 x5_1).f4)] 56 (0,0))) ∧ Aside0 (Below w.heap.size w wc))
   case first =>
    have H:=HC7.out
    clear HC7
    by_cases c13:((rd_T56 l0 x5_1).f0) = ((rd_T56 l1 x5_1).f0)
    rotate_left
    ·rw [if_neg c13] at H
     have c13b0:(((rd_T56 l0 x5_1).f0) == ((rd_T56 l1 x5_1).f0)) = false:=beq_eq_false_iff_ne.mpr c13
     have c13b1:(((rd_T56 l0 x5_1).f0) != ((rd_T56 l1 x5_1).f0)) = true:=bne_iff_ne.mpr c13
     (first | rw [c13b0] | (simp only [i64_w,i32_w];rw [c13b0]) | skip)
     have H':=Aside0.mk H
     clear H
     try go_wp2
     have n0_:Aside0 ((((((w10.setCell ⟨gb310,0,none⟩ (.int .i64 ((rd_T56 l1 x5_1).f0))).setCell ⟨gb310,1,none⟩ (.int .i64 ((rd_T56 l1 x5_1).f1))).setCell ⟨gb310,2,none⟩ (.float .f64 ((rd_T56 l1 x5_1).f2))).setCell ⟨gb310,3,none⟩ (.float .f64 ((rd_T56 l1 x5_1).f3))).setCell ⟨gb310,4,none⟩ (.int .i64 ((rd_T56 l1 x5_1).f4))).heap[gb308]? = some (.cells #[.int .i64 ((rd_T56 l0 x5_1).f0),.int .i64 ((rd_T56 l0 x5_1).f1),.float .f64 ((rd_T56 l0 x5_1).f2),.float .f64 ((rd_T56 l0 x5_1).f3),.int .i64 ((rd_T56 l0 x5_1).f4)] 56 (0,0))):=⟨by (with_reducible repeat (first | refine blk_drewN ?_ _ | refine blk_drew ?_ | refine blk_alloc ?_ _));refine blk_far ?_ NB308_310.out _;(with_reducible repeat (first | refine blk_drewN ?_ _ | refine blk_drew ?_ | refine blk_alloc ?_ _));refine blk_far ?_ NB308_310.out _;(with_reducible repeat (first | refine blk_drewN ?_ _ | refine blk_drew ?_ | refine blk_alloc ?_ _));refine blk_far ?_ NB308_310.out _;(with_reducible repeat (first | refine blk_drewN ?_ _ | refine blk_drew ?_ | refine blk_alloc ?_ _));refine blk_far ?_ NB308_310.out _;(with_reducible repeat (first | refine blk_drewN ?_ _ | refine blk_drew ?_ | refine blk_alloc ?_ _));refine blk_far ?_ NB308_310.out _;(with_reducible repeat (first | refine blk_drewN ?_ _ | refine blk_drew ?_ | refine blk_alloc ?_ _));exact BK308.out⟩
     have n1_:Aside0 ((((((w10.setCell ⟨gb310,0,none⟩ (.int .i64 ((rd_T56 l1 x5_1).f0))).setCell ⟨gb310,1,none⟩ (.int .i64 ((rd_T56 l1 x5_1).f1))).setCell ⟨gb310,2,none⟩ (.float .f64 ((rd_T56 l1 x5_1).f2))).setCell ⟨gb310,3,none⟩ (.float .f64 ((rd_T56 l1 x5_1).f3))).setCell ⟨gb310,4,none⟩ (.int .i64 ((rd_T56 l1 x5_1).f4))).heap[gb310]? = some (.cells #[.int .i64 ((rd_T56 l1 x5_1).f0),.int .i64 ((rd_T56 l1 x5_1).f1),.float .f64 ((rd_T56 l1 x5_1).f2),.float .f64 ((rd_T56 l1 x5_1).f3),.int .i64 ((rd_T56 l1 x5_1).f4)] 56 (0,0))):=⟨by (with_reducible repeat (first | refine blk_drewN ?_ _ | refine blk_drew ?_ | refine blk_alloc ?_ _));refine blk_put (cs:=#[.int .i64 ((rd_T56 l1 x5_1).f0),.int .i64 ((rd_T56 l1 x5_1).f1),.float .f64 ((rd_T56 l1 x5_1).f2),.float .f64 ((rd_T56 l1 x5_1).f3),.int .i64 0]) ?_ 4 _ rfl;(with_reducible repeat (first | refine blk_drewN ?_ _ | refine blk_drew ?_ | refine blk_alloc ?_ _));refine blk_put (cs:=#[.int .i64 ((rd_T56 l1 x5_1).f0),.int .i64 ((rd_T56 l1 x5_1).f1),.float .f64 ((rd_T56 l1 x5_1).f2),.float .f64 0,.int .i64 0]) ?_ 3 _ rfl;(with_reducible repeat (first | refine blk_drewN ?_ _ | refine blk_drew ?_ | refine blk_alloc ?_ _));refine blk_put (cs:=#[.int .i64 ((rd_T56 l1 x5_1).f0),.int .i64 ((rd_T56 l1 x5_1).f1),.float .f64 0,.float .f64 0,.int .i64 0]) ?_ 2 _ rfl;(with_reducible repeat (first | refine blk_drewN ?_ _ | refine blk_drew ?_ | refine blk_alloc ?_ _));refine blk_put (cs:=#[.int .i64 ((rd_T56 l1 x5_1).f0),.int .i64 0,.float .f64 0,.float .f64 0,.int .i64 0]) ?_ 1 _ rfl;(with_reducible repeat (first | refine blk_drewN ?_ _ | refine blk_drew ?_ | refine blk_alloc ?_ _));refine blk_put (cs:=#[.int .i64 0,.int .i64 0,.float .f64 0,.float .f64 0,.int .i64 0]) ?_ 0 _ rfl;(with_reducible repeat (first | refine blk_drewN ?_ _ | refine blk_drew ?_ | refine blk_alloc ?_ _));exact BK310.out⟩
     have n2_:Aside0 (Below w.heap.size w (((((w10.setCell ⟨gb310,0,none⟩ (.int .i64 ((rd_T56 l1 x5_1).f0))).setCell ⟨gb310,1,none⟩ (.int .i64 ((rd_T56 l1 x5_1).f1))).setCell ⟨gb310,2,none⟩ (.float .f64 ((rd_T56 l1 x5_1).f2))).setCell ⟨gb310,3,none⟩ (.float .f64 ((rd_T56 l1 x5_1).f3))).setCell ⟨gb310,4,none⟩ (.int .i64 ((rd_T56 l1 x5_1).f4)))):=⟨by repeat (first | (with_reducible first | exact HB.out | apply below_alloc | apply pw_below_drewN | apply below_drew1 | refine below_set ?_ GE308.out | refine below_set ?_ GE310.out) | exact HB.out)⟩
     (try clear BK308)
     (try clear BK310)
     (try clear HB)
     generalize (((((w10.setCell ⟨gb310,0,none⟩ (.int .i64 ((rd_T56 l1 x5_1).f0))).setCell ⟨gb310,1,none⟩ (.int .i64 ((rd_T56 l1 x5_1).f1))).setCell ⟨gb310,2,none⟩ (.float .f64 ((rd_T56 l1 x5_1).f2))).setCell ⟨gb310,3,none⟩ (.float .f64 ((rd_T56 l1 x5_1).f3))).setCell ⟨gb310,4,none⟩ (.int .i64 ((rd_T56 l1 x5_1).f4))) = w25 at n0_ n1_ n2_ ⊢
     have BK308:=n0_
     have BK310:=n1_
     have HB:=n2_
     clear n0_ n1_ n2_
     have n0_:=Aside0.mk (blk_drew BK308.out)
     have n1_:=Aside0.mk (blk_drew BK310.out)
     have n2_:=Aside0.mk (below_drew1 HB.out)
     clear BK308
     clear BK310
     clear HB
     have BK308:=n0_
     have BK310:=n1_
     have HB:=n2_
     clear n0_ n1_ n2_
     refine start_ (n:=37) (S:=fun w' => w'.cell? ⟨gb308,0,none⟩ = some (.int .i64 ((rd_T56 l0 x5_1).f0)) ∧ w'.cell? ⟨gb308,1,none⟩ = some (.int .i64 ((rd_T56 l0 x5_1).f1)) ∧ w'.cell? ⟨gb308,2,none⟩ = some (.float .f64 ((rd_T56 l0 x5_1).f2)) ∧ w'.cell? ⟨gb308,3,none⟩ = some (.float .f64 ((rd_T56 l0 x5_1).f3)) ∧ w'.cell? ⟨gb308,4,none⟩ = some (.int .i64 ((rd_T56 l0 x5_1).f4)) ∧ w'.cell? ⟨gb310,0,none⟩ = some (.int .i64 ((rd_T56 l1 x5_1).f0)) ∧ w'.cell? ⟨gb310,1,none⟩ = some (.int .i64 ((rd_T56 l1 x5_1).f1)) ∧ w'.cell? ⟨gb310,2,none⟩ = some (.float .f64 ((rd_T56 l1 x5_1).f2)) ∧ w'.cell? ⟨gb310,3,none⟩ = some (.float .f64 ((rd_T56 l1 x5_1).f3)) ∧ w'.cell? ⟨gb310,4,none⟩ = some (.int .i64 ((rd_T56 l1 x5_1).f4))) (ds:=[]) #[false,false,false,false,false,false,false,false,false,false,false,false,false,false,false,false,false,false,false,false,false,false,false,false,false,false,false,false,false,false,false,false,false,false,false,false,false] (by kernel_rfl) rfl rfl ⟨(blk_cell BK308.out 0).trans rfl,(blk_cell BK308.out 1).trans rfl,(blk_cell BK308.out 2).trans rfl,(blk_cell BK308.out 3).trans rfl,(blk_cell BK308.out 4).trans rfl,(blk_cell BK310.out 0).trans rfl,(blk_cell BK310.out 1).trans rfl,(blk_cell BK310.out 2).trans rfl,(blk_cell BK310.out 3).trans rfl,(blk_cell BK310.out 4).trans rfl⟩ (fun hHeld => ?_);refine with_tabW beaconref06_SameNews.tab8 beaconref06_SameNews.bits8 (fun HT_ HW_ => ?_)
     generalize w25.drew = w26 at BK308 BK310 HB hHeld ⊢
     refine manyW_ (fuel:=0) (a':=?_) ((0,0) :: (2,0) :: (1,2) :: (3,2) :: (4,0) :: (5,0) :: (6,1) :: (7,1) :: (8,1) :: (9,1) :: (10,1) :: (11,0) :: (12,0) :: (13,1) :: (14,1) :: (15,1) :: (16,1) :: (17,1) :: (18,0) :: (19,0) :: (20,1) :: (21,1) :: (22,1) :: (23,1) :: (24,1) :: (25,1) :: (26,1) :: (27,0) :: (28,0) :: (29,1) :: (30,1) :: (31,1) :: (32,1) :: (33,1) :: (34,1) :: (35,1) :: (36,0) :: []) #[true,true,true,true,true,true,true,true,true,true,true,true,true,true,true,true,true,true,true,true,true,true,true,true,true,true,true,true,true,true,true,true,true,true,true,true,true] rfl HT_ HW_ (by kernel_rfl) (fun _ _ _ _ _ h => h) (fun _ => hHeld) ?_ ?_
     rotate_left
     ·repeat (first | exact Chain.nil _ | (apply Chain.on;rfl;rfl;(focus intro w';go_simp;with_reducible rfl);(focus simp only [Act.put,List.setIfInBounds_toArray,List.set_cons_zero,List.set_cons_succ,i64_w,i32_w];rfl)) | (apply Chain.take;rfl;rfl;(focus rintro w' ⟨s0,s1,s2,s3,s4,s5,s6,s7,s8,s9⟩;go_simp;with_reducible rfl);(focus simp only [Act.put,List.setIfInBounds_toArray,List.set_cons_zero,List.set_cons_succ,i64_w,i32_w];rfl)) | (apply Chain.off;rfl;rfl;(focus simp only [Act.put,List.setIfInBounds_toArray,List.set_cons_zero,List.set_cons_succ,i64_w,i32_w];rfl)))
     refine done_ (done_of HT_.out (by kernel_rfl)) ?_
     try go_wp2
     go_meet
     case rel => exact ⟨_,(true),(by first | rfl | (simp;done) | (simp [*];done)),H',⟨by have:=HK1.out;first | omega | exact Nat.le_refl _⟩,⟨by (with_reducible repeat (first | refine blk_drewN ?_ _ | refine blk_drew ?_ | refine blk_alloc ?_ _));exact BK308.out⟩,⟨by (with_reducible repeat (first | refine blk_drewN ?_ _ | refine blk_drew ?_ | refine blk_alloc ?_ _));exact BK310.out⟩,⟨by repeat (first | (with_reducible first | exact HB.out | apply below_alloc | apply pw_below_drewN | apply below_drew1 | refine below_set ?_ GE308.out | refine below_set ?_ GE310.out) | exact HB.out)⟩⟩
    rw [if_pos c13] at H
    have c13b0:(((rd_T56 l0 x5_1).f0) == ((rd_T56 l1 x5_1).f0)) = true:=beq_iff_eq.mpr c13
    have c13b1:(((rd_T56 l0 x5_1).f0) != ((rd_T56 l1 x5_1).f0)) = false:=bne_eq_false_iff_eq.mpr c13
    clear c13
    (first | rw [c13b0] | (simp only [i64_w,i32_w];rw [c13b0]) | skip)
    by_cases c14:((rd_T56 l0 x5_1).f1) = ((rd_T56 l1 x5_1).f1)
    rotate_left
    ·rw [if_neg c14] at H
     have c14b0:(((rd_T56 l0 x5_1).f1) == ((rd_T56 l1 x5_1).f1)) = false:=beq_eq_false_iff_ne.mpr c14
     have c14b1:(((rd_T56 l0 x5_1).f1) != ((rd_T56 l1 x5_1).f1)) = true:=bne_iff_ne.mpr c14
     have H':=Aside0.mk H
     clear H
     try go_wp2
     have n0_:Aside0 ((((((w10.setCell ⟨gb310,0,none⟩ (.int .i64 ((rd_T56 l1 x5_1).f0))).setCell ⟨gb310,1,none⟩ (.int .i64 ((rd_T56 l1 x5_1).f1))).setCell ⟨gb310,2,none⟩ (.float .f64 ((rd_T56 l1 x5_1).f2))).setCell ⟨gb310,3,none⟩ (.float .f64 ((rd_T56 l1 x5_1).f3))).setCell ⟨gb310,4,none⟩ (.int .i64 ((rd_T56 l1 x5_1).f4))).heap[gb308]? = some (.cells #[.int .i64 ((rd_T56 l0 x5_1).f0),.int .i64 ((rd_T56 l0 x5_1).f1),.float .f64 ((rd_T56 l0 x5_1).f2),.float .f64 ((rd_T56 l0 x5_1).f3),.int .i64 ((rd_T56 l0 x5_1).f4)] 56 (0,0))):=⟨by (with_reducible repeat (first | refine blk_drewN ?_ _ | refine blk_drew ?_ | refine blk_alloc ?_ _));refine blk_far ?_ NB308_310.out _;(with_reducible repeat (first | refine blk_drewN ?_ _ | refine blk_drew ?_ | refine blk_alloc ?_ _));refine blk_far ?_ NB308_310.out _;(with_reducible repeat (first | refine blk_drewN ?_ _ | refine blk_drew ?_ | refine blk_alloc ?_ _));refine blk_far ?_ NB308_310.out _;(with_reducible repeat (first | refine blk_drewN ?_ _ | refine blk_drew ?_ | refine blk_alloc ?_ _));refine blk_far ?_ NB308_310.out _;(with_reducible repeat (first | refine blk_drewN ?_ _ | refine blk_drew ?_ | refine blk_alloc ?_ _));refine blk_far ?_ NB308_310.out _;(with_reducible repeat (first | refine blk_drewN ?_ _ | refine blk_drew ?_ | refine blk_alloc ?_ _));exact BK308.out⟩
     have n1_:Aside0 ((((((w10.setCell ⟨gb310,0,none⟩ (.int .i64 ((rd_T56 l1 x5_1).f0))).setCell ⟨gb310,1,none⟩ (.int .i64 ((rd_T56 l1 x5_1).f1))).setCell ⟨gb310,2,none⟩ (.float .f64 ((rd_T56 l1 x5_1).f2))).setCell ⟨gb310,3,none⟩ (.float .f64 ((rd_T56 l1 x5_1).f3))).setCell ⟨gb310,4,none⟩ (.int .i64 ((rd_T56 l1 x5_1).f4))).heap[gb310]? = some (.cells #[.int .i64 ((rd_T56 l1 x5_1).f0),.int .i64 ((rd_T56 l1 x5_1).f1),.float .f64 ((rd_T56 l1 x5_1).f2),.float .f64 ((rd_T56 l1 x5_1).f3),.int .i64 ((rd_T56 l1 x5_1).f4)] 56 (0,0))):=⟨by (with_reducible repeat (first | refine blk_drewN ?_ _ | refine blk_drew ?_ | refine blk_alloc ?_ _));refine blk_put (cs:=#[.int .i64 ((rd_T56 l1 x5_1).f0),.int .i64 ((rd_T56 l1 x5_1).f1),.float .f64 ((rd_T56 l1 x5_1).f2),.float .f64 ((rd_T56 l1 x5_1).f3),.int .i64 0]) ?_ 4 _ rfl;(with_reducible repeat (first | refine blk_drewN ?_ _ | refine blk_drew ?_ | refine blk_alloc ?_ _));refine blk_put (cs:=#[.int .i64 ((rd_T56 l1 x5_1).f0),.int .i64 ((rd_T56 l1 x5_1).f1),.float .f64 ((rd_T56 l1 x5_1).f2),.float .f64 0,.int .i64 0]) ?_ 3 _ rfl;(with_reducible repeat (first | refine blk_drewN ?_ _ | refine blk_drew ?_ | refine blk_alloc ?_ _));refine blk_put (cs:=#[.int .i64 ((rd_T56 l1 x5_1).f0),.int .i64 ((rd_T56 l1 x5_1).f1),.float .f64 0,.float .f64 0,.int .i64 0]) ?_ 2 _ rfl;(with_reducible repeat (first | refine blk_drewN ?_ _ | refine blk_drew ?_ | refine blk_alloc ?_ _));refine blk_put (cs:=#[.int .i64 ((rd_T56 l1 x5_1).f0),.int .i64 0,.float .f64 0,.float .f64 0,.int .i64 0]) ?_ 1 _ rfl;(with_reducible repeat (first | refine blk_drewN ?_ _ | refine blk_drew ?_ | refine blk_alloc ?_ _));refine blk_put (cs:=#[.int .i64 0,.int .i64 0,.float .f64 0,.float .f64 0,.int .i64 0]) ?_ 0 _ rfl;(with_reducible repeat (first | refine blk_drewN ?_ _ | refine blk_drew ?_ | refine blk_alloc ?_ _));exact BK310.out⟩
     have n2_:Aside0 (Below w.heap.size w (((((w10.setCell ⟨gb310,0,none⟩ (.int .i64 ((rd_T56 l1 x5_1).f0))).setCell ⟨gb310,1,none⟩ (.int .i64 ((rd_T56 l1 x5_1).f1))).setCell ⟨gb310,2,none⟩ (.float .f64 ((rd_T56 l1 x5_1).f2))).setCell ⟨gb310,3,none⟩ (.float .f64 ((rd_T56 l1 x5_1).f3))).setCell ⟨gb310,4,none⟩ (.int .i64 ((rd_T56 l1 x5_1).f4)))):=⟨by repeat (first | (with_reducible first | exact HB.out | apply below_alloc | apply pw_below_drewN | apply below_drew1 | refine below_set ?_ GE308.out | refine below_set ?_ GE310.out) | exact HB.out)⟩
     (try clear BK308)
     (try clear BK310)
     (try clear HB)
     generalize (((((w10.setCell ⟨gb310,0,none⟩ (.int .i64 ((rd_T56 l1 x5_1).f0))).setCell ⟨gb310,1,none⟩ (.int .i64 ((rd_T56 l1 x5_1).f1))).setCell ⟨gb310,2,none⟩ (.float .f64 ((rd_T56 l1 x5_1).f2))).setCell ⟨gb310,3,none⟩ (.float .f64 ((rd_T56 l1 x5_1).f3))).setCell ⟨gb310,4,none⟩ (.int .i64 ((rd_T56 l1 x5_1).f4))) = w23 at n0_ n1_ n2_ ⊢
     have BK308:=n0_
     have BK310:=n1_
     have HB:=n2_
     clear n0_ n1_ n2_
     have n0_:=Aside0.mk (blk_drew BK308.out)
     have n1_:=Aside0.mk (blk_drew BK310.out)
     have n2_:=Aside0.mk (below_drew1 HB.out)
     clear BK308
     clear BK310
     clear HB
     have BK308:=n0_
     have BK310:=n1_
     have HB:=n2_
     clear n0_ n1_ n2_
     refine start_ (n:=37) (S:=fun w' => w'.cell? ⟨gb308,0,none⟩ = some (.int .i64 ((rd_T56 l0 x5_1).f0)) ∧ w'.cell? ⟨gb308,1,none⟩ = some (.int .i64 ((rd_T56 l0 x5_1).f1)) ∧ w'.cell? ⟨gb308,2,none⟩ = some (.float .f64 ((rd_T56 l0 x5_1).f2)) ∧ w'.cell? ⟨gb308,3,none⟩ = some (.float .f64 ((rd_T56 l0 x5_1).f3)) ∧ w'.cell? ⟨gb308,4,none⟩ = some (.int .i64 ((rd_T56 l0 x5_1).f4)) ∧ w'.cell? ⟨gb310,0,none⟩ = some (.int .i64 ((rd_T56 l1 x5_1).f0)) ∧ w'.cell? ⟨gb310,1,none⟩ = some (.int .i64 ((rd_T56 l1 x5_1).f1)) ∧ w'.cell? ⟨gb310,2,none⟩ = some (.float .f64 ((rd_T56 l1 x5_1).f2)) ∧ w'.cell? ⟨gb310,3,none⟩ = some (.float .f64 ((rd_T56 l1 x5_1).f3)) ∧ w'.cell? ⟨gb310,4,none⟩ = some (.int .i64 ((rd_T56 l1 x5_1).f4))) (ds:=[]) #[false,false,false,false,false,false,false,false,false,false,false,false,false,false,false,false,false,false,false,false,false,false,false,false,false,false,false,false,false,false,false,false,false,false,false,false,false] (by kernel_rfl) rfl rfl ⟨(blk_cell BK308.out 0).trans rfl,(blk_cell BK308.out 1).trans rfl,(blk_cell BK308.out 2).trans rfl,(blk_cell BK308.out 3).trans rfl,(blk_cell BK308.out 4).trans rfl,(blk_cell BK310.out 0).trans rfl,(blk_cell BK310.out 1).trans rfl,(blk_cell BK310.out 2).trans rfl,(blk_cell BK310.out 3).trans rfl,(blk_cell BK310.out 4).trans rfl⟩ (fun hHeld => ?_);refine with_tabW beaconref06_SameNews.tab8 beaconref06_SameNews.bits8 (fun HT_ HW_ => ?_)
     generalize w23.drew = w24 at BK308 BK310 HB hHeld ⊢
     refine manyW_ (fuel:=0) (a':=?_) ((0,0) :: (2,0) :: (1,2) :: (3,2) :: (4,0) :: (5,0) :: (6,0) :: (8,0) :: (7,2) :: (9,2) :: (10,0) :: (11,0) :: (12,0) :: (13,1) :: (14,1) :: (15,1) :: (16,1) :: (17,1) :: (18,0) :: (19,0) :: (20,1) :: (21,1) :: (22,1) :: (23,1) :: (24,1) :: (25,1) :: (26,1) :: (27,0) :: (28,0) :: (29,1) :: (30,1) :: (31,1) :: (32,1) :: (33,1) :: (34,1) :: (35,1) :: (36,0) :: []) #[true,true,true,true,true,true,true,true,true,true,true,true,true,true,true,true,true,true,true,true,true,true,true,true,true,true,true,true,true,true,true,true,true,true,true,true,true] rfl HT_ HW_ (by kernel_rfl) (fun _ _ _ _ _ h => h) (fun _ => hHeld) ?_ ?_
     rotate_left
     ·repeat (first | exact Chain.nil _ | (apply Chain.on;rfl;rfl;(focus intro w';go_simp;with_reducible rfl);(focus simp only [Act.put,List.setIfInBounds_toArray,List.set_cons_zero,List.set_cons_succ,i64_w,i32_w];rfl)) | (apply Chain.take;rfl;rfl;(focus rintro w' ⟨s0,s1,s2,s3,s4,s5,s6,s7,s8,s9⟩;go_simp;with_reducible rfl);(focus simp only [Act.put,List.setIfInBounds_toArray,List.set_cons_zero,List.set_cons_succ,i64_w,i32_w];rfl)) | (apply Chain.off;rfl;rfl;(focus simp only [Act.put,List.setIfInBounds_toArray,List.set_cons_zero,List.set_cons_succ,i64_w,i32_w];rfl)))
     refine done_ (done_of HT_.out (by kernel_rfl)) ?_
     try go_wp2
     go_meet
     case rel => exact ⟨_,(true),(by first | rfl | (simp;done) | (simp [*];done)),H',⟨by have:=HK1.out;first | omega | exact Nat.le_refl _⟩,⟨by (with_reducible repeat (first | refine blk_drewN ?_ _ | refine blk_drew ?_ | refine blk_alloc ?_ _));exact BK308.out⟩,⟨by (with_reducible repeat (first | refine blk_drewN ?_ _ | refine blk_drew ?_ | refine blk_alloc ?_ _));exact BK310.out⟩,⟨by repeat (first | (with_reducible first | exact HB.out | apply below_alloc | apply pw_below_drewN | apply below_drew1 | refine below_set ?_ GE308.out | refine below_set ?_ GE310.out) | exact HB.out)⟩⟩
    rw [if_pos c14] at H
    have c14b0:(((rd_T56 l0 x5_1).f1) == ((rd_T56 l1 x5_1).f1)) = true:=beq_iff_eq.mpr c14
    have c14b1:(((rd_T56 l0 x5_1).f1) != ((rd_T56 l1 x5_1).f1)) = false:=bne_eq_false_iff_eq.mpr c14
    clear c14
    by_cases c15:((rd_T56 l0 x5_1).f4) = ((rd_T56 l1 x5_1).f4)
    rotate_left
    ·rw [if_neg c15] at H
     have c15b0:(((rd_T56 l0 x5_1).f4) == ((rd_T56 l1 x5_1).f4)) = false:=beq_eq_false_iff_ne.mpr c15
     have c15b1:(((rd_T56 l0 x5_1).f4) != ((rd_T56 l1 x5_1).f4)) = true:=bne_iff_ne.mpr c15
     have H':=Aside0.mk H
     clear H
     try go_wp2
     have n0_:Aside0 ((((((w10.setCell ⟨gb310,0,none⟩ (.int .i64 ((rd_T56 l1 x5_1).f0))).setCell ⟨gb310,1,none⟩ (.int .i64 ((rd_T56 l1 x5_1).f1))).setCell ⟨gb310,2,none⟩ (.float .f64 ((rd_T56 l1 x5_1).f2))).setCell ⟨gb310,3,none⟩ (.float .f64 ((rd_T56 l1 x5_1).f3))).setCell ⟨gb310,4,none⟩ (.int .i64 ((rd_T56 l1 x5_1).f4))).heap[gb308]? = some (.cells #[.int .i64 ((rd_T56 l0 x5_1).f0),.int .i64 ((rd_T56 l0 x5_1).f1),.float .f64 ((rd_T56 l0 x5_1).f2),.float .f64 ((rd_T56 l0 x5_1).f3),.int .i64 ((rd_T56 l0 x5_1).f4)] 56 (0,0))):=⟨by (with_reducible repeat (first | refine blk_drewN ?_ _ | refine blk_drew ?_ | refine blk_alloc ?_ _));refine blk_far ?_ NB308_310.out _;(with_reducible repeat (first | refine blk_drewN ?_ _ | refine blk_drew ?_ | refine blk_alloc ?_ _));refine blk_far ?_ NB308_310.out _;(with_reducible repeat (first | refine blk_drewN ?_ _ | refine blk_drew ?_ | refine blk_alloc ?_ _));refine blk_far ?_ NB308_310.out _;(with_reducible repeat (first | refine blk_drewN ?_ _ | refine blk_drew ?_ | refine blk_alloc ?_ _));refine blk_far ?_ NB308_310.out _;(with_reducible repeat (first | refine blk_drewN ?_ _ | refine blk_drew ?_ | refine blk_alloc ?_ _));refine blk_far ?_ NB308_310.out _;(with_reducible repeat (first | refine blk_drewN ?_ _ | refine blk_drew ?_ | refine blk_alloc ?_ _));exact BK308.out⟩
     have n1_:Aside0 ((((((w10.setCell ⟨gb310,0,none⟩ (.int .i64 ((rd_T56 l1 x5_1).f0))).setCell ⟨gb310,1,none⟩ (.int .i64 ((rd_T56 l1 x5_1).f1))).setCell ⟨gb310,2,none⟩ (.float .f64 ((rd_T56 l1 x5_1).f2))).setCell ⟨gb310,3,none⟩ (.float .f64 ((rd_T56 l1 x5_1).f3))).setCell ⟨gb310,4,none⟩ (.int .i64 ((rd_T56 l1 x5_1).f4))).heap[gb310]? = some (.cells #[.int .i64 ((rd_T56 l1 x5_1).f0),.int .i64 ((rd_T56 l1 x5_1).f1),.float .f64 ((rd_T56 l1 x5_1).f2),.float .f64 ((rd_T56 l1 x5_1).f3),.int .i64 ((rd_T56 l1 x5_1).f4)] 56 (0,0))):=⟨by (with_reducible repeat (first | refine blk_drewN ?_ _ | refine blk_drew ?_ | refine blk_alloc ?_ _));refine blk_put (cs:=#[.int .i64 ((rd_T56 l1 x5_1).f0),.int .i64 ((rd_T56 l1 x5_1).f1),.float .f64 ((rd_T56 l1 x5_1).f2),.float .f64 ((rd_T56 l1 x5_1).f3),.int .i64 0]) ?_ 4 _ rfl;(with_reducible repeat (first | refine blk_drewN ?_ _ | refine blk_drew ?_ | refine blk_alloc ?_ _));refine blk_put (cs:=#[.int .i64 ((rd_T56 l1 x5_1).f0),.int .i64 ((rd_T56 l1 x5_1).f1),.float .f64 ((rd_T56 l1 x5_1).f2),.float .f64 0,.int .i64 0]) ?_ 3 _ rfl;(with_reducible repeat (first | refine blk_drewN ?_ _ | refine blk_drew ?_ | refine blk_alloc ?_ _));refine blk_put (cs:=#[.int .i64 ((rd_T56 l1 x5_1).f0),.int .i64 ((rd_T56 l1 x5_1).f1),.float .f64 0,.float .f64 0,.int .i64 0]) ?_ 2 _ rfl;(with_reducible repeat (first | refine blk_drewN ?_ _ | refine blk_drew ?_ | refine blk_alloc ?_ _));refine blk_put (cs:=#[.int .i64 ((rd_T56 l1 x5_1).f0),.int .i64 0,.float .f64 0,.float .f64 0,.int .i64 0]) ?_ 1 _ rfl;(with_reducible repeat (first | refine blk_drewN ?_ _ | refine blk_drew ?_ | refine blk_alloc ?_ _));refine blk_put (cs:=#[.int .i64 0,.int .i64 0,.float .f64 0,.float .f64 0,.int .i64 0]) ?_ 0 _ rfl;(with_reducible repeat (first | refine blk_drewN ?_ _ | refine blk_drew ?_ | refine blk_alloc ?_ _));exact BK310.out⟩
     have n2_:Aside0 (Below w.heap.size w (((((w10.setCell ⟨gb310,0,none⟩ (.int .i64 ((rd_T56 l1 x5_1).f0))).setCell ⟨gb310,1,none⟩ (.int .i64 ((rd_T56 l1 x5_1).f1))).setCell ⟨gb310,2,none⟩ (.float .f64 ((rd_T56 l1 x5_1).f2))).setCell ⟨gb310,3,none⟩ (.float .f64 ((rd_T56 l1 x5_1).f3))).setCell ⟨gb310,4,none⟩ (.int .i64 ((rd_T56 l1 x5_1).f4)))):=⟨by repeat (first | (with_reducible first | exact HB.out | apply below_alloc | apply pw_below_drewN | apply below_drew1 | refine below_set ?_ GE308.out | refine below_set ?_ GE310.out) | exact HB.out)⟩
     (try clear BK308)
     (try clear BK310)
     (try clear HB)
     generalize (((((w10.setCell ⟨gb310,0,none⟩ (.int .i64 ((rd_T56 l1 x5_1).f0))).setCell ⟨gb310,1,none⟩ (.int .i64 ((rd_T56 l1 x5_1).f1))).setCell ⟨gb310,2,none⟩ (.float .f64 ((rd_T56 l1 x5_1).f2))).setCell ⟨gb310,3,none⟩ (.float .f64 ((rd_T56 l1 x5_1).f3))).setCell ⟨gb310,4,none⟩ (.int .i64 ((rd_T56 l1 x5_1).f4))) = w21 at n0_ n1_ n2_ ⊢
     have BK308:=n0_
     have BK310:=n1_
     have HB:=n2_
     clear n0_ n1_ n2_
     have n0_:=Aside0.mk (blk_drew BK308.out)
     have n1_:=Aside0.mk (blk_drew BK310.out)
     have n2_:=Aside0.mk (below_drew1 HB.out)
     clear BK308
     clear BK310
     clear HB
     have BK308:=n0_
     have BK310:=n1_
     have HB:=n2_
     clear n0_ n1_ n2_
     refine start_ (n:=37) (S:=fun w' => w'.cell? ⟨gb308,0,none⟩ = some (.int .i64 ((rd_T56 l0 x5_1).f0)) ∧ w'.cell? ⟨gb308,1,none⟩ = some (.int .i64 ((rd_T56 l0 x5_1).f1)) ∧ w'.cell? ⟨gb308,2,none⟩ = some (.float .f64 ((rd_T56 l0 x5_1).f2)) ∧ w'.cell? ⟨gb308,3,none⟩ = some (.float .f64 ((rd_T56 l0 x5_1).f3)) ∧ w'.cell? ⟨gb308,4,none⟩ = some (.int .i64 ((rd_T56 l0 x5_1).f4)) ∧ w'.cell? ⟨gb310,0,none⟩ = some (.int .i64 ((rd_T56 l1 x5_1).f0)) ∧ w'.cell? ⟨gb310,1,none⟩ = some (.int .i64 ((rd_T56 l1 x5_1).f1)) ∧ w'.cell? ⟨gb310,2,none⟩ = some (.float .f64 ((rd_T56 l1 x5_1).f2)) ∧ w'.cell? ⟨gb310,3,none⟩ = some (.float .f64 ((rd_T56 l1 x5_1).f3)) ∧ w'.cell? ⟨gb310,4,none⟩ = some (.int .i64 ((rd_T56 l1 x5_1).f4))) (ds:=[]) #[false,false,false,false,false,false,false,false,false,false,false,false,false,false,false,false,false,false,false,false,false,false,false,false,false,false,false,false,false,false,false,false,false,false,false,false,false] (by kernel_rfl) rfl rfl ⟨(blk_cell BK308.out 0).trans rfl,(blk_cell BK308.out 1).trans rfl,(blk_cell BK308.out 2).trans rfl,(blk_cell BK308.out 3).trans rfl,(blk_cell BK308.out 4).trans rfl,(blk_cell BK310.out 0).trans rfl,(blk_cell BK310.out 1).trans rfl,(blk_cell BK310.out 2).trans rfl,(blk_cell BK310.out 3).trans rfl,(blk_cell BK310.out 4).trans rfl⟩ (fun hHeld => ?_);refine with_tabW beaconref06_SameNews.tab8 beaconref06_SameNews.bits8 (fun HT_ HW_ => ?_)
     generalize w21.drew = w22 at BK308 BK310 HB hHeld ⊢
     refine manyW_ (fuel:=0) (a':=?_) ((0,0) :: (2,0) :: (1,2) :: (3,2) :: (4,0) :: (5,0) :: (6,0) :: (8,0) :: (7,2) :: (9,2) :: (10,0) :: (11,0) :: (12,0) :: (13,0) :: (15,0) :: (14,2) :: (16,2) :: (17,0) :: (18,0) :: (19,0) :: (20,1) :: (21,1) :: (22,1) :: (23,1) :: (24,1) :: (25,1) :: (26,1) :: (27,0) :: (28,0) :: (29,1) :: (30,1) :: (31,1) :: (32,1) :: (33,1) :: (34,1) :: (35,1) :: (36,0) :: []) #[true,true,true,true,true,true,true,true,true,true,true,true,true,true,true,true,true,true,true,true,true,true,true,true,true,true,true,true,true,true,true,true,true,true,true,true,true] rfl HT_ HW_ (by kernel_rfl) (fun _ _ _ _ _ h => h) (fun _ => hHeld) ?_ ?_
     rotate_left
     ·repeat (first | exact Chain.nil _ | (apply Chain.on;rfl;rfl;(focus intro w';go_simp;with_reducible rfl);(focus simp only [Act.put,List.setIfInBounds_toArray,List.set_cons_zero,List.set_cons_succ,i64_w,i32_w];rfl)) | (apply Chain.take;rfl;rfl;(focus rintro w' ⟨s0,s1,s2,s3,s4,s5,s6,s7,s8,s9⟩;go_simp;with_reducible rfl);(focus simp only [Act.put,List.setIfInBounds_toArray,List.set_cons_zero,List.set_cons_succ,i64_w,i32_w];rfl)) | (apply Chain.off;rfl;rfl;(focus simp only [Act.put,List.setIfInBounds_toArray,List.set_cons_zero,List.set_cons_succ,i64_w,i32_w];rfl)))
     refine done_ (done_of HT_.out (by kernel_rfl)) ?_
     try go_wp2
     go_meet
     case rel => exact ⟨_,(true),(by first | rfl | (simp;done) | (simp [*];done)),H',⟨by have:=HK1.out;first | omega | exact Nat.le_refl _⟩,⟨by (with_reducible repeat (first | refine blk_drewN ?_ _ | refine blk_drew ?_ | refine blk_alloc ?_ _));exact BK308.out⟩,⟨by (with_reducible repeat (first | refine blk_drewN ?_ _ | refine blk_drew ?_ | refine blk_alloc ?_ _));exact BK310.out⟩,⟨by repeat (first | (with_reducible first | exact HB.out | apply below_alloc | apply pw_below_drewN | apply below_drew1 | refine below_set ?_ GE308.out | refine below_set ?_ GE310.out) | exact HB.out)⟩⟩
    rw [if_pos c15] at H
    have c15b0:(((rd_T56 l0 x5_1).f4) == ((rd_T56 l1 x5_1).f4)) = true:=beq_iff_eq.mpr c15
    have c15b1:(((rd_T56 l0 x5_1).f4) != ((rd_T56 l1 x5_1).f4)) = false:=bne_eq_false_iff_eq.mpr c15
    clear c15
    by_cases c16:(((rd_T56 l0 x5_1).f2):Int) = (((rd_T56 l1 x5_1).f2):Int)
    ·rw [if_pos c16] at H
     have c16b0:((((rd_T56 l0 x5_1).f2):Int) == (((rd_T56 l1 x5_1).f2):Int)) = true:=beq_iff_eq.mpr c16
     have c16b1:((((rd_T56 l0 x5_1).f2):Int) != (((rd_T56 l1 x5_1).f2):Int)) = false:=bne_eq_false_iff_eq.mpr c16
     clear c16
     have H':=Aside0.mk H
     clear H
     try go_wp2
     have n0_:Aside0 ((((((w10.setCell ⟨gb310,0,none⟩ (.int .i64 ((rd_T56 l1 x5_1).f0))).setCell ⟨gb310,1,none⟩ (.int .i64 ((rd_T56 l1 x5_1).f1))).setCell ⟨gb310,2,none⟩ (.float .f64 ((rd_T56 l1 x5_1).f2))).setCell ⟨gb310,3,none⟩ (.float .f64 ((rd_T56 l1 x5_1).f3))).setCell ⟨gb310,4,none⟩ (.int .i64 ((rd_T56 l1 x5_1).f4))).heap[gb308]? = some (.cells #[.int .i64 ((rd_T56 l0 x5_1).f0),.int .i64 ((rd_T56 l0 x5_1).f1),.float .f64 ((rd_T56 l0 x5_1).f2),.float .f64 ((rd_T56 l0 x5_1).f3),.int .i64 ((rd_T56 l0 x5_1).f4)] 56 (0,0))):=⟨by (with_reducible repeat (first | refine blk_drewN ?_ _ | refine blk_drew ?_ | refine blk_alloc ?_ _));refine blk_far ?_ NB308_310.out _;(with_reducible repeat (first | refine blk_drewN ?_ _ | refine blk_drew ?_ | refine blk_alloc ?_ _));refine blk_far ?_ NB308_310.out _;(with_reducible repeat (first | refine blk_drewN ?_ _ | refine blk_drew ?_ | refine blk_alloc ?_ _));refine blk_far ?_ NB308_310.out _;(with_reducible repeat (first | refine blk_drewN ?_ _ | refine blk_drew ?_ | refine blk_alloc ?_ _));refine blk_far ?_ NB308_310.out _;(with_reducible repeat (first | refine blk_drewN ?_ _ | refine blk_drew ?_ | refine blk_alloc ?_ _));refine blk_far ?_ NB308_310.out _;(with_reducible repeat (first | refine blk_drewN ?_ _ | refine blk_drew ?_ | refine blk_alloc ?_ _));exact BK308.out⟩
     have n1_:Aside0 ((((((w10.setCell ⟨gb310,0,none⟩ (.int .i64 ((rd_T56 l1 x5_1).f0))).setCell ⟨gb310,1,none⟩ (.int .i64 ((rd_T56 l1 x5_1).f1))).setCell ⟨gb310,2,none⟩ (.float .f64 ((rd_T56 l1 x5_1).f2))).setCell ⟨gb310,3,none⟩ (.float .f64 ((rd_T56 l1 x5_1).f3))).setCell ⟨gb310,4,none⟩ (.int .i64 ((rd_T56 l1 x5_1).f4))).heap[gb310]? = some (.cells #[.int .i64 ((rd_T56 l1 x5_1).f0),.int .i64 ((rd_T56 l1 x5_1).f1),.float .f64 ((rd_T56 l1 x5_1).f2),.float .f64 ((rd_T56 l1 x5_1).f3),.int .i64 ((rd_T56 l1 x5_1).f4)] 56 (0,0))):=⟨by (with_reducible repeat (first | refine blk_drewN ?_ _ | refine blk_drew ?_ | refine blk_alloc ?_ _));refine blk_put (cs:=#[.int .i64 ((rd_T56 l1 x5_1).f0),.int .i64 ((rd_T56 l1 x5_1).f1),.float .f64 ((rd_T56 l1 x5_1).f2),.float .f64 ((rd_T56 l1 x5_1).f3),.int .i64 0]) ?_ 4 _ rfl;(with_reducible repeat (first | refine blk_drewN ?_ _ | refine blk_drew ?_ | refine blk_alloc ?_ _));refine blk_put (cs:=#[.int .i64 ((rd_T56 l1 x5_1).f0),.int .i64 ((rd_T56 l1 x5_1).f1),.float .f64 ((rd_T56 l1 x5_1).f2),.float .f64 0,.int .i64 0]) ?_ 3 _ rfl;(with_reducible repeat (first | refine blk_drewN ?_ _ | refine blk_drew ?_ | refine blk_alloc ?_ _));refine blk_put (cs:=#[.int .i64 ((rd_T56 l1 x5_1).f0),.int .i64 ((rd_T56 l1 x5_1).f1),.float .f64 0,.float .f64 0,.int .i64 0]) ?_ 2 _ rfl;(with_reducible repeat (first | refine blk_drewN ?_ _ | refine blk_drew ?_ | refine blk_alloc ?_ _));refine blk_put (cs:=#[.int .i64 ((rd_T56 l1 x5_1).f0),.int .i64 0,.float .f64 0,.float .f64 0,.int .i64 0]) ?_ 1 _ rfl;(with_reducible repeat (first | refine blk_drewN ?_ _ | refine blk_drew ?_ | refine blk_alloc ?_ _));refine blk_put (cs:=#[.int .i64 0,.int .i64 0,.float .f64 0,.float .f64 0,.int .i64 0]) ?_ 0 _ rfl;(with_reducible repeat (first | refine blk_drewN ?_ _ | refine blk_drew ?_ | refine blk_alloc ?_ _));exact BK310.out⟩
     have n2_:Aside0 (Below w.heap.size w (((((w10.setCell ⟨gb310,0,none⟩ (.int .i64 ((rd_T56 l1 x5_1).f0))).setCell ⟨gb310,1,none⟩ (.int .i64 ((rd_T56 l1 x5_1).f1))).setCell ⟨gb310,2,none⟩ (.float .f64 ((rd_T56 l1 x5_1).f2))).setCell ⟨gb310,3,none⟩ (.float .f64 ((rd_T56 l1 x5_1).f3))).setCell ⟨gb310,4,none⟩ (.int .i64 ((rd_T56 l1 x5_1).f4)))):=⟨by repeat (first | (with_reducible first | exact HB.out | apply below_alloc | apply pw_below_drewN | apply below_drew1 | refine below_set ?_ GE308.out | refine below_set ?_ GE310.out) | exact HB.out)⟩
     (try clear BK308)
     (try clear BK310)
     (try clear HB)
     generalize (((((w10.setCell ⟨gb310,0,none⟩ (.int .i64 ((rd_T56 l1 x5_1).f0))).setCell ⟨gb310,1,none⟩ (.int .i64 ((rd_T56 l1 x5_1).f1))).setCell ⟨gb310,2,none⟩ (.float .f64 ((rd_T56 l1 x5_1).f2))).setCell ⟨gb310,3,none⟩ (.float .f64 ((rd_T56 l1 x5_1).f3))).setCell ⟨gb310,4,none⟩ (.int .i64 ((rd_T56 l1 x5_1).f4))) = w17 at n0_ n1_ n2_ ⊢
     have BK308:=n0_
     have BK310:=n1_
     have HB:=n2_
     clear n0_ n1_ n2_
     have n0_:=Aside0.mk (blk_drew BK308.out)
     have n1_:=Aside0.mk (blk_drew BK310.out)
     have n2_:=Aside0.mk (below_drew1 HB.out)
     clear BK308
     clear BK310
     clear HB
     have BK308:=n0_
     have BK310:=n1_
     have HB:=n2_
     clear n0_ n1_ n2_
     refine start_ (n:=37) (S:=fun w' => w'.cell? ⟨gb308,0,none⟩ = some (.int .i64 ((rd_T56 l0 x5_1).f0)) ∧ w'.cell? ⟨gb308,1,none⟩ = some (.int .i64 ((rd_T56 l0 x5_1).f1)) ∧ w'.cell? ⟨gb308,2,none⟩ = some (.float .f64 ((rd_T56 l0 x5_1).f2)) ∧ w'.cell? ⟨gb308,3,none⟩ = some (.float .f64 ((rd_T56 l0 x5_1).f3)) ∧ w'.cell? ⟨gb308,4,none⟩ = some (.int .i64 ((rd_T56 l0 x5_1).f4)) ∧ w'.cell? ⟨gb310,0,none⟩ = some (.int .i64 ((rd_T56 l1 x5_1).f0)) ∧ w'.cell? ⟨gb310,1,none⟩ = some (.int .i64 ((rd_T56 l1 x5_1).f1)) ∧ w'.cell? ⟨gb310,2,none⟩ = some (.float .f64 ((rd_T56 l1 x5_1).f2)) ∧ w'.cell? ⟨gb310,3,none⟩ = some (.float .f64 ((rd_T56 l1 x5_1).f3)) ∧ w'.cell? ⟨gb310,4,none⟩ = some (.int .i64 ((rd_T56 l1 x5_1).f4))) (ds:=[]) #[false,false,false,false,false,false,false,false,false,false,false,false,false,false,false,false,false,false,false,false,false,false,false,false,false,false,false,false,false,false,false,false,false,false,false,false,false] (by kernel_rfl) rfl rfl ⟨(blk_cell BK308.out 0).trans rfl,(blk_cell BK308.out 1).trans rfl,(blk_cell BK308.out 2).trans rfl,(blk_cell BK308.out 3).trans rfl,(blk_cell BK308.out 4).trans rfl,(blk_cell BK310.out 0).trans rfl,(blk_cell BK310.out 1).trans rfl,(blk_cell BK310.out 2).trans rfl,(blk_cell BK310.out 3).trans rfl,(blk_cell BK310.out 4).trans rfl⟩ (fun hHeld => ?_);refine with_tabW beaconref06_SameNews.tab8 beaconref06_SameNews.bits8 (fun HT_ HW_ => ?_)
     generalize w17.drew = w18 at BK308 BK310 HB hHeld ⊢
     refine manyW_ (fuel:=0) (a':=?_) ((0,0) :: (2,0) :: (1,2) :: (3,2) :: (4,0) :: (5,0) :: (6,0) :: (8,0) :: (7,2) :: (9,2) :: (10,0) :: (11,0) :: (12,0) :: (13,0) :: (15,0) :: (14,2) :: (16,2) :: (17,0) :: (18,0) :: (19,0) :: (20,0) :: (23,0) :: (21,2) :: (22,0) :: (24,2) :: (25,0) :: (26,0) :: (27,0) :: (28,0) :: (29,0) :: (32,0) :: (30,2) :: (31,0) :: (33,2) :: (34,0) :: (35,0) :: (36,0) :: []) #[true,true,true,true,true,true,true,true,true,true,true,true,true,true,true,true,true,true,true,true,true,true,true,true,true,true,true,true,true,true,true,true,true,true,true,true,true] rfl HT_ HW_ (by kernel_rfl) (fun _ _ _ _ _ h => h) (fun _ => hHeld) ?_ ?_
     rotate_left
     ·repeat (first | exact Chain.nil _ | (apply Chain.on;rfl;rfl;(focus intro w';go_simp;with_reducible rfl);(focus simp only [Act.put,List.setIfInBounds_toArray,List.set_cons_zero,List.set_cons_succ,i64_w,i32_w];rfl)) | (apply Chain.take;rfl;rfl;(focus rintro w' ⟨s0,s1,s2,s3,s4,s5,s6,s7,s8,s9⟩;go_simp;with_reducible rfl);(focus simp only [Act.put,List.setIfInBounds_toArray,List.set_cons_zero,List.set_cons_succ,i64_w,i32_w];rfl)))
     refine done_ (done_of HT_.out (by kernel_rfl)) ?_
     try go_wp2
     go_meet
     case rel => exact ⟨_,(((((rd_T56 l0 x5_1).f3):Int) != (((rd_T56 l1 x5_1).f3):Int))),(by first | rfl | (simp;done) | (simp [*];done)),H',⟨by have:=HK1.out;first | omega | exact Nat.le_refl _⟩,⟨by (with_reducible repeat (first | refine blk_drewN ?_ _ | refine blk_drew ?_ | refine blk_alloc ?_ _));exact BK308.out⟩,⟨by (with_reducible repeat (first | refine blk_drewN ?_ _ | refine blk_drew ?_ | refine blk_alloc ?_ _));exact BK310.out⟩,⟨by repeat (first | (with_reducible first | exact HB.out | apply below_alloc | apply pw_below_drewN | apply below_drew1 | refine below_set ?_ GE308.out | refine below_set ?_ GE310.out) | exact HB.out)⟩⟩
    rw [if_neg c16] at H
    have c16b0:((((rd_T56 l0 x5_1).f2):Int) == (((rd_T56 l1 x5_1).f2):Int)) = false:=beq_eq_false_iff_ne.mpr c16
    have c16b1:((((rd_T56 l0 x5_1).f2):Int) != (((rd_T56 l1 x5_1).f2):Int)) = true:=bne_iff_ne.mpr c16
    have H':=Aside0.mk H
    clear H
    try go_wp2
    have n0_:Aside0 ((((((w10.setCell ⟨gb310,0,none⟩ (.int .i64 ((rd_T56 l1 x5_1).f0))).setCell ⟨gb310,1,none⟩ (.int .i64 ((rd_T56 l1 x5_1).f1))).setCell ⟨gb310,2,none⟩ (.float .f64 ((rd_T56 l1 x5_1).f2))).setCell ⟨gb310,3,none⟩ (.float .f64 ((rd_T56 l1 x5_1).f3))).setCell ⟨gb310,4,none⟩ (.int .i64 ((rd_T56 l1 x5_1).f4))).heap[gb308]? = some (.cells #[.int .i64 ((rd_T56 l0 x5_1).f0),.int .i64 ((rd_T56 l0 x5_1).f1),.float .f64 ((rd_T56 l0 x5_1).f2),.float .f64 ((rd_T56 l0 x5_1).f3),.int .i64 ((rd_T56 l0 x5_1).f4)] 56 (0,0))):=⟨by (with_reducible repeat (first | refine blk_drewN ?_ _ | refine blk_drew ?_ | refine blk_alloc ?_ _));refine blk_far ?_ NB308_310.out _;(with_reducible repeat (first | refine blk_drewN ?_ _ | refine blk_drew ?_ | refine blk_alloc ?_ _));refine blk_far ?_ NB308_310.out _;(with_reducible repeat (first | refine blk_drewN ?_ _ | refine blk_drew ?_ | refine blk_alloc ?_ _));refine blk_far ?_ NB308_310.out _;(with_reducible repeat (first | refine blk_drewN ?_ _ | refine blk_drew ?_ | refine blk_alloc ?_ _));refine blk_far ?_ NB308_310.out _;(with_reducible repeat (first | refine blk_drewN ?_ _ | refine blk_drew ?_ | refine blk_alloc ?_ _));refine blk_far ?_ NB308_310.out _;(with_reducible repeat (first | refine blk_drewN ?_ _ | refine blk_drew ?_ | refine blk_alloc ?_ _));exact BK308.out⟩
    have n1_:Aside0 ((((((w10.setCell ⟨gb310,0,none⟩ (.int .i64 ((rd_T56 l1 x5_1).f0))).setCell ⟨gb310,1,none⟩ (.int .i64 ((rd_T56 l1 x5_1).f1))).setCell ⟨gb310,2,none⟩ (.float .f64 ((rd_T56 l1 x5_1).f2))).setCell ⟨gb310,3,none⟩ (.float .f64 ((rd_T56 l1 x5_1).f3))).setCell ⟨gb310,4,none⟩ (.int .i64 ((rd_T56 l1 x5_1).f4))).heap[gb310]? = some (.cells #[.int .i64 ((rd_T56 l1 x5_1).f0),.int .i64 ((rd_T56 l1 x5_1).f1),.float .f64 ((rd_T56 l1 x5_1).f2),.float .f64 ((rd_T56 l1 x5_1).f3),.int .i64 ((rd_T56 l1 x5_1).f4)] 56 (0,0))):=⟨by (with_reducible repeat (first | refine blk_drewN ?_ _ | refine blk_drew ?_ | refine blk_alloc ?_ _));refine blk_put (cs:=#[.int .i64 ((rd_T56 l1 x5_1).f0),.int .i64 ((rd_T56 l1 x5_1).f1),.float .f64 ((rd_T56 l1 x5_1).f2),.float .f64 ((rd_T56 l1 x5_1).f3),.int .i64 0]) ?_ 4 _ rfl;(with_reducible repeat (first | refine blk_drewN ?_ _ | refine blk_drew ?_ | refine blk_alloc ?_ _));refine blk_put (cs:=#[.int .i64 ((rd_T56 l1 x5_1).f0),.int .i64 ((rd_T56 l1 x5_1).f1),.float .f64 ((rd_T56 l1 x5_1).f2),.float .f64 0,.int .i64 0]) ?_ 3 _ rfl;(with_reducible repeat (first | refine blk_drewN ?_ _ | refine blk_drew ?_ | refine blk_alloc ?_ _));refine blk_put (cs:=#[.int .i64 ((rd_T56 l1 x5_1).f0),.int .i64 ((rd_T56 l1 x5_1).f1),.float .f64 0,.float .f64 0,.int .i64 0]) ?_ 2 _ rfl;(with_reducible repeat (first | refine blk_drewN ?_ _ | refine blk_drew ?_ | refine blk_alloc ?_ _));refine blk_put (cs:=#[.int .i64 ((rd_T56 l1 x5_1).f0),.int .i64 0,.float .f64 0,.float .f64 0,.int .i64 0]) ?_ 1 _ rfl;(with_reducible repeat (first | refine blk_drewN ?_ _ | refine blk_drew ?_ | refine blk_alloc ?_ _));refine blk_put (cs:=#[.int .i64 0,.int .i64 0,.float .f64 0,.float .f64 0,.int .i64 0]) ?_ 0 _ rfl;(with_reducible repeat (first | refine blk_drewN ?_ _ | refine blk_drew ?_ | refine blk_alloc ?_ _));exact BK310.out⟩
    have n2_:Aside0 (Below w.heap.size w (((((w10.setCell ⟨gb310,0,none⟩ (.int .i64 ((rd_T56 l1 x5_1).f0))).setCell ⟨gb310,1,none⟩ (.int .i64 ((rd_T56 l1 x5_1).f1))).setCell ⟨gb310,2,none⟩ (.float .f64 ((rd_T56 l1 x5_1).f2))).setCell ⟨gb310,3,none⟩ (.float .f64 ((rd_T56 l1 x5_1).f3))).setCell ⟨gb310,4,none⟩ (.int .i64 ((rd_T56 l1 x5_1).f4)))):=⟨by repeat (first | (with_reducible first | exact HB.out | apply below_alloc | apply pw_below_drewN | apply below_drew1 | refine below_set ?_ GE308.out | refine below_set ?_ GE310.out) | exact HB.out)⟩
    (try clear BK308)
    (try clear BK310)
    (try clear HB)
    generalize (((((w10.setCell ⟨gb310,0,none⟩ (.int .i64 ((rd_T56 l1 x5_1).f0))).setCell ⟨gb310,1,none⟩ (.int .i64 ((rd_T56 l1 x5_1).f1))).setCell ⟨gb310,2,none⟩ (.float .f64 ((rd_T56 l1 x5_1).f2))).setCell ⟨gb310,3,none⟩ (.float .f64 ((rd_T56 l1 x5_1).f3))).setCell ⟨gb310,4,none⟩ (.int .i64 ((rd_T56 l1 x5_1).f4))) = w19 at n0_ n1_ n2_ ⊢
    have BK308:=n0_
    have BK310:=n1_
    have HB:=n2_
    clear n0_ n1_ n2_
    have n0_:=Aside0.mk (blk_drew BK308.out)
    have n1_:=Aside0.mk (blk_drew BK310.out)
    have n2_:=Aside0.mk (below_drew1 HB.out)
    clear BK308
    clear BK310
    clear HB
    have BK308:=n0_
    have BK310:=n1_
    have HB:=n2_
    clear n0_ n1_ n2_
    refine start_ (n:=37) (S:=fun w' => w'.cell? ⟨gb308,0,none⟩ = some (.int .i64 ((rd_T56 l0 x5_1).f0)) ∧ w'.cell? ⟨gb308,1,none⟩ = some (.int .i64 ((rd_T56 l0 x5_1).f1)) ∧ w'.cell? ⟨gb308,2,none⟩ = some (.float .f64 ((rd_T56 l0 x5_1).f2)) ∧ w'.cell? ⟨gb308,3,none⟩ = some (.float .f64 ((rd_T56 l0 x5_1).f3)) ∧ w'.cell? ⟨gb308,4,none⟩ = some (.int .i64 ((rd_T56 l0 x5_1).f4)) ∧ w'.cell? ⟨gb310,0,none⟩ = some (.int .i64 ((rd_T56 l1 x5_1).f0)) ∧ w'.cell? ⟨gb310,1,none⟩ = some (.int .i64 ((rd_T56 l1 x5_1).f1)) ∧ w'.cell? ⟨gb310,2,none⟩ = some (.float .f64 ((rd_T56 l1 x5_1).f2)) ∧ w'.cell? ⟨gb310,3,none⟩ = some (.float .f64 ((rd_T56 l1 x5_1).f3)) ∧ w'.cell? ⟨gb310,4,none⟩ = some (.int .i64 ((rd_T56 l1 x5_1).f4))) (ds:=[]) #[false,false,false,false,false,false,false,false,false,false,false,false,false,false,false,false,false,false,false,false,false,false,false,false,false,false,false,false,false,false,false,false,false,false,false,false,false] (by kernel_rfl) rfl rfl ⟨(blk_cell BK308.out 0).trans rfl,(blk_cell BK308.out 1).trans rfl,(blk_cell BK308.out 2).trans rfl,(blk_cell BK308.out 3).trans rfl,(blk_cell BK308.out 4).trans rfl,(blk_cell BK310.out 0).trans rfl,(blk_cell BK310.out 1).trans rfl,(blk_cell BK310.out 2).trans rfl,(blk_cell BK310.out 3).trans rfl,(blk_cell BK310.out 4).trans rfl⟩ (fun hHeld => ?_);refine with_tabW beaconref06_SameNews.tab8 beaconref06_SameNews.bits8 (fun HT_ HW_ => ?_)
    generalize w19.drew = w20 at BK308 BK310 HB hHeld ⊢
    refine manyW_ (fuel:=0) (a':=?_) ((0,0) :: (2,0) :: (1,2) :: (3,2) :: (4,0) :: (5,0) :: (6,0) :: (8,0) :: (7,2) :: (9,2) :: (10,0) :: (11,0) :: (12,0) :: (13,0) :: (15,0) :: (14,2) :: (16,2) :: (17,0) :: (18,0) :: (19,0) :: (20,0) :: (23,0) :: (21,2) :: (22,0) :: (24,2) :: (25,0) :: (26,0) :: (27,0) :: (28,0) :: (29,1) :: (30,1) :: (31,1) :: (32,1) :: (33,1) :: (34,1) :: (35,1) :: (36,0) :: []) #[true,true,true,true,true,true,true,true,true,true,true,true,true,true,true,true,true,true,true,true,true,true,true,true,true,true,true,true,true,true,true,true,true,true,true,true,true] rfl HT_ HW_ (by kernel_rfl) (fun _ _ _ _ _ h => h) (fun _ => hHeld) ?_ ?_
    rotate_left
    ·repeat (first | exact Chain.nil _ | (apply Chain.on;rfl;rfl;(focus intro w';go_simp;with_reducible rfl);(focus simp only [Act.put,List.setIfInBounds_toArray,List.set_cons_zero,List.set_cons_succ,i64_w,i32_w];rfl)) | (apply Chain.take;rfl;rfl;(focus rintro w' ⟨s0,s1,s2,s3,s4,s5,s6,s7,s8,s9⟩;go_simp;with_reducible rfl);(focus simp only [Act.put,List.setIfInBounds_toArray,List.set_cons_zero,List.set_cons_succ,i64_w,i32_w];rfl)) | (apply Chain.off;rfl;rfl;(focus simp only [Act.put,List.setIfInBounds_toArray,List.set_cons_zero,List.set_cons_succ,i64_w,i32_w];rfl)))
    refine done_ (done_of HT_.out (by kernel_rfl)) ?_
    try go_wp2
    go_meet
    case rel => exact ⟨_,(true),(by first | rfl | (simp;done) | (simp [*];done)),H',⟨by have:=HK1.out;first | omega | exact Nat.le_refl _⟩,⟨by (with_reducible repeat (first | refine blk_drewN ?_ _ | refine blk_drew ?_ | refine blk_alloc ?_ _));exact BK308.out⟩,⟨by (with_reducible repeat (first | refine blk_drewN ?_ _ | refine blk_drew ?_ | refine blk_alloc ?_ _));exact BK310.out⟩,⟨by repeat (first | (with_reducible first | exact HB.out | apply below_alloc | apply pw_below_drewN | apply below_drew1 | refine below_set ?_ GE308.out | refine below_set ?_ GE310.out) | exact HB.out)⟩⟩
   case rest =>
    clear HC7
    obtain ⟨kq,x63_6,rfl,HA,HJ6,BK308,BK310,HB⟩:=hcut
    cases kq with
    | zero => exact absurd HA.out (by simp [beaconref06_SameNews.j1])
    | succ kj6 =>
     have H:=HA.out
     clear HA
     simp only [beaconref06_SameNews.j1] at H
     by_cases c27:x63_6 = true
     ·subst c27
      have H1:(some false) = some r:=by rw [if_pos rfl] at H;exact H
      clear H
      have H:=H1
      clear H1
      obtain rfl:=Option.some.inj H
      go_wp2
      go_ret
      exact ⟨by first | rfl | (simp [errW_none,errW_some] <;> rfl) | (simp [*,errW_none,errW_some] <;> rfl),by repeat (first | (with_reducible first | exact HB.out | apply below_alloc | apply pw_below_drewN | apply below_drew1 | refine below_set ?_ GE308.out | refine below_set ?_ GE310.out) | exact HB.out)⟩
     replace c27:=Bool.eq_false_iff.mpr c27
     subst c27
     have H1:(beaconref06_SameNews.l0 kj6 l0 l1 (wrap64 (x5_1 + 1))) = some r:=by rw [if_neg (show ¬ (false = true) by decide)] at H;exact H
     clear H
     have H:=H1
     clear H1
     have H':=Aside0.mk H
     clear H
     go_wp2
     go_roundg kj6
     case measure => have:=HK1.out;have:=HJ6.out;omega
     case rel => exact ⟨(wrap64 (x5_1 + 1)),(by first | rfl | (simp;done) | (simp [*];done)),H',⟨by have:=HK1.out;have:=HJ6.out;omega⟩,⟨by repeat (first | (with_reducible first | exact HB.out | apply below_alloc | apply pw_below_drewN | apply below_drew1 | refine below_set ?_ GE308.out | refine below_set ?_ GE310.out) | exact HB.out)⟩⟩
end Go.Proofs.Ytjcnmpkaiopihaa.PA
