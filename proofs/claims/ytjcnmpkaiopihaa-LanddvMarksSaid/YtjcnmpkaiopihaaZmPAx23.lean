/- Printed by a program of this session (wip/tools/patch_print.py and pr.py, over the kit's print): each Go function as a plain Lean function, and that the Go code comes to just its answers. Conditions: those that each theorem names. -/
import Derived.Test.YtjcnmpkaiopihaaZmMn
import Derived.Test.YtjcnmpkaiopihaaZmPAx0
import Derived.Test.YtjcnmpkaiopihaaZmPAx19
import Derived.Test.YtjcnmpkaiopihaaZmPAx20
namespace Go.Proofs.Ytjcnmpkaiopihaa.PA
open Go.RowKit Go.Proofs.YtjcnmpkaiopihaaW.PrintWords Go.Proofs.YtjcnmpkaiopihaaW.PrintLast Go.Proofs.YtjcnmpkaiopihaaW.PrintMore
attribute [local go_sem] max2_int min2_int max_two min_two max_three min_three max_four min_four
set_option linter.unusedVariables false
set_option linter.unusedSimpArgs false
mutual
def message_Check.j3:Nat → Bool → Option (Int)
 | 0,_ => none
 | k + 1,x3 => if x3 = true then (some 0) else (some 60)
def message_Check.j0:Nat → Bool → Int → Bool → Int → Int → Int → Int → List (S56) → Int → Int → Int → Int → Int → Int → Int → Int → ByteArray → Int → Int → ByteArray → Option (Int)
 | 0,_,_,_,_,_,_,_,_,_,_,_,_,_,_,_,_,_,_,_,_ => none
 | k + 1,x3,x7,x29,x366000,x366001,x366002,x366003,x366004,x366005,x366006,x366007,x366008,x366009,x366010,x366011,x366012,x366013,x366014,x366015,x366016 => if x29 = true then (if x366001 > 0 then (if x366002 > 0 then (if x366003 > 0 then ((message_none.f x366005 x366006 x366007 x366008 x366009 x366010 x366011 x366012 x366013 x366014 x366015 x366016).bind fun t367 => (if t367 = true then (if (x366004.length:Int) ≤ 512 then (if x366000 = 2 then (message_Check.j1 k true x366000 x366001 x366002 x366003 x366004 x366005 x366006 x366007 x366008 x366009 x366010 x366011 x366012 x366013 x366014 x366015 x366016) else (none)) else (none)) else (none))) else (none)) else (none)) else (none)) else (none)
def message_Check.j1:Nat → Bool → Int → Int → Int → Int → List (S56) → Int → Int → Int → Int → Int → Int → Int → Int → ByteArray → Int → Int → ByteArray → Option (Int)
 | 0,_,_,_,_,_,_,_,_,_,_,_,_,_,_,_,_,_,_ => none
 | k + 1,x3,x366000,x366001,x366002,x366003,x366004,x366005,x366006,x366007,x366008,x366009,x366010,x366011,x366012,x366013,x366014,x366015,x366016 => message_Check.l0 k x3 x366004 (x366004.length:Int) 0 x366000 x366001 x366002 x366003 x366004 x366005 x366006 x366007 x366008 x366009 x366010 x366011 x366012 x366013 x366014 x366015 x366016
def message_Check.l0:Nat → Bool → List (S56) → Int → Int → Int → Int → Int → Int → List (S56) → Int → Int → Int → Int → Int → Int → Int → Int → ByteArray → Int → Int → ByteArray → Option (Int)
 | 0,_,_,_,_,_,_,_,_,_,_,_,_,_,_,_,_,_,_,_,_,_ => none
 | k + 1,x3,x68,x69,x70,x366000,x366001,x366002,x366003,x366004,x366005,x366006,x366007,x366008,x366009,x366010,x366011,x366012,x366013,x366014,x366015,x366016 => if x70 < x69 then (if 0 ≤ x70 then (if x70 < (x68.length:Int) then (if x3 = true then ((message_news.f k ((rd_T56 x68 x70).f0) ((rd_T56 x68 x70).f1) ((rd_T56 x68 x70).f2) ((rd_T56 x68 x70).f3) ((rd_T56 x68 x70).f4)).bind fun t370 => (if t370 = true then (if x70 = 0 then (message_Check.l0 k true x68 x69 (wrap64 (x70 + 1)) x366000 x366001 x366002 x366003 x366004 x366005 x366006 x366007 x366008 x366009 x366010 x366011 x366012 x366013 x366014 x366015 x366016) else (if 0 ≤ (wrap64 (x70 - 1)) then (if (wrap64 (x70 - 1)) < (x366004.length:Int) then ((message_ahead.f ((rd_T56 x366004 (wrap64 (x70 - 1))).f0) ((rd_T56 x366004 (wrap64 (x70 - 1))).f1) ((rd_T56 x366004 (wrap64 (x70 - 1))).f2) ((rd_T56 x366004 (wrap64 (x70 - 1))).f3) ((rd_T56 x366004 (wrap64 (x70 - 1))).f4) ((rd_T56 x68 x70).f0) ((rd_T56 x68 x70).f1) ((rd_T56 x68 x70).f2) ((rd_T56 x68 x70).f3) ((rd_T56 x68 x70).f4)).bind fun t372 => (message_Check.l0 k t372 x68 x69 (wrap64 (x70 + 1)) x366000 x366001 x366002 x366003 x366004 x366005 x366006 x366007 x366008 x366009 x366010 x366011 x366012 x366013 x366014 x366015 x366016)) else (none)) else (none))) else (message_Check.l0 k false x68 x69 (wrap64 (x70 + 1)) x366000 x366001 x366002 x366003 x366004 x366005 x366006 x366007 x366008 x366009 x366010 x366011 x366012 x366013 x366014 x366015 x366016))) else (message_Check.l0 k false x68 x69 (wrap64 (x70 + 1)) x366000 x366001 x366002 x366003 x366004 x366005 x366006 x366007 x366008 x366009 x366010 x366011 x366012 x366013 x366014 x366015 x366016)) else (none)) else (none)) else (message_Check.j3 k x3)
end
def message_Check.f (k:Nat) (a0_0:Int) (a0_1:Int) (a0_2:Int) (a0_3:Int) (l0_4:List (S56)) (a0_5:Int) (a0_6:Int) (a0_7:Int) (a0_8:Int) (a0_9:Int) (a0_10:Int) (a0_11:Int) (a0_12:Int) (a0_13:ByteArray) (a0_14:Int) (a0_15:Int) (a0_16:ByteArray):Option (Int):=if a0_0 = 1 then (none) else (if a0_0 = 2 then (message_Check.j0 k false a0_0 (a0_0 == 2) a0_0 a0_1 a0_2 a0_3 l0_4 a0_5 a0_6 a0_7 a0_8 a0_9 a0_10 a0_11 a0_12 a0_13 a0_14 a0_15 a0_16) else (none))
def message_Check.T11:Bool × List (List Nat × List Nat):=(true,[([],[]),([0],[0]),([1],[1]),([2,1,1],[1,2]),([1,3],[1,3]),([4,3],[4]),([5],[5]),([6,5],[5,6]),([7,5,5],[5,7]),([8],[8]),([9,8],[8,9]),([8],[8]),([11,8],[8,11]),([10,12,8],[8,10,12]),([13,8],[8,13]),([8],[8]),([14,15,8,8],[8,14,15]),([8,16,5],[5,8,16]),([5,17],[5,17]),([18,16,0,1,2,3,4,5,6,7,8,9,10,11,12,13,14,15,16,17,18],[0,18])])
def message_Check.B11:List Nat:=[0,1,3,7,15,31,63,127,255,511,1023,511,2559,8191,16383,511,65535,131071,262143,524287]
theorem message_Check.tab11:rtab .any (opsOf Try.f109 11) = message_Check.T11:=by kernel_rfl
theorem message_Check.bits11:waitsOk message_Check.T11.2 message_Check.B11 = true:=by kernel_rfl
set_option maxHeartbeats 8000000 in
set_option maxRecDepth 100000 in
theorem message_Check.calls (k:Nat) (a0_0:Int) (a0_1:Int) (a0_2:Int) (a0_3:Int) (A0_4:Option Addr) (c0_4:Nat) (l0_4:List (S56)) (a0_5:Int) (a0_6:Int) (a0_7:Int) (a0_8:Int) (a0_9:Int) (a0_10:Int) (a0_11:Int) (a0_12:Int) (a0_13:ByteArray) (a0_14:Int) (a0_15:Int) (a0_16:ByteArray) (r:Int) (w:World) (hr0_4:Kd.C k56 w A0_4 l0_4.length l0_4) (hc0_4:l0_4.length ≤ c0_4) (h:message_Check.f k a0_0 a0_1 a0_2 a0_3 l0_4 a0_5 a0_6 a0_7 a0_8 a0_9 a0_10 a0_11 a0_12 a0_13 a0_14 a0_15 a0_16 = some r) :
  Calls Try.prog 109 #[.agg #[.int .i64 a0_0,.int .u64 a0_1,.int .u64 a0_2,.int .u64 a0_3,.slice A0_4 l0_4.length c0_4,.int .i64 a0_5,.int .i64 a0_6,.int .i64 a0_7,.int .i64 a0_8,.int .i64 a0_9,.int .i64 a0_10,.int .u64 a0_11,.int .i64 a0_12,.string a0_13,.int .i64 a0_14,.int .i64 a0_15,.string a0_16]] w fun e w' => e = .returned (.int .i64 r) ∧ Below w.heap.size w w':=by
 have hu118:=Try.underlying118
 have hu116:=Try.underlying116
 have hu56:=Try.underlying56
 have HR0_4:=Aside0.mk hr0_4
 have HC0_4:=Aside0.mk hc0_4
 clear hr0_4 hc0_4
 have HB:=Aside0.mk (Below.refl w.heap.size w)
 have H:(if a0_0 = 1 then (none) else (if a0_0 = 2 then (message_Check.j0 k false a0_0 (a0_0 == 2) a0_0 a0_1 a0_2 a0_3 l0_4 a0_5 a0_6 a0_7 a0_8 a0_9 a0_10 a0_11 a0_12 a0_13 a0_14 a0_15 a0_16) else (none))) = some r:=h
 clear h
 have HC2:=Aside0.mk H
 clear H
 go_enter Try.func109,Try.ntmps109
 go_upto_block 0 with (first | ((with_reducible refine gate_dst (N:=1) rfl ?_);(try (refine gate_guard (by rfl) ?_;dsimp only));refine box_event ?hg (N:=1) ?hd (cs:=#[.int .i64 a0_0,.int .u64 a0_1,.int .u64 a0_2,.int .u64 a0_3,.slice A0_4 l0_4.length c0_4,.int .i64 a0_5,.int .i64 a0_6,.int .i64 a0_7,.int .i64 a0_8,.int .i64 a0_9,.int .i64 a0_10,.int .u64 a0_11,.int .i64 a0_12,.string a0_13,.int .i64 a0_14,.int .i64 a0_15,.string a0_16]) (t:=118) ?hr ?_;(case hd => rfl);(case hg => rfl);(case hr => first | (go_simp;done) | (go_simp;rfl));intro gb365 hg w3 hbox hb;have n0_:=Aside0.mk (below_step (by repeat (first | (with_reducible first | exact HB.out | apply below_alloc | apply pw_below_drewN | apply below_drew1) | exact HB.out)) hb);have n1_:=Aside0.mk (hbox);have n2_:=Aside0.mk ((by rw [hg];exact (below_size (by repeat (first | (with_reducible first | exact HB.out | apply below_alloc | apply pw_below_drewN | apply below_drew1) | exact HB.out))):w.heap.size ≤ gb365));have n3_:=Aside0.mk ((by rw [hg];exact (below_size (by repeat (first | (with_reducible first | exact HB.out | apply below_alloc | apply pw_below_drewN | apply below_drew1) | exact HB.out))):w.heap.size ≤ gb365));clear HB;have HB:=n0_;have BK365:=n1_;have GW365:=n2_;have GE365:=n3_;clear n0_ n1_ n2_ n3_;clear hb hbox hg;have hcz4_0:w3.cell? ⟨gb365,0,none⟩ = some (.int .i64 a0_0):=(blk_cell BK365.out 0).trans rfl;have hcz4_1:w3.cell? ⟨gb365,1,none⟩ = some (.int .u64 a0_1):=(blk_cell BK365.out 1).trans rfl;have hcz4_2:w3.cell? ⟨gb365,2,none⟩ = some (.int .u64 a0_2):=(blk_cell BK365.out 2).trans rfl;have hcz4_3:w3.cell? ⟨gb365,3,none⟩ = some (.int .u64 a0_3):=(blk_cell BK365.out 3).trans rfl;have hcz4_4:w3.cell? ⟨gb365,4,none⟩ = some (.slice A0_4 l0_4.length c0_4):=(blk_cell BK365.out 4).trans rfl;have hcz4_5:w3.cell? ⟨gb365,5,none⟩ = some (.int .i64 a0_5):=(blk_cell BK365.out 5).trans rfl;have hcz4_6:w3.cell? ⟨gb365,6,none⟩ = some (.int .i64 a0_6):=(blk_cell BK365.out 6).trans rfl;have hcz4_7:w3.cell? ⟨gb365,7,none⟩ = some (.int .i64 a0_7):=(blk_cell BK365.out 7).trans rfl;have hcz4_8:w3.cell? ⟨gb365,8,none⟩ = some (.int .i64 a0_8):=(blk_cell BK365.out 8).trans rfl;have hcz4_9:w3.cell? ⟨gb365,9,none⟩ = some (.int .i64 a0_9):=(blk_cell BK365.out 9).trans rfl;have hcz4_10:w3.cell? ⟨gb365,10,none⟩ = some (.int .i64 a0_10):=(blk_cell BK365.out 10).trans rfl;have hcz4_11:w3.cell? ⟨gb365,11,none⟩ = some (.int .u64 a0_11):=(blk_cell BK365.out 11).trans rfl;have hcz4_12:w3.cell? ⟨gb365,12,none⟩ = some (.int .i64 a0_12):=(blk_cell BK365.out 12).trans rfl;have hcz4_13:w3.cell? ⟨gb365,13,none⟩ = some (.string a0_13):=(blk_cell BK365.out 13).trans rfl;have hcz4_14:w3.cell? ⟨gb365,14,none⟩ = some (.int .i64 a0_14):=(blk_cell BK365.out 14).trans rfl;have hcz4_15:w3.cell? ⟨gb365,15,none⟩ = some (.int .i64 a0_15):=(blk_cell BK365.out 15).trans rfl;have hcz4_16:w3.cell? ⟨gb365,16,none⟩ = some (.string a0_16):=(blk_cell BK365.out 16).trans rfl;have hfz4_0:=blk_frozen BK365.out 0;have hfz4_1:=blk_frozen BK365.out 1;have hfz4_2:=blk_frozen BK365.out 2;have hfz4_3:=blk_frozen BK365.out 3;have hfz4_4:=blk_frozen BK365.out 4;have hfz4_5:=blk_frozen BK365.out 5;have hfz4_6:=blk_frozen BK365.out 6;have hfz4_7:=blk_frozen BK365.out 7;have hfz4_8:=blk_frozen BK365.out 8;have hfz4_9:=blk_frozen BK365.out 9;have hfz4_10:=blk_frozen BK365.out 10;have hfz4_11:=blk_frozen BK365.out 11;have hfz4_12:=blk_frozen BK365.out 12;have hfz4_13:=blk_frozen BK365.out 13;have hfz4_14:=blk_frozen BK365.out 14;have hfz4_15:=blk_frozen BK365.out 15;have hfz4_16:=blk_frozen BK365.out 16))
 (try simp only [Act.put,List.setIfInBounds_toArray,List.set_cons_zero,List.set_cons_succ])
 go_cut [3] (fun v3 wc => ∃ (kq:Nat) (x3_1:Bool),v3 = .bool x3_1 ∧ Aside0 (message_Check.j3 kq x3_1 = some r) ∧ Aside0 (kq ≤ k) ∧ Aside0 (Below w.heap.size w wc))
 case first =>
  have H:=HC2.out
  clear HC2
  by_cases c5:a0_0 = 1
  ·rw [if_pos c5] at H
   cases H
  rw [if_neg c5] at H
  have c5b0:(a0_0 == 1) = false:=beq_eq_false_iff_ne.mpr c5
  have c5b1:(a0_0 != 1) = true:=bne_iff_ne.mpr c5
  (first | rw [c5b0] | (simp only [i64_w,i32_w];rw [c5b0]) | skip)
  have HC15:=Aside0.mk H
  clear H
  go_upto_if 29 with (fail)
  go_cut [29] (fun v29 wc => ∃ (kq:Nat) (x29_14:Bool),v29 = .bool x29_14 ∧ Aside0 (message_Check.j0 kq false a0_0 x29_14 a0_0 a0_1 a0_2 a0_3 l0_4 a0_5 a0_6 a0_7 a0_8 a0_9 a0_10 a0_11 a0_12 a0_13 a0_14 a0_15 a0_16 = some r) ∧ Aside0 (kq ≤ k) ∧ Aside0 (wc.heap[gb365]? = some (.cells #[.int .i64 a0_0,.int .u64 a0_1,.int .u64 a0_2,.int .u64 a0_3,(.slice A0_4 l0_4.length c0_4),.int .i64 a0_5,.int .i64 a0_6,.int .i64 a0_7,.int .i64 a0_8,.int .i64 a0_9,.int .i64 a0_10,.int .u64 a0_11,.int .i64 a0_12,.string a0_13,.int .i64 a0_14,.int .i64 a0_15,.string a0_16] 118 (0,0))) ∧ Aside0 (Below w.heap.size w wc))
  case first =>
   have H:=HC15.out
   clear HC15
   by_cases c16:a0_0 = 2
   ·rw [if_pos c16] at H
    have c16b0:(a0_0 == 2) = true:=beq_iff_eq.mpr c16
    have c16b1:(a0_0 != 2) = false:=bne_eq_false_iff_eq.mpr c16
    clear c16
    (first | rw [c16b0] | (simp only [i64_w,i32_w];rw [c16b0]) | skip)
    have H':=Aside0.mk H
    clear H
    go_wp2
    go_meet
    case rel => exact ⟨_,((a0_0 == 2)),(by first | rfl | (simp;done) | (simp [*];done)),H',⟨by first | omega | exact Nat.le_refl _⟩,⟨by (with_reducible repeat (first | refine blk_drewN ?_ _ | refine blk_drew ?_ | refine blk_alloc ?_ _));exact BK365.out⟩,⟨by repeat (first | (with_reducible first | exact HB.out | apply below_alloc | apply pw_below_drewN | apply below_drew1 | refine below_set ?_ GE365.out) | exact HB.out)⟩⟩
   rw [if_neg c16] at H
   cases H
  case rest =>
   clear HC15
   obtain ⟨kq,x29_14,rfl,HA,HJ14,BK365,HB⟩:=hcut
   cases kq with
   | zero => exact absurd HA.out (by simp [message_Check.j0])
   | succ kj14 =>
    have H:=HA.out
    clear HA
    simp only [message_Check.j0] at H
    by_cases c17:x29_14 = true
    rotate_left
    ·rw [if_neg c17] at H
     cases H
    subst c17
    have H1:(if a0_1 > 0 then (if a0_2 > 0 then (if a0_3 > 0 then ((message_none.f a0_5 a0_6 a0_7 a0_8 a0_9 a0_10 a0_11 a0_12 a0_13 a0_14 a0_15 a0_16).bind fun t367 => (if t367 = true then (if (l0_4.length:Int) ≤ 512 then (if a0_0 = 2 then (message_Check.j1 kj14 true a0_0 a0_1 a0_2 a0_3 l0_4 a0_5 a0_6 a0_7 a0_8 a0_9 a0_10 a0_11 a0_12 a0_13 a0_14 a0_15 a0_16) else (none)) else (none)) else (none))) else (none)) else (none)) else (none)) = some r:=by rw [if_pos rfl] at H;exact H
    clear H
    have H:=H1
    clear H1
    have HC18:=Aside0.mk H
    clear H
    go_upto_region 7 with (fail)
    go_cut [3] (fun v3 wc => ∃ (kq:Nat) (x3_17:Bool),v3 = .bool x3_17 ∧ Aside0 (message_Check.j1 kq x3_17 a0_0 a0_1 a0_2 a0_3 l0_4 a0_5 a0_6 a0_7 a0_8 a0_9 a0_10 a0_11 a0_12 a0_13 a0_14 a0_15 a0_16 = some r) ∧ Aside0 (kq ≤ kj14) ∧ Aside0 (wc.heap[gb365]? = some (.cells #[.int .i64 a0_0,.int .u64 a0_1,.int .u64 a0_2,.int .u64 a0_3,(.slice A0_4 l0_4.length c0_4),.int .i64 a0_5,.int .i64 a0_6,.int .i64 a0_7,.int .i64 a0_8,.int .i64 a0_9,.int .i64 a0_10,.int .u64 a0_11,.int .i64 a0_12,.string a0_13,.int .i64 a0_14,.int .i64 a0_15,.string a0_16] 118 (0,0))) ∧ Aside0 (Below w.heap.size w wc))
    case first =>
     have H:=HC18.out
     clear HC18
     by_cases c19:a0_1 > 0
     rotate_left
     ·rw [if_neg c19] at H
      cases H
     rw [if_pos c19] at H
     have c19b0:decide (0 < a0_1) = true:=decide_eq_true c19
     clear c19
     (first | rw [c19b0] | (simp only [i64_w,i32_w];rw [c19b0]) | skip)
     by_cases c20:a0_2 > 0
     rotate_left
     ·rw [if_neg c20] at H
      cases H
     rw [if_pos c20] at H
     have c20b0:decide (0 < a0_2) = true:=decide_eq_true c20
     clear c20
     by_cases c21:a0_3 > 0
     rotate_left
     ·rw [if_neg c21] at H
      cases H
     rw [if_pos c21] at H
     have c21b0:decide (0 < a0_3) = true:=decide_eq_true c21
     clear c21
     replace H:=Option.bind_eq_some_iff.mp H
     obtain ⟨t367,A220,H⟩:=H
     replace H:(if t367 = true then (if (l0_4.length:Int) ≤ 512 then (if a0_0 = 2 then (message_Check.j1 kj14 true a0_0 a0_1 a0_2 a0_3 l0_4 a0_5 a0_6 a0_7 a0_8 a0_9 a0_10 a0_11 a0_12 a0_13 a0_14 a0_15 a0_16) else (none)) else (none)) else (none)) = some r:=H
     have A22:=Aside0.mk A220
     clear A220
     by_cases c23:t367 = true
     rotate_left
     ·rw [if_neg c23] at H
      cases H
     subst c23
     have H1:(if (l0_4.length:Int) ≤ 512 then (if a0_0 = 2 then (message_Check.j1 kj14 true a0_0 a0_1 a0_2 a0_3 l0_4 a0_5 a0_6 a0_7 a0_8 a0_9 a0_10 a0_11 a0_12 a0_13 a0_14 a0_15 a0_16) else (none)) else (none)) = some r:=by rw [if_pos rfl] at H;exact H
     clear H
     have H:=H1
     clear H1
     by_cases c24:(l0_4.length:Int) ≤ 512
     rotate_left
     ·rw [if_neg c24] at H
      cases H
     rw [if_pos c24] at H
     have c24b0:decide ((l0_4.length:Int) ≤ 512) = true:=decide_eq_true c24
     have c24b1:decide (l0_4.length ≤ 512) = true:=decide_eq_true (by omega)
     clear c24
     by_cases c25:a0_0 = 2
     rotate_left
     ·rw [if_neg c25] at H
      cases H
     rw [if_pos c25] at H
     have c25b0:(a0_0 == 2) = true:=beq_iff_eq.mpr c25
     have c25b1:(a0_0 != 2) = false:=bne_eq_false_iff_eq.mpr c25
     clear c25
     have H':=Aside0.mk H
     clear H
     have hcz26_0:wc.cell? ⟨gb365,0,none⟩ = some (.int .i64 a0_0):=(blk_cell BK365.out 0).trans rfl
     have hcz26_1:wc.cell? ⟨gb365,1,none⟩ = some (.int .u64 a0_1):=(blk_cell BK365.out 1).trans rfl
     have hcz26_2:wc.cell? ⟨gb365,2,none⟩ = some (.int .u64 a0_2):=(blk_cell BK365.out 2).trans rfl
     have hcz26_3:wc.cell? ⟨gb365,3,none⟩ = some (.int .u64 a0_3):=(blk_cell BK365.out 3).trans rfl
     have hcz26_4:wc.cell? ⟨gb365,4,none⟩ = some (.slice A0_4 l0_4.length c0_4):=(blk_cell BK365.out 4).trans rfl
     have hcz26_5:wc.cell? ⟨gb365,5,none⟩ = some (.int .i64 a0_5):=(blk_cell BK365.out 5).trans rfl
     have hcz26_6:wc.cell? ⟨gb365,6,none⟩ = some (.int .i64 a0_6):=(blk_cell BK365.out 6).trans rfl
     have hcz26_7:wc.cell? ⟨gb365,7,none⟩ = some (.int .i64 a0_7):=(blk_cell BK365.out 7).trans rfl
     have hcz26_8:wc.cell? ⟨gb365,8,none⟩ = some (.int .i64 a0_8):=(blk_cell BK365.out 8).trans rfl
     have hcz26_9:wc.cell? ⟨gb365,9,none⟩ = some (.int .i64 a0_9):=(blk_cell BK365.out 9).trans rfl
     have hcz26_10:wc.cell? ⟨gb365,10,none⟩ = some (.int .i64 a0_10):=(blk_cell BK365.out 10).trans rfl
     have hcz26_11:wc.cell? ⟨gb365,11,none⟩ = some (.int .u64 a0_11):=(blk_cell BK365.out 11).trans rfl
     have hcz26_12:wc.cell? ⟨gb365,12,none⟩ = some (.int .i64 a0_12):=(blk_cell BK365.out 12).trans rfl
     have hcz26_13:wc.cell? ⟨gb365,13,none⟩ = some (.string a0_13):=(blk_cell BK365.out 13).trans rfl
     have hcz26_14:wc.cell? ⟨gb365,14,none⟩ = some (.int .i64 a0_14):=(blk_cell BK365.out 14).trans rfl
     have hcz26_15:wc.cell? ⟨gb365,15,none⟩ = some (.int .i64 a0_15):=(blk_cell BK365.out 15).trans rfl
     have hcz26_16:wc.cell? ⟨gb365,16,none⟩ = some (.string a0_16):=(blk_cell BK365.out 16).trans rfl
     have hfz26_0:=blk_frozen BK365.out 0
     have hfz26_1:=blk_frozen BK365.out 1
     have hfz26_2:=blk_frozen BK365.out 2
     have hfz26_3:=blk_frozen BK365.out 3
     have hfz26_4:=blk_frozen BK365.out 4
     have hfz26_5:=blk_frozen BK365.out 5
     have hfz26_6:=blk_frozen BK365.out 6
     have hfz26_7:=blk_frozen BK365.out 7
     have hfz26_8:=blk_frozen BK365.out 8
     have hfz26_9:=blk_frozen BK365.out 9
     have hfz26_10:=blk_frozen BK365.out 10
     have hfz26_11:=blk_frozen BK365.out 11
     have hfz26_12:=blk_frozen BK365.out 12
     have hfz26_13:=blk_frozen BK365.out 13
     have hfz26_14:=blk_frozen BK365.out 14
     have hfz26_15:=blk_frozen BK365.out 15
     have hfz26_16:=blk_frozen BK365.out 16
     go_wp2_with (first | (go_at_call 140;(with_reducible refine (message_none.calls a0_5 a0_6 a0_7 a0_8 a0_9 a0_10 a0_11 a0_12 a0_13 a0_14 a0_15 a0_16 true _ A22.out).mono ?_);rintro e w27 ⟨rfl,hb⟩;have n0_:=Aside0.mk (blk_below (g:=gb365) (o:=.cells #[.int .i64 a0_0,.int .u64 a0_1,.int .u64 a0_2,.int .u64 a0_3,.slice A0_4 l0_4.length c0_4,.int .i64 a0_5,.int .i64 a0_6,.int .i64 a0_7,.int .i64 a0_8,.int .i64 a0_9,.int .i64 a0_10,.int .u64 a0_11,.int .i64 a0_12,.string a0_13,.int .i64 a0_14,.int .i64 a0_15,.string a0_16] 118 (0,0)) (by (with_reducible repeat (first | refine blk_drewN ?_ _ | refine blk_drew ?_ | refine blk_alloc ?_ _));exact BK365.out) hb);have n1_:=Aside0.mk (below_step (by repeat (first | (with_reducible first | exact HB.out | apply below_alloc | apply pw_below_drewN | apply below_drew1 | refine below_set ?_ GE365.out) | exact HB.out)) hb);clear BK365;clear HB;have BK365:=n0_;have HB:=n1_;clear n0_ n1_;(try clear hb);(try clear hb2);(try clear hk);(try clear hi);have hcz28_0:w27.cell? ⟨gb365,0,none⟩ = some (.int .i64 a0_0):=(blk_cell BK365.out 0).trans rfl;have hcz28_1:w27.cell? ⟨gb365,1,none⟩ = some (.int .u64 a0_1):=(blk_cell BK365.out 1).trans rfl;have hcz28_2:w27.cell? ⟨gb365,2,none⟩ = some (.int .u64 a0_2):=(blk_cell BK365.out 2).trans rfl;have hcz28_3:w27.cell? ⟨gb365,3,none⟩ = some (.int .u64 a0_3):=(blk_cell BK365.out 3).trans rfl;have hcz28_4:w27.cell? ⟨gb365,4,none⟩ = some (.slice A0_4 l0_4.length c0_4):=(blk_cell BK365.out 4).trans rfl;have hcz28_5:w27.cell? ⟨gb365,5,none⟩ = some (.int .i64 a0_5):=(blk_cell BK365.out 5).trans rfl;have hcz28_6:w27.cell? ⟨gb365,6,none⟩ = some (.int .i64 a0_6):=(blk_cell BK365.out 6).trans rfl;have hcz28_7:w27.cell? ⟨gb365,7,none⟩ = some (.int .i64 a0_7):=(blk_cell BK365.out 7).trans rfl;have hcz28_8:w27.cell? ⟨gb365,8,none⟩ = some (.int .i64 a0_8):=(blk_cell BK365.out 8).trans rfl;have hcz28_9:w27.cell? ⟨gb365,9,none⟩ = some (.int .i64 a0_9):=(blk_cell BK365.out 9).trans rfl;have hcz28_10:w27.cell? ⟨gb365,10,none⟩ = some (.int .i64 a0_10):=(blk_cell BK365.out 10).trans rfl;have hcz28_11:w27.cell? ⟨gb365,11,none⟩ = some (.int .u64 a0_11):=(blk_cell BK365.out 11).trans rfl;have hcz28_12:w27.cell? ⟨gb365,12,none⟩ = some (.int .i64 a0_12):=(blk_cell BK365.out 12).trans rfl;have hcz28_13:w27.cell? ⟨gb365,13,none⟩ = some (.string a0_13):=(blk_cell BK365.out 13).trans rfl;have hcz28_14:w27.cell? ⟨gb365,14,none⟩ = some (.int .i64 a0_14):=(blk_cell BK365.out 14).trans rfl;have hcz28_15:w27.cell? ⟨gb365,15,none⟩ = some (.int .i64 a0_15):=(blk_cell BK365.out 15).trans rfl;have hcz28_16:w27.cell? ⟨gb365,16,none⟩ = some (.string a0_16):=(blk_cell BK365.out 16).trans rfl;have hfz28_0:=blk_frozen BK365.out 0;have hfz28_1:=blk_frozen BK365.out 1;have hfz28_2:=blk_frozen BK365.out 2;have hfz28_3:=blk_frozen BK365.out 3;have hfz28_4:=blk_frozen BK365.out 4;have hfz28_5:=blk_frozen BK365.out 5;have hfz28_6:=blk_frozen BK365.out 6;have hfz28_7:=blk_frozen BK365.out 7;have hfz28_8:=blk_frozen BK365.out 8;have hfz28_9:=blk_frozen BK365.out 9;have hfz28_10:=blk_frozen BK365.out 10;have hfz28_11:=blk_frozen BK365.out 11;have hfz28_12:=blk_frozen BK365.out 12;have hfz28_13:=blk_frozen BK365.out 13;have hfz28_14:=blk_frozen BK365.out 14;have hfz28_15:=blk_frozen BK365.out 15;have hfz28_16:=blk_frozen BK365.out 16))
     go_meet
     case rel => exact ⟨_,(true),(by first | rfl | (simp;done) | (simp [*];done)),H',⟨by have:=HJ14.out;first | omega | exact Nat.le_refl _⟩,⟨by (with_reducible repeat (first | refine blk_drewN ?_ _ | refine blk_drew ?_ | refine blk_alloc ?_ _));exact BK365.out⟩,⟨by repeat (first | (with_reducible first | exact HB.out | apply below_alloc | apply pw_below_drewN | apply below_drew1 | refine below_set ?_ GE365.out) | exact HB.out)⟩⟩
    case rest =>
     clear HC18
     obtain ⟨kq,x3_17,rfl,HA,HJ17,BK365,HB⟩:=hcut
     cases kq with
     | zero => exact absurd HA.out (by simp [message_Check.j1])
     | succ kj17 =>
      have H:=HA.out
      clear HA
      simp only [message_Check.j1] at H
      have H':=Aside0.mk H
      clear H
      have hcz40_0:wc.cell? ⟨gb365,0,none⟩ = some (.int .i64 a0_0):=(blk_cell BK365.out 0).trans rfl
      have hcz40_1:wc.cell? ⟨gb365,1,none⟩ = some (.int .u64 a0_1):=(blk_cell BK365.out 1).trans rfl
      have hcz40_2:wc.cell? ⟨gb365,2,none⟩ = some (.int .u64 a0_2):=(blk_cell BK365.out 2).trans rfl
      have hcz40_3:wc.cell? ⟨gb365,3,none⟩ = some (.int .u64 a0_3):=(blk_cell BK365.out 3).trans rfl
      have hcz40_4:wc.cell? ⟨gb365,4,none⟩ = some (.slice A0_4 l0_4.length c0_4):=(blk_cell BK365.out 4).trans rfl
      have hcz40_5:wc.cell? ⟨gb365,5,none⟩ = some (.int .i64 a0_5):=(blk_cell BK365.out 5).trans rfl
      have hcz40_6:wc.cell? ⟨gb365,6,none⟩ = some (.int .i64 a0_6):=(blk_cell BK365.out 6).trans rfl
      have hcz40_7:wc.cell? ⟨gb365,7,none⟩ = some (.int .i64 a0_7):=(blk_cell BK365.out 7).trans rfl
      have hcz40_8:wc.cell? ⟨gb365,8,none⟩ = some (.int .i64 a0_8):=(blk_cell BK365.out 8).trans rfl
      have hcz40_9:wc.cell? ⟨gb365,9,none⟩ = some (.int .i64 a0_9):=(blk_cell BK365.out 9).trans rfl
      have hcz40_10:wc.cell? ⟨gb365,10,none⟩ = some (.int .i64 a0_10):=(blk_cell BK365.out 10).trans rfl
      have hcz40_11:wc.cell? ⟨gb365,11,none⟩ = some (.int .u64 a0_11):=(blk_cell BK365.out 11).trans rfl
      have hcz40_12:wc.cell? ⟨gb365,12,none⟩ = some (.int .i64 a0_12):=(blk_cell BK365.out 12).trans rfl
      have hcz40_13:wc.cell? ⟨gb365,13,none⟩ = some (.string a0_13):=(blk_cell BK365.out 13).trans rfl
      have hcz40_14:wc.cell? ⟨gb365,14,none⟩ = some (.int .i64 a0_14):=(blk_cell BK365.out 14).trans rfl
      have hcz40_15:wc.cell? ⟨gb365,15,none⟩ = some (.int .i64 a0_15):=(blk_cell BK365.out 15).trans rfl
      have hcz40_16:wc.cell? ⟨gb365,16,none⟩ = some (.string a0_16):=(blk_cell BK365.out 16).trans rfl
      have hfz40_0:=blk_frozen BK365.out 0
      have hfz40_1:=blk_frozen BK365.out 1
      have hfz40_2:=blk_frozen BK365.out 2
      have hfz40_3:=blk_frozen BK365.out 3
      have hfz40_4:=blk_frozen BK365.out 4
      have hfz40_5:=blk_frozen BK365.out 5
      have hfz40_6:=blk_frozen BK365.out 6
      have hfz40_7:=blk_frozen BK365.out 7
      have hfz40_8:=blk_frozen BK365.out 8
      have hfz40_9:=blk_frozen BK365.out 9
      have hfz40_10:=blk_frozen BK365.out 10
      have hfz40_11:=blk_frozen BK365.out 11
      have hfz40_12:=blk_frozen BK365.out 12
      have hfz40_13:=blk_frozen BK365.out 13
      have hfz40_14:=blk_frozen BK365.out 14
      have hfz40_15:=blk_frozen BK365.out 15
      have hfz40_16:=blk_frozen BK365.out 16
      go_wp2
      go_loopg [3,70] kj17 (fun kq v3 v70 w' => ∃ (x3_3:Bool) (x70_3:Int),v3 = .bool x3_3 ∧ v70 = .int .i64 x70_3 ∧ Aside0 (message_Check.l0 kq x3_3 l0_4 (l0_4.length:Int) x70_3 a0_0 a0_1 a0_2 a0_3 l0_4 a0_5 a0_6 a0_7 a0_8 a0_9 a0_10 a0_11 a0_12 a0_13 a0_14 a0_15 a0_16 = some r) ∧ Aside0 (kq ≤ kj17) ∧ Aside0 (w'.heap[gb365]? = some (.cells #[.int .i64 a0_0,.int .u64 a0_1,.int .u64 a0_2,.int .u64 a0_3,(.slice A0_4 l0_4.length c0_4),.int .i64 a0_5,.int .i64 a0_6,.int .i64 a0_7,.int .i64 a0_8,.int .i64 a0_9,.int .i64 a0_10,.int .u64 a0_11,.int .i64 a0_12,.string a0_13,.int .i64 a0_14,.int .i64 a0_15,.string a0_16] 118 (0,0))) ∧ Aside0 (Below w.heap.size w w'))
      case atStart => exact ⟨(x3_17),(0),(by first | rfl | (simp;done) | (simp [*];done)),(by first | rfl | (simp;done) | (simp [*];done)),H',⟨Nat.le_refl _⟩,⟨by (with_reducible repeat (first | refine blk_drewN ?_ _ | refine blk_drew ?_ | refine blk_alloc ?_ _));exact BK365.out⟩,⟨by repeat (first | (with_reducible first | exact HB.out | apply below_alloc | apply pw_below_drewN | apply below_drew1 | refine below_set ?_ GE365.out) | exact HB.out)⟩⟩
      case round =>
       clear H'
       obtain ⟨x3_3,x70_3,rfl,rfl,HA,HK3,BK365,HB⟩:=hrel
       cases gk with
       | zero => exact absurd HA.out (by simp [message_Check.l0])
       | succ k3 =>
        have H:=HA.out
        clear HA
        simp only [message_Check.l0] at H
        by_cases c41:x70_3 < (l0_4.length:Int)
        rotate_left
        ·rw [if_neg c41] at H
         have c41b0:decide (x70_3 < (l0_4.length:Int)) = false:=decide_eq_false c41
         clear c41
         have H':=Aside0.mk H
         clear H
         go_wp2
         go_meet
         case rel => exact ⟨_,(x3_3),(by first | rfl | (simp;done) | (simp [*];done)),H',⟨by have:=HJ14.out;have:=HJ17.out;have:=HK3.out;first | omega | exact Nat.le_refl _⟩,⟨by repeat (first | (with_reducible first | exact HB.out | apply below_alloc | apply pw_below_drewN | apply below_drew1 | refine below_set ?_ GE365.out) | exact HB.out)⟩⟩
        rw [if_pos c41] at H
        have c41b0:decide (x70_3 < (l0_4.length:Int)) = true:=decide_eq_true c41
        clear c41
        by_cases c42:0 ≤ x70_3
        rotate_left
        ·rw [if_neg c42] at H
         exact absurd H (by simp)
        rw [if_pos c42] at H
        have c42b0:decide (0 ≤ x70_3) = true:=decide_eq_true c42
        clear c42
        by_cases c43:x70_3 < (l0_4.length:Int)
        rotate_left
        ·rw [if_neg c43] at H
         exact absurd H (by simp)
        rw [if_pos c43] at H
        have c43b0:decide (x70_3 < (l0_4.length:Int)) = true:=decide_eq_true c43
        clear c43
        by_cases c44:x3_3 = true
        rotate_left
        ·replace c44:=Bool.eq_false_iff.mpr c44
         subst c44
         have H1:(message_Check.l0 k3 false l0_4 (l0_4.length:Int) (wrap64 (x70_3 + 1)) a0_0 a0_1 a0_2 a0_3 l0_4 a0_5 a0_6 a0_7 a0_8 a0_9 a0_10 a0_11 a0_12 a0_13 a0_14 a0_15 a0_16) = some r:=by rw [if_neg (show ¬ (false = true) by decide)] at H;exact H
         clear H
         have H:=H1
         clear H1
         have H':=Aside0.mk H
         clear H
         have p368:0 ≤ (x70_3:Int):=of_decide_eq_true (by first | (with_reducible assumption) | assumption)
         have q368:x70_3 < (l0_4.length:Int):=of_decide_eq_true (by first | (with_reducible assumption) | assumption)
         obtain ⟨ad368,e368,hx368_0,hx368_1,hx368_2,hx368_3,hx368_4⟩:=at_T56 HR0_4.out x70_3 p368 q368
         cases e368
         replace hx368_0:=(HB.out.cell (World.block_lt_of_cell? w _ hx368_0)).trans hx368_0
         replace hx368_1:=(HB.out.cell (World.block_lt_of_cell? w _ hx368_1)).trans hx368_1
         replace hx368_2:=(HB.out.cell (World.block_lt_of_cell? w _ hx368_2)).trans hx368_2
         replace hx368_3:=(HB.out.cell (World.block_lt_of_cell? w _ hx368_3)).trans hx368_3
         replace hx368_4:=(HB.out.cell (World.block_lt_of_cell? w _ hx368_4)).trans hx368_4
         replace p368:=eq_true p368
         replace q368:=eq_true q368
         try go_wp2_with (first | ((with_reducible refine gate_dst (N:=5) rfl ?_);(try (refine gate_guard (by rfl) ?_;dsimp only));refine box_event ?hg (N:=5) ?hd (cs:=#[.int .i64 0,.int .i64 0,.float .f64 0,.float .f64 0,.int .i64 0]) (t:=56) ?hr ?_;(case hd => rfl);(case hg => rfl);(case hr => first | (go_simp;done) | (go_simp;rfl));intro gb369 hg w71 hbox hb;have n0_:=Aside0.mk (blk_below (g:=gb365) (o:=.cells #[.int .i64 a0_0,.int .u64 a0_1,.int .u64 a0_2,.int .u64 a0_3,.slice (some ad368) l0_4.length c0_4,.int .i64 a0_5,.int .i64 a0_6,.int .i64 a0_7,.int .i64 a0_8,.int .i64 a0_9,.int .i64 a0_10,.int .u64 a0_11,.int .i64 a0_12,.string a0_13,.int .i64 a0_14,.int .i64 a0_15,.string a0_16] 118 (0,0)) (by (with_reducible repeat (first | refine blk_drewN ?_ _ | refine blk_drew ?_ | refine blk_alloc ?_ _));exact BK365.out) hb);have n1_:=Aside0.mk (below_step (by repeat (first | (with_reducible first | exact HB.out | apply below_alloc | apply pw_below_drewN | apply below_drew1 | refine below_set ?_ GE365.out) | exact HB.out)) hb);have n2_:=Aside0.mk (hbox);have n3_:=Aside0.mk ((by rw [hg];exact (below_size (by repeat (first | (with_reducible first | exact HB.out | apply below_alloc | apply pw_below_drewN | apply below_drew1 | refine below_set ?_ GE365.out) | exact HB.out))):w.heap.size ≤ gb369));have n4_:=Aside0.mk ((by rw [hg];exact (below_size (by repeat (first | (with_reducible first | exact HB.out | apply below_alloc | apply pw_below_drewN | apply below_drew1 | refine below_set ?_ GE365.out) | exact HB.out))):w.heap.size ≤ gb369));have n5_:=Aside0.mk ((by rw [hg];exact Nat.ne_of_lt (blk_lt (g:=gb365) (o:=.cells #[.int .i64 a0_0,.int .u64 a0_1,.int .u64 a0_2,.int .u64 a0_3,.slice (some ad368) l0_4.length c0_4,.int .i64 a0_5,.int .i64 a0_6,.int .i64 a0_7,.int .i64 a0_8,.int .i64 a0_9,.int .i64 a0_10,.int .u64 a0_11,.int .i64 a0_12,.string a0_13,.int .i64 a0_14,.int .i64 a0_15,.string a0_16] 118 (0,0)) (by (with_reducible repeat (first | refine blk_drewN ?_ _ | refine blk_drew ?_ | refine blk_alloc ?_ _));exact BK365.out)):gb365 ≠ gb369));have n6_:=Aside0.mk ((by rw [hg];exact Nat.ne_of_gt (blk_lt (g:=gb365) (o:=.cells #[.int .i64 a0_0,.int .u64 a0_1,.int .u64 a0_2,.int .u64 a0_3,.slice (some ad368) l0_4.length c0_4,.int .i64 a0_5,.int .i64 a0_6,.int .i64 a0_7,.int .i64 a0_8,.int .i64 a0_9,.int .i64 a0_10,.int .u64 a0_11,.int .i64 a0_12,.string a0_13,.int .i64 a0_14,.int .i64 a0_15,.string a0_16] 118 (0,0)) (by (with_reducible repeat (first | refine blk_drewN ?_ _ | refine blk_drew ?_ | refine blk_alloc ?_ _));exact BK365.out)):gb369 ≠ gb365));clear BK365;clear HB;have BK365:=n0_;have HB:=n1_;have BK369:=n2_;have GW369:=n3_;have GE369:=n4_;have NB365_369:=n5_;have NB369_365:=n6_;clear n0_ n1_ n2_ n3_ n4_ n5_ n6_;clear hb hbox hg;have hnb72:=NB369_365.out;have hnc72:=NB365_369.out;have hcz73_0:w71.cell? ⟨gb369,0,none⟩ = some (.int .i64 0):=(blk_cell BK369.out 0).trans rfl;have hcz73_1:w71.cell? ⟨gb369,1,none⟩ = some (.int .i64 0):=(blk_cell BK369.out 1).trans rfl;have hcz73_2:w71.cell? ⟨gb369,2,none⟩ = some (.float .f64 0):=(blk_cell BK369.out 2).trans rfl;have hcz73_3:w71.cell? ⟨gb369,3,none⟩ = some (.float .f64 0):=(blk_cell BK369.out 3).trans rfl;have hcz73_4:w71.cell? ⟨gb369,4,none⟩ = some (.int .i64 0):=(blk_cell BK369.out 4).trans rfl;have hfz73_0:=blk_frozen BK369.out 0;have hfz73_1:=blk_frozen BK369.out 1;have hfz73_2:=blk_frozen BK369.out 2;have hfz73_3:=blk_frozen BK369.out 3;have hfz73_4:=blk_frozen BK369.out 4))
         have n0_:Aside0 ((((((w71.setCell ⟨gb369,0,none⟩ (.int .i64 ((rd_T56 l0_4 x70_3).f0))).setCell ⟨gb369,1,none⟩ (.int .i64 ((rd_T56 l0_4 x70_3).f1))).setCell ⟨gb369,2,none⟩ (.float .f64 ((rd_T56 l0_4 x70_3).f2))).setCell ⟨gb369,3,none⟩ (.float .f64 ((rd_T56 l0_4 x70_3).f3))).setCell ⟨gb369,4,none⟩ (.int .i64 ((rd_T56 l0_4 x70_3).f4))).heap[gb365]? = some (.cells #[.int .i64 a0_0,.int .u64 a0_1,.int .u64 a0_2,.int .u64 a0_3,.slice (some ad368) l0_4.length c0_4,.int .i64 a0_5,.int .i64 a0_6,.int .i64 a0_7,.int .i64 a0_8,.int .i64 a0_9,.int .i64 a0_10,.int .u64 a0_11,.int .i64 a0_12,.string a0_13,.int .i64 a0_14,.int .i64 a0_15,.string a0_16] 118 (0,0))):=⟨by (with_reducible repeat (first | refine blk_drewN ?_ _ | refine blk_drew ?_ | refine blk_alloc ?_ _));refine blk_far ?_ NB365_369.out _;(with_reducible repeat (first | refine blk_drewN ?_ _ | refine blk_drew ?_ | refine blk_alloc ?_ _));refine blk_far ?_ NB365_369.out _;(with_reducible repeat (first | refine blk_drewN ?_ _ | refine blk_drew ?_ | refine blk_alloc ?_ _));refine blk_far ?_ NB365_369.out _;(with_reducible repeat (first | refine blk_drewN ?_ _ | refine blk_drew ?_ | refine blk_alloc ?_ _));refine blk_far ?_ NB365_369.out _;(with_reducible repeat (first | refine blk_drewN ?_ _ | refine blk_drew ?_ | refine blk_alloc ?_ _));refine blk_far ?_ NB365_369.out _;(with_reducible repeat (first | refine blk_drewN ?_ _ | refine blk_drew ?_ | refine blk_alloc ?_ _));exact BK365.out⟩
         have n1_:Aside0 ((((((w71.setCell ⟨gb369,0,none⟩ (.int .i64 ((rd_T56 l0_4 x70_3).f0))).setCell ⟨gb369,1,none⟩ (.int .i64 ((rd_T56 l0_4 x70_3).f1))).setCell ⟨gb369,2,none⟩ (.float .f64 ((rd_T56 l0_4 x70_3).f2))).setCell ⟨gb369,3,none⟩ (.float .f64 ((rd_T56 l0_4 x70_3).f3))).setCell ⟨gb369,4,none⟩ (.int .i64 ((rd_T56 l0_4 x70_3).f4))).heap[gb369]? = some (.cells #[.int .i64 ((rd_T56 l0_4 x70_3).f0),.int .i64 ((rd_T56 l0_4 x70_3).f1),.float .f64 ((rd_T56 l0_4 x70_3).f2),.float .f64 ((rd_T56 l0_4 x70_3).f3),.int .i64 ((rd_T56 l0_4 x70_3).f4)] 56 (0,0))):=⟨by (with_reducible repeat (first | refine blk_drewN ?_ _ | refine blk_drew ?_ | refine blk_alloc ?_ _));refine blk_put (cs:=#[.int .i64 ((rd_T56 l0_4 x70_3).f0),.int .i64 ((rd_T56 l0_4 x70_3).f1),.float .f64 ((rd_T56 l0_4 x70_3).f2),.float .f64 ((rd_T56 l0_4 x70_3).f3),.int .i64 0]) ?_ 4 _ rfl;(with_reducible repeat (first | refine blk_drewN ?_ _ | refine blk_drew ?_ | refine blk_alloc ?_ _));refine blk_put (cs:=#[.int .i64 ((rd_T56 l0_4 x70_3).f0),.int .i64 ((rd_T56 l0_4 x70_3).f1),.float .f64 ((rd_T56 l0_4 x70_3).f2),.float .f64 0,.int .i64 0]) ?_ 3 _ rfl;(with_reducible repeat (first | refine blk_drewN ?_ _ | refine blk_drew ?_ | refine blk_alloc ?_ _));refine blk_put (cs:=#[.int .i64 ((rd_T56 l0_4 x70_3).f0),.int .i64 ((rd_T56 l0_4 x70_3).f1),.float .f64 0,.float .f64 0,.int .i64 0]) ?_ 2 _ rfl;(with_reducible repeat (first | refine blk_drewN ?_ _ | refine blk_drew ?_ | refine blk_alloc ?_ _));refine blk_put (cs:=#[.int .i64 ((rd_T56 l0_4 x70_3).f0),.int .i64 0,.float .f64 0,.float .f64 0,.int .i64 0]) ?_ 1 _ rfl;(with_reducible repeat (first | refine blk_drewN ?_ _ | refine blk_drew ?_ | refine blk_alloc ?_ _));refine blk_put (cs:=#[.int .i64 0,.int .i64 0,.float .f64 0,.float .f64 0,.int .i64 0]) ?_ 0 _ rfl;(with_reducible repeat (first | refine blk_drewN ?_ _ | refine blk_drew ?_ | refine blk_alloc ?_ _));exact BK369.out⟩
         have n2_:Aside0 (Below w.heap.size w (((((w71.setCell ⟨gb369,0,none⟩ (.int .i64 ((rd_T56 l0_4 x70_3).f0))).setCell ⟨gb369,1,none⟩ (.int .i64 ((rd_T56 l0_4 x70_3).f1))).setCell ⟨gb369,2,none⟩ (.float .f64 ((rd_T56 l0_4 x70_3).f2))).setCell ⟨gb369,3,none⟩ (.float .f64 ((rd_T56 l0_4 x70_3).f3))).setCell ⟨gb369,4,none⟩ (.int .i64 ((rd_T56 l0_4 x70_3).f4)))):=⟨by repeat (first | (with_reducible first | exact HB.out | apply below_alloc | apply pw_below_drewN | apply below_drew1 | refine below_set ?_ GE365.out | refine below_set ?_ GE369.out) | exact HB.out)⟩
         (try clear BK365)
         (try clear BK369)
         (try clear HB)
         generalize (((((w71.setCell ⟨gb369,0,none⟩ (.int .i64 ((rd_T56 l0_4 x70_3).f0))).setCell ⟨gb369,1,none⟩ (.int .i64 ((rd_T56 l0_4 x70_3).f1))).setCell ⟨gb369,2,none⟩ (.float .f64 ((rd_T56 l0_4 x70_3).f2))).setCell ⟨gb369,3,none⟩ (.float .f64 ((rd_T56 l0_4 x70_3).f3))).setCell ⟨gb369,4,none⟩ (.int .i64 ((rd_T56 l0_4 x70_3).f4))) = w74 at n0_ n1_ n2_ ⊢
         have BK365:=n0_
         have BK369:=n1_
         have HB:=n2_
         clear n0_ n1_ n2_
         have n0_:=Aside0.mk (blk_drew BK365.out)
         have n1_:=Aside0.mk (blk_drew BK369.out)
         have n2_:=Aside0.mk (below_drew1 HB.out)
         clear BK365
         clear BK369
         clear HB
         have BK365:=n0_
         have BK369:=n1_
         have HB:=n2_
         clear n0_ n1_ n2_
         refine start_ (n:=20) (S:=fun w' => True) (ds:=[]) #[false,false,false,false,false,false,false,false,false,false,false,false,false,false,false,false,false,false,false,false] (by kernel_rfl) rfl rfl trivial (fun hHeld => ?_);refine with_tabW message_Check.tab11 message_Check.bits11 (fun HT_ HW_ => ?_)
         generalize w74.drew = w75 at BK365 BK369 HB hHeld ⊢
         refine manyT_ (fuel:=0) (a':=?_) ((0,0) :: (1,0) :: (2,1) :: (3,1) :: (4,0) :: (5,0) :: (6,1) :: (7,1) :: (8,1) :: (9,1) :: (10,1) :: (11,1) :: (12,1) :: (13,1) :: (14,1) :: (15,1) :: (16,1) :: (17,1) :: (18,0) :: (19,0) :: []) #[true,true,true,true,true,true,true,true,true,true,true,true,true,true,true,true,true,true,true,true] rfl HT_ (by kernel_rfl) (fun _ _ _ _ _ h => h) (fun h => absurd h (by decide)) ?_ ?_
         rotate_left
         ·repeat (first | exact Chain.nil _ | (apply Chain.on;rfl;rfl;(focus intro w';go_simp;with_reducible rfl);(focus simp only [Act.put,List.setIfInBounds_toArray,List.set_cons_zero,List.set_cons_succ,i64_w,i32_w];rfl)) | (apply Chain.off;rfl;rfl;(focus simp only [Act.put,List.setIfInBounds_toArray,List.set_cons_zero,List.set_cons_succ,i64_w,i32_w];rfl)))
         refine done_ (done_of HT_.out (by kernel_rfl)) ?_
         try go_wp2
         go_roundg k3
         case measure => have:=HJ14.out;have:=HJ17.out;have:=HK3.out;omega
         case rel => exact ⟨(false),(wrap64 (x70_3 + 1)),(by first | rfl | (simp;done) | (simp [*];done)),(by first | rfl | (simp;done) | (simp [*];done)),H',⟨by have:=HJ14.out;have:=HJ17.out;have:=HK3.out;omega⟩,⟨by (with_reducible repeat (first | refine blk_drewN ?_ _ | refine blk_drew ?_ | refine blk_alloc ?_ _));exact BK365.out⟩,⟨by repeat (first | (with_reducible first | exact HB.out | apply below_alloc | apply pw_below_drewN | apply below_drew1 | refine below_set ?_ GE365.out | refine below_set ?_ GE369.out) | exact HB.out)⟩⟩
        subst c44
        have H1:((message_news.f k3 ((rd_T56 l0_4 x70_3).f0) ((rd_T56 l0_4 x70_3).f1) ((rd_T56 l0_4 x70_3).f2) ((rd_T56 l0_4 x70_3).f3) ((rd_T56 l0_4 x70_3).f4)).bind fun t370 => (if t370 = true then (if x70_3 = 0 then (message_Check.l0 k3 true l0_4 (l0_4.length:Int) (wrap64 (x70_3 + 1)) a0_0 a0_1 a0_2 a0_3 l0_4 a0_5 a0_6 a0_7 a0_8 a0_9 a0_10 a0_11 a0_12 a0_13 a0_14 a0_15 a0_16) else (if 0 ≤ (wrap64 (x70_3 - 1)) then (if (wrap64 (x70_3 - 1)) < (l0_4.length:Int) then ((message_ahead.f ((rd_T56 l0_4 (wrap64 (x70_3 - 1))).f0) ((rd_T56 l0_4 (wrap64 (x70_3 - 1))).f1) ((rd_T56 l0_4 (wrap64 (x70_3 - 1))).f2) ((rd_T56 l0_4 (wrap64 (x70_3 - 1))).f3) ((rd_T56 l0_4 (wrap64 (x70_3 - 1))).f4) ((rd_T56 l0_4 x70_3).f0) ((rd_T56 l0_4 x70_3).f1) ((rd_T56 l0_4 x70_3).f2) ((rd_T56 l0_4 x70_3).f3) ((rd_T56 l0_4 x70_3).f4)).bind fun t372 => (message_Check.l0 k3 t372 l0_4 (l0_4.length:Int) (wrap64 (x70_3 + 1)) a0_0 a0_1 a0_2 a0_3 l0_4 a0_5 a0_6 a0_7 a0_8 a0_9 a0_10 a0_11 a0_12 a0_13 a0_14 a0_15 a0_16)) else (none)) else (none))) else (message_Check.l0 k3 false l0_4 (l0_4.length:Int) (wrap64 (x70_3 + 1)) a0_0 a0_1 a0_2 a0_3 l0_4 a0_5 a0_6 a0_7 a0_8 a0_9 a0_10 a0_11 a0_12 a0_13 a0_14 a0_15 a0_16))) = some r:=by rw [if_pos rfl] at H;exact H
        clear H
        have H:=H1
        clear H1
        replace H:=Option.bind_eq_some_iff.mp H
        obtain ⟨t370,A450,H⟩:=H
        replace H:(if t370 = true then (if x70_3 = 0 then (message_Check.l0 k3 true l0_4 (l0_4.length:Int) (wrap64 (x70_3 + 1)) a0_0 a0_1 a0_2 a0_3 l0_4 a0_5 a0_6 a0_7 a0_8 a0_9 a0_10 a0_11 a0_12 a0_13 a0_14 a0_15 a0_16) else (if 0 ≤ (wrap64 (x70_3 - 1)) then (if (wrap64 (x70_3 - 1)) < (l0_4.length:Int) then ((message_ahead.f ((rd_T56 l0_4 (wrap64 (x70_3 - 1))).f0) ((rd_T56 l0_4 (wrap64 (x70_3 - 1))).f1) ((rd_T56 l0_4 (wrap64 (x70_3 - 1))).f2) ((rd_T56 l0_4 (wrap64 (x70_3 - 1))).f3) ((rd_T56 l0_4 (wrap64 (x70_3 - 1))).f4) ((rd_T56 l0_4 x70_3).f0) ((rd_T56 l0_4 x70_3).f1) ((rd_T56 l0_4 x70_3).f2) ((rd_T56 l0_4 x70_3).f3) ((rd_T56 l0_4 x70_3).f4)).bind fun t372 => (message_Check.l0 k3 t372 l0_4 (l0_4.length:Int) (wrap64 (x70_3 + 1)) a0_0 a0_1 a0_2 a0_3 l0_4 a0_5 a0_6 a0_7 a0_8 a0_9 a0_10 a0_11 a0_12 a0_13 a0_14 a0_15 a0_16)) else (none)) else (none))) else (message_Check.l0 k3 false l0_4 (l0_4.length:Int) (wrap64 (x70_3 + 1)) a0_0 a0_1 a0_2 a0_3 l0_4 a0_5 a0_6 a0_7 a0_8 a0_9 a0_10 a0_11 a0_12 a0_13 a0_14 a0_15 a0_16)) = some r:=H
        have A45:=Aside0.mk A450
        clear A450
        by_cases c46:t370 = true
        rotate_left
        ·replace c46:=Bool.eq_false_iff.mpr c46
         subst c46
         have H1:(message_Check.l0 k3 false l0_4 (l0_4.length:Int) (wrap64 (x70_3 + 1)) a0_0 a0_1 a0_2 a0_3 l0_4 a0_5 a0_6 a0_7 a0_8 a0_9 a0_10 a0_11 a0_12 a0_13 a0_14 a0_15 a0_16) = some r:=by rw [if_neg (show ¬ (false = true) by decide)] at H;exact H
         clear H
         have H:=H1
         clear H1
         have H':=Aside0.mk H
         clear H
         have p368:0 ≤ (x70_3:Int):=of_decide_eq_true (by first | (with_reducible assumption) | assumption)
         have q368:x70_3 < (l0_4.length:Int):=of_decide_eq_true (by first | (with_reducible assumption) | assumption)
         obtain ⟨ad368,e368,hx368_0,hx368_1,hx368_2,hx368_3,hx368_4⟩:=at_T56 HR0_4.out x70_3 p368 q368
         cases e368
         replace hx368_0:=(HB.out.cell (World.block_lt_of_cell? w _ hx368_0)).trans hx368_0
         replace hx368_1:=(HB.out.cell (World.block_lt_of_cell? w _ hx368_1)).trans hx368_1
         replace hx368_2:=(HB.out.cell (World.block_lt_of_cell? w _ hx368_2)).trans hx368_2
         replace hx368_3:=(HB.out.cell (World.block_lt_of_cell? w _ hx368_3)).trans hx368_3
         replace hx368_4:=(HB.out.cell (World.block_lt_of_cell? w _ hx368_4)).trans hx368_4
         replace p368:=eq_true p368
         replace q368:=eq_true q368
         try go_wp2_with (first | ((with_reducible refine gate_dst (N:=5) rfl ?_);(try (refine gate_guard (by rfl) ?_;dsimp only));refine box_event ?hg (N:=5) ?hd (cs:=#[.int .i64 0,.int .i64 0,.float .f64 0,.float .f64 0,.int .i64 0]) (t:=56) ?hr ?_;(case hd => rfl);(case hg => rfl);(case hr => first | (go_simp;done) | (go_simp;rfl));intro gb369 hg w65 hbox hb;have n0_:=Aside0.mk (blk_below (g:=gb365) (o:=.cells #[.int .i64 a0_0,.int .u64 a0_1,.int .u64 a0_2,.int .u64 a0_3,.slice (some ad368) l0_4.length c0_4,.int .i64 a0_5,.int .i64 a0_6,.int .i64 a0_7,.int .i64 a0_8,.int .i64 a0_9,.int .i64 a0_10,.int .u64 a0_11,.int .i64 a0_12,.string a0_13,.int .i64 a0_14,.int .i64 a0_15,.string a0_16] 118 (0,0)) (by (with_reducible repeat (first | refine blk_drewN ?_ _ | refine blk_drew ?_ | refine blk_alloc ?_ _));exact BK365.out) hb);have n1_:=Aside0.mk (below_step (by repeat (first | (with_reducible first | exact HB.out | apply below_alloc | apply pw_below_drewN | apply below_drew1 | refine below_set ?_ GE365.out) | exact HB.out)) hb);have n2_:=Aside0.mk (hbox);have n3_:=Aside0.mk ((by rw [hg];exact (below_size (by repeat (first | (with_reducible first | exact HB.out | apply below_alloc | apply pw_below_drewN | apply below_drew1 | refine below_set ?_ GE365.out) | exact HB.out))):w.heap.size ≤ gb369));have n4_:=Aside0.mk ((by rw [hg];exact (below_size (by repeat (first | (with_reducible first | exact HB.out | apply below_alloc | apply pw_below_drewN | apply below_drew1 | refine below_set ?_ GE365.out) | exact HB.out))):w.heap.size ≤ gb369));have n5_:=Aside0.mk ((by rw [hg];exact Nat.ne_of_lt (blk_lt (g:=gb365) (o:=.cells #[.int .i64 a0_0,.int .u64 a0_1,.int .u64 a0_2,.int .u64 a0_3,.slice (some ad368) l0_4.length c0_4,.int .i64 a0_5,.int .i64 a0_6,.int .i64 a0_7,.int .i64 a0_8,.int .i64 a0_9,.int .i64 a0_10,.int .u64 a0_11,.int .i64 a0_12,.string a0_13,.int .i64 a0_14,.int .i64 a0_15,.string a0_16] 118 (0,0)) (by (with_reducible repeat (first | refine blk_drewN ?_ _ | refine blk_drew ?_ | refine blk_alloc ?_ _));exact BK365.out)):gb365 ≠ gb369));have n6_:=Aside0.mk ((by rw [hg];exact Nat.ne_of_gt (blk_lt (g:=gb365) (o:=.cells #[.int .i64 a0_0,.int .u64 a0_1,.int .u64 a0_2,.int .u64 a0_3,.slice (some ad368) l0_4.length c0_4,.int .i64 a0_5,.int .i64 a0_6,.int .i64 a0_7,.int .i64 a0_8,.int .i64 a0_9,.int .i64 a0_10,.int .u64 a0_11,.int .i64 a0_12,.string a0_13,.int .i64 a0_14,.int .i64 a0_15,.string a0_16] 118 (0,0)) (by (with_reducible repeat (first | refine blk_drewN ?_ _ | refine blk_drew ?_ | refine blk_alloc ?_ _));exact BK365.out)):gb369 ≠ gb365));clear BK365;clear HB;have BK365:=n0_;have HB:=n1_;have BK369:=n2_;have GW369:=n3_;have GE369:=n4_;have NB365_369:=n5_;have NB369_365:=n6_;clear n0_ n1_ n2_ n3_ n4_ n5_ n6_;clear hb hbox hg;have hnb66:=NB369_365.out;have hnc66:=NB365_369.out;have hcz67_0:w65.cell? ⟨gb369,0,none⟩ = some (.int .i64 0):=(blk_cell BK369.out 0).trans rfl;have hcz67_1:w65.cell? ⟨gb369,1,none⟩ = some (.int .i64 0):=(blk_cell BK369.out 1).trans rfl;have hcz67_2:w65.cell? ⟨gb369,2,none⟩ = some (.float .f64 0):=(blk_cell BK369.out 2).trans rfl;have hcz67_3:w65.cell? ⟨gb369,3,none⟩ = some (.float .f64 0):=(blk_cell BK369.out 3).trans rfl;have hcz67_4:w65.cell? ⟨gb369,4,none⟩ = some (.int .i64 0):=(blk_cell BK369.out 4).trans rfl;have hfz67_0:=blk_frozen BK369.out 0;have hfz67_1:=blk_frozen BK369.out 1;have hfz67_2:=blk_frozen BK369.out 2;have hfz67_3:=blk_frozen BK369.out 3;have hfz67_4:=blk_frozen BK369.out 4))
         have n0_:Aside0 ((((((w65.setCell ⟨gb369,0,none⟩ (.int .i64 ((rd_T56 l0_4 x70_3).f0))).setCell ⟨gb369,1,none⟩ (.int .i64 ((rd_T56 l0_4 x70_3).f1))).setCell ⟨gb369,2,none⟩ (.float .f64 ((rd_T56 l0_4 x70_3).f2))).setCell ⟨gb369,3,none⟩ (.float .f64 ((rd_T56 l0_4 x70_3).f3))).setCell ⟨gb369,4,none⟩ (.int .i64 ((rd_T56 l0_4 x70_3).f4))).heap[gb365]? = some (.cells #[.int .i64 a0_0,.int .u64 a0_1,.int .u64 a0_2,.int .u64 a0_3,.slice (some ad368) l0_4.length c0_4,.int .i64 a0_5,.int .i64 a0_6,.int .i64 a0_7,.int .i64 a0_8,.int .i64 a0_9,.int .i64 a0_10,.int .u64 a0_11,.int .i64 a0_12,.string a0_13,.int .i64 a0_14,.int .i64 a0_15,.string a0_16] 118 (0,0))):=⟨by (with_reducible repeat (first | refine blk_drewN ?_ _ | refine blk_drew ?_ | refine blk_alloc ?_ _));refine blk_far ?_ NB365_369.out _;(with_reducible repeat (first | refine blk_drewN ?_ _ | refine blk_drew ?_ | refine blk_alloc ?_ _));refine blk_far ?_ NB365_369.out _;(with_reducible repeat (first | refine blk_drewN ?_ _ | refine blk_drew ?_ | refine blk_alloc ?_ _));refine blk_far ?_ NB365_369.out _;(with_reducible repeat (first | refine blk_drewN ?_ _ | refine blk_drew ?_ | refine blk_alloc ?_ _));refine blk_far ?_ NB365_369.out _;(with_reducible repeat (first | refine blk_drewN ?_ _ | refine blk_drew ?_ | refine blk_alloc ?_ _));refine blk_far ?_ NB365_369.out _;(with_reducible repeat (first | refine blk_drewN ?_ _ | refine blk_drew ?_ | refine blk_alloc ?_ _));exact BK365.out⟩
         have n1_:Aside0 ((((((w65.setCell ⟨gb369,0,none⟩ (.int .i64 ((rd_T56 l0_4 x70_3).f0))).setCell ⟨gb369,1,none⟩ (.int .i64 ((rd_T56 l0_4 x70_3).f1))).setCell ⟨gb369,2,none⟩ (.float .f64 ((rd_T56 l0_4 x70_3).f2))).setCell ⟨gb369,3,none⟩ (.float .f64 ((rd_T56 l0_4 x70_3).f3))).setCell ⟨gb369,4,none⟩ (.int .i64 ((rd_T56 l0_4 x70_3).f4))).heap[gb369]? = some (.cells #[.int .i64 ((rd_T56 l0_4 x70_3).f0),.int .i64 ((rd_T56 l0_4 x70_3).f1),.float .f64 ((rd_T56 l0_4 x70_3).f2),.float .f64 ((rd_T56 l0_4 x70_3).f3),.int .i64 ((rd_T56 l0_4 x70_3).f4)] 56 (0,0))):=⟨by (with_reducible repeat (first | refine blk_drewN ?_ _ | refine blk_drew ?_ | refine blk_alloc ?_ _));refine blk_put (cs:=#[.int .i64 ((rd_T56 l0_4 x70_3).f0),.int .i64 ((rd_T56 l0_4 x70_3).f1),.float .f64 ((rd_T56 l0_4 x70_3).f2),.float .f64 ((rd_T56 l0_4 x70_3).f3),.int .i64 0]) ?_ 4 _ rfl;(with_reducible repeat (first | refine blk_drewN ?_ _ | refine blk_drew ?_ | refine blk_alloc ?_ _));refine blk_put (cs:=#[.int .i64 ((rd_T56 l0_4 x70_3).f0),.int .i64 ((rd_T56 l0_4 x70_3).f1),.float .f64 ((rd_T56 l0_4 x70_3).f2),.float .f64 0,.int .i64 0]) ?_ 3 _ rfl;(with_reducible repeat (first | refine blk_drewN ?_ _ | refine blk_drew ?_ | refine blk_alloc ?_ _));refine blk_put (cs:=#[.int .i64 ((rd_T56 l0_4 x70_3).f0),.int .i64 ((rd_T56 l0_4 x70_3).f1),.float .f64 0,.float .f64 0,.int .i64 0]) ?_ 2 _ rfl;(with_reducible repeat (first | refine blk_drewN ?_ _ | refine blk_drew ?_ | refine blk_alloc ?_ _));refine blk_put (cs:=#[.int .i64 ((rd_T56 l0_4 x70_3).f0),.int .i64 0,.float .f64 0,.float .f64 0,.int .i64 0]) ?_ 1 _ rfl;(with_reducible repeat (first | refine blk_drewN ?_ _ | refine blk_drew ?_ | refine blk_alloc ?_ _));refine blk_put (cs:=#[.int .i64 0,.int .i64 0,.float .f64 0,.float .f64 0,.int .i64 0]) ?_ 0 _ rfl;(with_reducible repeat (first | refine blk_drewN ?_ _ | refine blk_drew ?_ | refine blk_alloc ?_ _));exact BK369.out⟩
         have n2_:Aside0 (Below w.heap.size w (((((w65.setCell ⟨gb369,0,none⟩ (.int .i64 ((rd_T56 l0_4 x70_3).f0))).setCell ⟨gb369,1,none⟩ (.int .i64 ((rd_T56 l0_4 x70_3).f1))).setCell ⟨gb369,2,none⟩ (.float .f64 ((rd_T56 l0_4 x70_3).f2))).setCell ⟨gb369,3,none⟩ (.float .f64 ((rd_T56 l0_4 x70_3).f3))).setCell ⟨gb369,4,none⟩ (.int .i64 ((rd_T56 l0_4 x70_3).f4)))):=⟨by repeat (first | (with_reducible first | exact HB.out | apply below_alloc | apply pw_below_drewN | apply below_drew1 | refine below_set ?_ GE365.out | refine below_set ?_ GE369.out) | exact HB.out)⟩
         (try clear BK365)
         (try clear BK369)
         (try clear HB)
         generalize (((((w65.setCell ⟨gb369,0,none⟩ (.int .i64 ((rd_T56 l0_4 x70_3).f0))).setCell ⟨gb369,1,none⟩ (.int .i64 ((rd_T56 l0_4 x70_3).f1))).setCell ⟨gb369,2,none⟩ (.float .f64 ((rd_T56 l0_4 x70_3).f2))).setCell ⟨gb369,3,none⟩ (.float .f64 ((rd_T56 l0_4 x70_3).f3))).setCell ⟨gb369,4,none⟩ (.int .i64 ((rd_T56 l0_4 x70_3).f4))) = w68 at n0_ n1_ n2_ ⊢
         have BK365:=n0_
         have BK369:=n1_
         have HB:=n2_
         clear n0_ n1_ n2_
         have n0_:=Aside0.mk (blk_drew BK365.out)
         have n1_:=Aside0.mk (blk_drew BK369.out)
         have n2_:=Aside0.mk (below_drew1 HB.out)
         clear BK365
         clear BK369
         clear HB
         have BK365:=n0_
         have BK369:=n1_
         have HB:=n2_
         clear n0_ n1_ n2_
         refine start_ (n:=20) (S:=fun w' => w'.cell? ⟨gb369,0,none⟩ = some (.int .i64 ((rd_T56 l0_4 x70_3).f0)) ∧ w'.cell? ⟨gb369,1,none⟩ = some (.int .i64 ((rd_T56 l0_4 x70_3).f1)) ∧ w'.cell? ⟨gb369,2,none⟩ = some (.float .f64 ((rd_T56 l0_4 x70_3).f2)) ∧ w'.cell? ⟨gb369,3,none⟩ = some (.float .f64 ((rd_T56 l0_4 x70_3).f3)) ∧ w'.cell? ⟨gb369,4,none⟩ = some (.int .i64 ((rd_T56 l0_4 x70_3).f4))) (ds:=[]) #[false,false,false,false,false,false,false,false,false,false,false,false,false,false,false,false,false,false,false,false] (by kernel_rfl) rfl rfl ⟨(blk_cell BK369.out 0).trans rfl,(blk_cell BK369.out 1).trans rfl,(blk_cell BK369.out 2).trans rfl,(blk_cell BK369.out 3).trans rfl,(blk_cell BK369.out 4).trans rfl⟩ (fun hHeld => ?_);refine with_tabW message_Check.tab11 message_Check.bits11 (fun HT_ HW_ => ?_)
         generalize w68.drew = w69 at BK365 BK369 HB hHeld ⊢
         refine manyW_ (fuel:=17) (a':=?_) ((0,0) :: (1,0) :: (2,2) :: []) #[true,true,true,false,false,false,false,false,false,false,false,false,false,false,false,false,false,false,false,false] rfl HT_ HW_ (by kernel_rfl) (fun _ _ _ _ _ h => h) (fun _ => hHeld) ?_ ?_
         rotate_left
         ·repeat (first | exact Chain.nil _ | (apply Chain.on;rfl;rfl;(focus intro w';go_simp;with_reducible rfl);(focus simp only [Act.put,List.setIfInBounds_toArray,List.set_cons_zero,List.set_cons_succ,i64_w,i32_w];rfl)) | (apply Chain.take;rfl;rfl;(focus rintro w' ⟨s0,s1,s2,s3,s4⟩;go_simp;with_reducible rfl);(focus simp only [Act.put,List.setIfInBounds_toArray,List.set_cons_zero,List.set_cons_succ,i64_w,i32_w];rfl)))
         refine one_ (i:=3) (N:=some 78) #[true,true,true,true,false,false,false,false,false,false,false,false,false,false,false,false,false,false,false,false] rfl rfl (one_of HT_.out (by kernel_rfl)) (by decide) (fun K hK => ?_)
         refine goes_ Try.func141 (by kernel_rfl) rfl #[.agg #[.int .i64 ((rd_T56 l0_4 x70_3).f0),.int .i64 ((rd_T56 l0_4 x70_3).f1),.float .f64 ((rd_T56 l0_4 x70_3).f2),.float .f64 ((rd_T56 l0_4 x70_3).f3),.int .i64 ((rd_T56 l0_4 x70_3).f4)]] (by rfl) rfl rfl (by (try simp only [List.map_toArray,List.map_cons,List.map_nil]);first | done | rfl | (simp only [List.length_drop,List.length_take];rfl)) ?_
         with_reducible refine (message_news.calls k3 ((rd_T56 l0_4 x70_3).f0) ((rd_T56 l0_4 x70_3).f1) ((rd_T56 l0_4 x70_3).f2) ((rd_T56 l0_4 x70_3).f3) ((rd_T56 l0_4 x70_3).f4) false _ A45.out).mono ?_
         rintro e w70 ⟨rfl,hb⟩
         refine ⟨_,rfl,?_⟩
         have n0_:=Aside0.mk (blk_below (g:=gb365) (o:=.cells #[.int .i64 a0_0,.int .u64 a0_1,.int .u64 a0_2,.int .u64 a0_3,.slice (some ad368) l0_4.length c0_4,.int .i64 a0_5,.int .i64 a0_6,.int .i64 a0_7,.int .i64 a0_8,.int .i64 a0_9,.int .i64 a0_10,.int .u64 a0_11,.int .i64 a0_12,.string a0_13,.int .i64 a0_14,.int .i64 a0_15,.string a0_16] 118 (0,0)) (by (with_reducible repeat (first | refine blk_drewN ?_ _ | refine blk_drew ?_ | refine blk_alloc ?_ _));exact BK365.out) hb)
         have n1_:=Aside0.mk (blk_below (g:=gb369) (o:=.cells #[.int .i64 ((rd_T56 l0_4 x70_3).f0),.int .i64 ((rd_T56 l0_4 x70_3).f1),.float .f64 ((rd_T56 l0_4 x70_3).f2),.float .f64 ((rd_T56 l0_4 x70_3).f3),.int .i64 ((rd_T56 l0_4 x70_3).f4)] 56 (0,0)) (by (with_reducible repeat (first | refine blk_drewN ?_ _ | refine blk_drew ?_ | refine blk_alloc ?_ _));exact BK369.out) hb)
         have n2_:=Aside0.mk (below_step (by repeat (first | (with_reducible first | exact HB.out | apply below_alloc | apply pw_below_drewN | apply below_drew1 | refine below_set ?_ GE365.out | refine below_set ?_ GE369.out) | exact HB.out)) hb)
         clear BK365
         clear BK369
         clear HB
         have BK365:=n0_
         have BK369:=n1_
         have HB:=n2_
         clear n0_ n1_ n2_
         (try clear hb)
         (try clear hb2)
         (try clear hk)
         (try clear hi)
         refine hK.out _ _ ⟨(blk_cell BK369.out 0).trans rfl,(blk_cell BK369.out 1).trans rfl,(blk_cell BK369.out 2).trans rfl,(blk_cell BK369.out 3).trans rfl,(blk_cell BK369.out 4).trans rfl⟩ (fun hHeld => ?_)
         clear hK K
         refine norm_ (a':=?_) ?_ ?_
         rotate_left
         ·show Act.put _ (some 78) _ = _
          simp only [Act.put,List.setIfInBounds_toArray,List.set_cons_zero,List.set_cons_succ,i64_w,i32_w]
          rfl
         refine manyT_ (fuel:=0) (a':=?_) ((4,0) :: (5,0) :: (6,1) :: (7,1) :: (8,1) :: (9,1) :: (10,1) :: (11,1) :: (12,1) :: (13,1) :: (14,1) :: (15,1) :: (16,1) :: (17,1) :: (18,0) :: (19,0) :: []) #[true,true,true,true,true,true,true,true,true,true,true,true,true,true,true,true,true,true,true,true] rfl HT_ (by kernel_rfl) (fun _ _ _ _ _ h => h) (fun h => absurd h (by decide)) ?_ ?_
         rotate_left
         ·repeat (first | exact Chain.nil _ | (apply Chain.on;rfl;rfl;(focus intro w';go_simp;with_reducible rfl);(focus simp only [Act.put,List.setIfInBounds_toArray,List.set_cons_zero,List.set_cons_succ,i64_w,i32_w];rfl)) | (apply Chain.off;rfl;rfl;(focus simp only [Act.put,List.setIfInBounds_toArray,List.set_cons_zero,List.set_cons_succ,i64_w,i32_w];rfl)))
         refine done_ (done_of HT_.out (by kernel_rfl)) ?_
         try go_wp2
         go_roundg k3
         case measure => have:=HJ14.out;have:=HJ17.out;have:=HK3.out;omega
         case rel => exact ⟨(false),(wrap64 (x70_3 + 1)),(by first | rfl | (simp;done) | (simp [*];done)),(by first | rfl | (simp;done) | (simp [*];done)),H',⟨by have:=HJ14.out;have:=HJ17.out;have:=HK3.out;omega⟩,⟨by (with_reducible repeat (first | refine blk_drewN ?_ _ | refine blk_drew ?_ | refine blk_alloc ?_ _));exact BK365.out⟩,⟨by repeat (first | (with_reducible first | exact HB.out | apply below_alloc | apply pw_below_drewN | apply below_drew1 | refine below_set ?_ GE365.out | refine below_set ?_ GE369.out) | exact HB.out)⟩⟩
        subst c46
        have H1:(if x70_3 = 0 then (message_Check.l0 k3 true l0_4 (l0_4.length:Int) (wrap64 (x70_3 + 1)) a0_0 a0_1 a0_2 a0_3 l0_4 a0_5 a0_6 a0_7 a0_8 a0_9 a0_10 a0_11 a0_12 a0_13 a0_14 a0_15 a0_16) else (if 0 ≤ (wrap64 (x70_3 - 1)) then (if (wrap64 (x70_3 - 1)) < (l0_4.length:Int) then ((message_ahead.f ((rd_T56 l0_4 (wrap64 (x70_3 - 1))).f0) ((rd_T56 l0_4 (wrap64 (x70_3 - 1))).f1) ((rd_T56 l0_4 (wrap64 (x70_3 - 1))).f2) ((rd_T56 l0_4 (wrap64 (x70_3 - 1))).f3) ((rd_T56 l0_4 (wrap64 (x70_3 - 1))).f4) ((rd_T56 l0_4 x70_3).f0) ((rd_T56 l0_4 x70_3).f1) ((rd_T56 l0_4 x70_3).f2) ((rd_T56 l0_4 x70_3).f3) ((rd_T56 l0_4 x70_3).f4)).bind fun t372 => (message_Check.l0 k3 t372 l0_4 (l0_4.length:Int) (wrap64 (x70_3 + 1)) a0_0 a0_1 a0_2 a0_3 l0_4 a0_5 a0_6 a0_7 a0_8 a0_9 a0_10 a0_11 a0_12 a0_13 a0_14 a0_15 a0_16)) else (none)) else (none))) = some r:=by rw [if_pos rfl] at H;exact H
        clear H
        have H:=H1
        clear H1
        by_cases c47:x70_3 = 0
        ·rw [if_pos c47] at H
         have c47b0:(x70_3 == 0) = true:=beq_iff_eq.mpr c47
         have c47b1:(x70_3 != 0) = false:=bne_eq_false_iff_eq.mpr c47
         clear c47
         have H':=Aside0.mk H
         clear H
         have p368:0 ≤ (x70_3:Int):=of_decide_eq_true (by first | (with_reducible assumption) | assumption)
         have q368:x70_3 < (l0_4.length:Int):=of_decide_eq_true (by first | (with_reducible assumption) | assumption)
         obtain ⟨ad368,e368,hx368_0,hx368_1,hx368_2,hx368_3,hx368_4⟩:=at_T56 HR0_4.out x70_3 p368 q368
         cases e368
         replace hx368_0:=(HB.out.cell (World.block_lt_of_cell? w _ hx368_0)).trans hx368_0
         replace hx368_1:=(HB.out.cell (World.block_lt_of_cell? w _ hx368_1)).trans hx368_1
         replace hx368_2:=(HB.out.cell (World.block_lt_of_cell? w _ hx368_2)).trans hx368_2
         replace hx368_3:=(HB.out.cell (World.block_lt_of_cell? w _ hx368_3)).trans hx368_3
         replace hx368_4:=(HB.out.cell (World.block_lt_of_cell? w _ hx368_4)).trans hx368_4
         replace p368:=eq_true p368
         replace q368:=eq_true q368
         try go_wp2_with (first | ((with_reducible refine gate_dst (N:=5) rfl ?_);(try (refine gate_guard (by rfl) ?_;dsimp only));refine box_event ?hg (N:=5) ?hd (cs:=#[.int .i64 0,.int .i64 0,.float .f64 0,.float .f64 0,.int .i64 0]) (t:=56) ?hr ?_;(case hd => rfl);(case hg => rfl);(case hr => first | (go_simp;done) | (go_simp;rfl));intro gb369 hg w48 hbox hb;have n0_:=Aside0.mk (blk_below (g:=gb365) (o:=.cells #[.int .i64 a0_0,.int .u64 a0_1,.int .u64 a0_2,.int .u64 a0_3,.slice (some ad368) l0_4.length c0_4,.int .i64 a0_5,.int .i64 a0_6,.int .i64 a0_7,.int .i64 a0_8,.int .i64 a0_9,.int .i64 a0_10,.int .u64 a0_11,.int .i64 a0_12,.string a0_13,.int .i64 a0_14,.int .i64 a0_15,.string a0_16] 118 (0,0)) (by (with_reducible repeat (first | refine blk_drewN ?_ _ | refine blk_drew ?_ | refine blk_alloc ?_ _));exact BK365.out) hb);have n1_:=Aside0.mk (below_step (by repeat (first | (with_reducible first | exact HB.out | apply below_alloc | apply pw_below_drewN | apply below_drew1 | refine below_set ?_ GE365.out) | exact HB.out)) hb);have n2_:=Aside0.mk (hbox);have n3_:=Aside0.mk ((by rw [hg];exact (below_size (by repeat (first | (with_reducible first | exact HB.out | apply below_alloc | apply pw_below_drewN | apply below_drew1 | refine below_set ?_ GE365.out) | exact HB.out))):w.heap.size ≤ gb369));have n4_:=Aside0.mk ((by rw [hg];exact (below_size (by repeat (first | (with_reducible first | exact HB.out | apply below_alloc | apply pw_below_drewN | apply below_drew1 | refine below_set ?_ GE365.out) | exact HB.out))):w.heap.size ≤ gb369));have n5_:=Aside0.mk ((by rw [hg];exact Nat.ne_of_lt (blk_lt (g:=gb365) (o:=.cells #[.int .i64 a0_0,.int .u64 a0_1,.int .u64 a0_2,.int .u64 a0_3,.slice (some ad368) l0_4.length c0_4,.int .i64 a0_5,.int .i64 a0_6,.int .i64 a0_7,.int .i64 a0_8,.int .i64 a0_9,.int .i64 a0_10,.int .u64 a0_11,.int .i64 a0_12,.string a0_13,.int .i64 a0_14,.int .i64 a0_15,.string a0_16] 118 (0,0)) (by (with_reducible repeat (first | refine blk_drewN ?_ _ | refine blk_drew ?_ | refine blk_alloc ?_ _));exact BK365.out)):gb365 ≠ gb369));have n6_:=Aside0.mk ((by rw [hg];exact Nat.ne_of_gt (blk_lt (g:=gb365) (o:=.cells #[.int .i64 a0_0,.int .u64 a0_1,.int .u64 a0_2,.int .u64 a0_3,.slice (some ad368) l0_4.length c0_4,.int .i64 a0_5,.int .i64 a0_6,.int .i64 a0_7,.int .i64 a0_8,.int .i64 a0_9,.int .i64 a0_10,.int .u64 a0_11,.int .i64 a0_12,.string a0_13,.int .i64 a0_14,.int .i64 a0_15,.string a0_16] 118 (0,0)) (by (with_reducible repeat (first | refine blk_drewN ?_ _ | refine blk_drew ?_ | refine blk_alloc ?_ _));exact BK365.out)):gb369 ≠ gb365));clear BK365;clear HB;have BK365:=n0_;have HB:=n1_;have BK369:=n2_;have GW369:=n3_;have GE369:=n4_;have NB365_369:=n5_;have NB369_365:=n6_;clear n0_ n1_ n2_ n3_ n4_ n5_ n6_;clear hb hbox hg;have hnb49:=NB369_365.out;have hnc49:=NB365_369.out;have hcz50_0:w48.cell? ⟨gb369,0,none⟩ = some (.int .i64 0):=(blk_cell BK369.out 0).trans rfl;have hcz50_1:w48.cell? ⟨gb369,1,none⟩ = some (.int .i64 0):=(blk_cell BK369.out 1).trans rfl;have hcz50_2:w48.cell? ⟨gb369,2,none⟩ = some (.float .f64 0):=(blk_cell BK369.out 2).trans rfl;have hcz50_3:w48.cell? ⟨gb369,3,none⟩ = some (.float .f64 0):=(blk_cell BK369.out 3).trans rfl;have hcz50_4:w48.cell? ⟨gb369,4,none⟩ = some (.int .i64 0):=(blk_cell BK369.out 4).trans rfl;have hfz50_0:=blk_frozen BK369.out 0;have hfz50_1:=blk_frozen BK369.out 1;have hfz50_2:=blk_frozen BK369.out 2;have hfz50_3:=blk_frozen BK369.out 3;have hfz50_4:=blk_frozen BK369.out 4))
         have n0_:Aside0 ((((((w48.setCell ⟨gb369,0,none⟩ (.int .i64 ((rd_T56 l0_4 x70_3).f0))).setCell ⟨gb369,1,none⟩ (.int .i64 ((rd_T56 l0_4 x70_3).f1))).setCell ⟨gb369,2,none⟩ (.float .f64 ((rd_T56 l0_4 x70_3).f2))).setCell ⟨gb369,3,none⟩ (.float .f64 ((rd_T56 l0_4 x70_3).f3))).setCell ⟨gb369,4,none⟩ (.int .i64 ((rd_T56 l0_4 x70_3).f4))).heap[gb365]? = some (.cells #[.int .i64 a0_0,.int .u64 a0_1,.int .u64 a0_2,.int .u64 a0_3,.slice (some ad368) l0_4.length c0_4,.int .i64 a0_5,.int .i64 a0_6,.int .i64 a0_7,.int .i64 a0_8,.int .i64 a0_9,.int .i64 a0_10,.int .u64 a0_11,.int .i64 a0_12,.string a0_13,.int .i64 a0_14,.int .i64 a0_15,.string a0_16] 118 (0,0))):=⟨by (with_reducible repeat (first | refine blk_drewN ?_ _ | refine blk_drew ?_ | refine blk_alloc ?_ _));refine blk_far ?_ NB365_369.out _;(with_reducible repeat (first | refine blk_drewN ?_ _ | refine blk_drew ?_ | refine blk_alloc ?_ _));refine blk_far ?_ NB365_369.out _;(with_reducible repeat (first | refine blk_drewN ?_ _ | refine blk_drew ?_ | refine blk_alloc ?_ _));refine blk_far ?_ NB365_369.out _;(with_reducible repeat (first | refine blk_drewN ?_ _ | refine blk_drew ?_ | refine blk_alloc ?_ _));refine blk_far ?_ NB365_369.out _;(with_reducible repeat (first | refine blk_drewN ?_ _ | refine blk_drew ?_ | refine blk_alloc ?_ _));refine blk_far ?_ NB365_369.out _;(with_reducible repeat (first | refine blk_drewN ?_ _ | refine blk_drew ?_ | refine blk_alloc ?_ _));exact BK365.out⟩
         have n1_:Aside0 ((((((w48.setCell ⟨gb369,0,none⟩ (.int .i64 ((rd_T56 l0_4 x70_3).f0))).setCell ⟨gb369,1,none⟩ (.int .i64 ((rd_T56 l0_4 x70_3).f1))).setCell ⟨gb369,2,none⟩ (.float .f64 ((rd_T56 l0_4 x70_3).f2))).setCell ⟨gb369,3,none⟩ (.float .f64 ((rd_T56 l0_4 x70_3).f3))).setCell ⟨gb369,4,none⟩ (.int .i64 ((rd_T56 l0_4 x70_3).f4))).heap[gb369]? = some (.cells #[.int .i64 ((rd_T56 l0_4 x70_3).f0),.int .i64 ((rd_T56 l0_4 x70_3).f1),.float .f64 ((rd_T56 l0_4 x70_3).f2),.float .f64 ((rd_T56 l0_4 x70_3).f3),.int .i64 ((rd_T56 l0_4 x70_3).f4)] 56 (0,0))):=⟨by (with_reducible repeat (first | refine blk_drewN ?_ _ | refine blk_drew ?_ | refine blk_alloc ?_ _));refine blk_put (cs:=#[.int .i64 ((rd_T56 l0_4 x70_3).f0),.int .i64 ((rd_T56 l0_4 x70_3).f1),.float .f64 ((rd_T56 l0_4 x70_3).f2),.float .f64 ((rd_T56 l0_4 x70_3).f3),.int .i64 0]) ?_ 4 _ rfl;(with_reducible repeat (first | refine blk_drewN ?_ _ | refine blk_drew ?_ | refine blk_alloc ?_ _));refine blk_put (cs:=#[.int .i64 ((rd_T56 l0_4 x70_3).f0),.int .i64 ((rd_T56 l0_4 x70_3).f1),.float .f64 ((rd_T56 l0_4 x70_3).f2),.float .f64 0,.int .i64 0]) ?_ 3 _ rfl;(with_reducible repeat (first | refine blk_drewN ?_ _ | refine blk_drew ?_ | refine blk_alloc ?_ _));refine blk_put (cs:=#[.int .i64 ((rd_T56 l0_4 x70_3).f0),.int .i64 ((rd_T56 l0_4 x70_3).f1),.float .f64 0,.float .f64 0,.int .i64 0]) ?_ 2 _ rfl;(with_reducible repeat (first | refine blk_drewN ?_ _ | refine blk_drew ?_ | refine blk_alloc ?_ _));refine blk_put (cs:=#[.int .i64 ((rd_T56 l0_4 x70_3).f0),.int .i64 0,.float .f64 0,.float .f64 0,.int .i64 0]) ?_ 1 _ rfl;(with_reducible repeat (first | refine blk_drewN ?_ _ | refine blk_drew ?_ | refine blk_alloc ?_ _));refine blk_put (cs:=#[.int .i64 0,.int .i64 0,.float .f64 0,.float .f64 0,.int .i64 0]) ?_ 0 _ rfl;(with_reducible repeat (first | refine blk_drewN ?_ _ | refine blk_drew ?_ | refine blk_alloc ?_ _));exact BK369.out⟩
         have n2_:Aside0 (Below w.heap.size w (((((w48.setCell ⟨gb369,0,none⟩ (.int .i64 ((rd_T56 l0_4 x70_3).f0))).setCell ⟨gb369,1,none⟩ (.int .i64 ((rd_T56 l0_4 x70_3).f1))).setCell ⟨gb369,2,none⟩ (.float .f64 ((rd_T56 l0_4 x70_3).f2))).setCell ⟨gb369,3,none⟩ (.float .f64 ((rd_T56 l0_4 x70_3).f3))).setCell ⟨gb369,4,none⟩ (.int .i64 ((rd_T56 l0_4 x70_3).f4)))):=⟨by repeat (first | (with_reducible first | exact HB.out | apply below_alloc | apply pw_below_drewN | apply below_drew1 | refine below_set ?_ GE365.out | refine below_set ?_ GE369.out) | exact HB.out)⟩
         (try clear BK365)
         (try clear BK369)
         (try clear HB)
         generalize (((((w48.setCell ⟨gb369,0,none⟩ (.int .i64 ((rd_T56 l0_4 x70_3).f0))).setCell ⟨gb369,1,none⟩ (.int .i64 ((rd_T56 l0_4 x70_3).f1))).setCell ⟨gb369,2,none⟩ (.float .f64 ((rd_T56 l0_4 x70_3).f2))).setCell ⟨gb369,3,none⟩ (.float .f64 ((rd_T56 l0_4 x70_3).f3))).setCell ⟨gb369,4,none⟩ (.int .i64 ((rd_T56 l0_4 x70_3).f4))) = w51 at n0_ n1_ n2_ ⊢
         have BK365:=n0_
         have BK369:=n1_
         have HB:=n2_
         clear n0_ n1_ n2_
         have n0_:=Aside0.mk (blk_drew BK365.out)
         have n1_:=Aside0.mk (blk_drew BK369.out)
         have n2_:=Aside0.mk (below_drew1 HB.out)
         clear BK365
         clear BK369
         clear HB
         have BK365:=n0_
         have BK369:=n1_
         have HB:=n2_
         clear n0_ n1_ n2_
         refine start_ (n:=20) (S:=fun w' => w'.cell? ⟨gb369,0,none⟩ = some (.int .i64 ((rd_T56 l0_4 x70_3).f0)) ∧ w'.cell? ⟨gb369,1,none⟩ = some (.int .i64 ((rd_T56 l0_4 x70_3).f1)) ∧ w'.cell? ⟨gb369,2,none⟩ = some (.float .f64 ((rd_T56 l0_4 x70_3).f2)) ∧ w'.cell? ⟨gb369,3,none⟩ = some (.float .f64 ((rd_T56 l0_4 x70_3).f3)) ∧ w'.cell? ⟨gb369,4,none⟩ = some (.int .i64 ((rd_T56 l0_4 x70_3).f4))) (ds:=[]) #[false,false,false,false,false,false,false,false,false,false,false,false,false,false,false,false,false,false,false,false] (by kernel_rfl) rfl rfl ⟨(blk_cell BK369.out 0).trans rfl,(blk_cell BK369.out 1).trans rfl,(blk_cell BK369.out 2).trans rfl,(blk_cell BK369.out 3).trans rfl,(blk_cell BK369.out 4).trans rfl⟩ (fun hHeld => ?_);refine with_tabW message_Check.tab11 message_Check.bits11 (fun HT_ HW_ => ?_)
         generalize w51.drew = w52 at BK365 BK369 HB hHeld ⊢
         refine manyW_ (fuel:=17) (a':=?_) ((0,0) :: (1,0) :: (2,2) :: []) #[true,true,true,false,false,false,false,false,false,false,false,false,false,false,false,false,false,false,false,false] rfl HT_ HW_ (by kernel_rfl) (fun _ _ _ _ _ h => h) (fun _ => hHeld) ?_ ?_
         rotate_left
         ·repeat (first | exact Chain.nil _ | (apply Chain.on;rfl;rfl;(focus intro w';go_simp;with_reducible rfl);(focus simp only [Act.put,List.setIfInBounds_toArray,List.set_cons_zero,List.set_cons_succ,i64_w,i32_w];rfl)) | (apply Chain.take;rfl;rfl;(focus rintro w' ⟨s0,s1,s2,s3,s4⟩;go_simp;with_reducible rfl);(focus simp only [Act.put,List.setIfInBounds_toArray,List.set_cons_zero,List.set_cons_succ,i64_w,i32_w];rfl)))
         refine one_ (i:=3) (N:=some 78) #[true,true,true,true,false,false,false,false,false,false,false,false,false,false,false,false,false,false,false,false] rfl rfl (one_of HT_.out (by kernel_rfl)) (by decide) (fun K hK => ?_)
         refine goes_ Try.func141 (by kernel_rfl) rfl #[.agg #[.int .i64 ((rd_T56 l0_4 x70_3).f0),.int .i64 ((rd_T56 l0_4 x70_3).f1),.float .f64 ((rd_T56 l0_4 x70_3).f2),.float .f64 ((rd_T56 l0_4 x70_3).f3),.int .i64 ((rd_T56 l0_4 x70_3).f4)]] (by rfl) rfl rfl (by (try simp only [List.map_toArray,List.map_cons,List.map_nil]);first | done | rfl | (simp only [List.length_drop,List.length_take];rfl)) ?_
         with_reducible refine (message_news.calls k3 ((rd_T56 l0_4 x70_3).f0) ((rd_T56 l0_4 x70_3).f1) ((rd_T56 l0_4 x70_3).f2) ((rd_T56 l0_4 x70_3).f3) ((rd_T56 l0_4 x70_3).f4) true _ A45.out).mono ?_
         rintro e w53 ⟨rfl,hb⟩
         refine ⟨_,rfl,?_⟩
         have n0_:=Aside0.mk (blk_below (g:=gb365) (o:=.cells #[.int .i64 a0_0,.int .u64 a0_1,.int .u64 a0_2,.int .u64 a0_3,.slice (some ad368) l0_4.length c0_4,.int .i64 a0_5,.int .i64 a0_6,.int .i64 a0_7,.int .i64 a0_8,.int .i64 a0_9,.int .i64 a0_10,.int .u64 a0_11,.int .i64 a0_12,.string a0_13,.int .i64 a0_14,.int .i64 a0_15,.string a0_16] 118 (0,0)) (by (with_reducible repeat (first | refine blk_drewN ?_ _ | refine blk_drew ?_ | refine blk_alloc ?_ _));exact BK365.out) hb)
         have n1_:=Aside0.mk (blk_below (g:=gb369) (o:=.cells #[.int .i64 ((rd_T56 l0_4 x70_3).f0),.int .i64 ((rd_T56 l0_4 x70_3).f1),.float .f64 ((rd_T56 l0_4 x70_3).f2),.float .f64 ((rd_T56 l0_4 x70_3).f3),.int .i64 ((rd_T56 l0_4 x70_3).f4)] 56 (0,0)) (by (with_reducible repeat (first | refine blk_drewN ?_ _ | refine blk_drew ?_ | refine blk_alloc ?_ _));exact BK369.out) hb)
         have n2_:=Aside0.mk (below_step (by repeat (first | (with_reducible first | exact HB.out | apply below_alloc | apply pw_below_drewN | apply below_drew1 | refine below_set ?_ GE365.out | refine below_set ?_ GE369.out) | exact HB.out)) hb)
         clear BK365
         clear BK369
         clear HB
         have BK365:=n0_
         have BK369:=n1_
         have HB:=n2_
         clear n0_ n1_ n2_
         (try clear hb)
         (try clear hb2)
         (try clear hk)
         (try clear hi)
         refine hK.out _ _ ⟨(blk_cell BK369.out 0).trans rfl,(blk_cell BK369.out 1).trans rfl,(blk_cell BK369.out 2).trans rfl,(blk_cell BK369.out 3).trans rfl,(blk_cell BK369.out 4).trans rfl⟩ (fun hHeld => ?_)
         clear hK K
         refine norm_ (a':=?_) ?_ ?_
         rotate_left
         ·show Act.put _ (some 78) _ = _
          simp only [Act.put,List.setIfInBounds_toArray,List.set_cons_zero,List.set_cons_succ,i64_w,i32_w]
          rfl
         refine manyT_ (fuel:=0) (a':=?_) ((4,0) :: (5,0) :: (6,0) :: (7,0) :: (8,0) :: (9,1) :: (10,1) :: (11,1) :: (12,1) :: (13,1) :: (14,1) :: (15,1) :: (16,1) :: (17,0) :: (18,0) :: (19,0) :: []) #[true,true,true,true,true,true,true,true,true,true,true,true,true,true,true,true,true,true,true,true] rfl HT_ (by kernel_rfl) (fun _ _ _ _ _ h => h) (fun h => absurd h (by decide)) ?_ ?_
         rotate_left
         ·repeat (first | exact Chain.nil _ | (apply Chain.on;rfl;rfl;(focus intro w';go_simp;with_reducible rfl);(focus simp only [Act.put,List.setIfInBounds_toArray,List.set_cons_zero,List.set_cons_succ,i64_w,i32_w];rfl)) | (apply Chain.off;rfl;rfl;(focus simp only [Act.put,List.setIfInBounds_toArray,List.set_cons_zero,List.set_cons_succ,i64_w,i32_w];rfl)))
         refine done_ (done_of HT_.out (by kernel_rfl)) ?_
         try go_wp2
         go_roundg k3
         case measure => have:=HJ14.out;have:=HJ17.out;have:=HK3.out;omega
         case rel => exact ⟨(true),(wrap64 (x70_3 + 1)),(by first | rfl | (simp;done) | (simp [*];done)),(by first | rfl | (simp;done) | (simp [*];done)),H',⟨by have:=HJ14.out;have:=HJ17.out;have:=HK3.out;omega⟩,⟨by (with_reducible repeat (first | refine blk_drewN ?_ _ | refine blk_drew ?_ | refine blk_alloc ?_ _));exact BK365.out⟩,⟨by repeat (first | (with_reducible first | exact HB.out | apply below_alloc | apply pw_below_drewN | apply below_drew1 | refine below_set ?_ GE365.out | refine below_set ?_ GE369.out) | exact HB.out)⟩⟩
        rw [if_neg c47] at H
        have c47b0:(x70_3 == 0) = false:=beq_eq_false_iff_ne.mpr c47
        have c47b1:(x70_3 != 0) = true:=bne_iff_ne.mpr c47
        obtain ⟨ji54,hji54⟩:∃ j_:Int,(wrap64 (x70_3 - 1)) = j_:=⟨_,rfl⟩
        replace H:(if 0 ≤ (ji54) then (if (ji54) < (l0_4.length:Int) then ((message_ahead.f ((rd_T56 l0_4 (ji54)).f0) ((rd_T56 l0_4 (ji54)).f1) ((rd_T56 l0_4 (ji54)).f2) ((rd_T56 l0_4 (ji54)).f3) ((rd_T56 l0_4 (ji54)).f4) ((rd_T56 l0_4 x70_3).f0) ((rd_T56 l0_4 x70_3).f1) ((rd_T56 l0_4 x70_3).f2) ((rd_T56 l0_4 x70_3).f3) ((rd_T56 l0_4 x70_3).f4)).bind fun t372 => (message_Check.l0 k3 t372 l0_4 (l0_4.length:Int) (wrap64 (x70_3 + 1)) a0_0 a0_1 a0_2 a0_3 l0_4 a0_5 a0_6 a0_7 a0_8 a0_9 a0_10 a0_11 a0_12 a0_13 a0_14 a0_15 a0_16)) else (none)) else (none)) = some r:=by first | (rw [hji54] at H;exact H) | (simp only [hji54] at H ⊢;exact H)
        (try rw [hji54] at A45)
        have hji54w:(IntKind.i64.wrap (x70_3 - 1)) = ji54:=(i64_w _).trans hji54
        by_cases c55:0 ≤ (ji54)
        rotate_left
        ·rw [if_neg c55] at H
         exact absurd H (by simp)
        rw [if_pos c55] at H
        have c55b0:decide (0 ≤ (ji54)) = true:=decide_eq_true c55
        clear c55
        by_cases c56:(ji54) < (l0_4.length:Int)
        rotate_left
        ·rw [if_neg c56] at H
         exact absurd H (by simp)
        rw [if_pos c56] at H
        have c56b0:decide ((ji54) < (l0_4.length:Int)) = true:=decide_eq_true c56
        clear c56
        replace H:=Option.bind_eq_some_iff.mp H
        obtain ⟨t372,A570,H⟩:=H
        replace H:(message_Check.l0 k3 t372 l0_4 (l0_4.length:Int) (wrap64 (x70_3 + 1)) a0_0 a0_1 a0_2 a0_3 l0_4 a0_5 a0_6 a0_7 a0_8 a0_9 a0_10 a0_11 a0_12 a0_13 a0_14 a0_15 a0_16) = some r:=H
        have A57:=Aside0.mk A570
        clear A570
        have H':=Aside0.mk H
        clear H
        have p368:0 ≤ (x70_3:Int):=of_decide_eq_true (by first | (with_reducible assumption) | assumption)
        have q368:x70_3 < (l0_4.length:Int):=of_decide_eq_true (by first | (with_reducible assumption) | assumption)
        obtain ⟨ad368,e368,hx368_0,hx368_1,hx368_2,hx368_3,hx368_4⟩:=at_T56 HR0_4.out x70_3 p368 q368
        cases e368
        replace hx368_0:=(HB.out.cell (World.block_lt_of_cell? w _ hx368_0)).trans hx368_0
        replace hx368_1:=(HB.out.cell (World.block_lt_of_cell? w _ hx368_1)).trans hx368_1
        replace hx368_2:=(HB.out.cell (World.block_lt_of_cell? w _ hx368_2)).trans hx368_2
        replace hx368_3:=(HB.out.cell (World.block_lt_of_cell? w _ hx368_3)).trans hx368_3
        replace hx368_4:=(HB.out.cell (World.block_lt_of_cell? w _ hx368_4)).trans hx368_4
        replace p368:=eq_true p368
        replace q368:=eq_true q368
        try go_wp2_with (first | ((with_reducible refine gate_dst (N:=5) rfl ?_);(try (refine gate_guard (by rfl) ?_;dsimp only));refine box_event ?hg (N:=5) ?hd (cs:=#[.int .i64 0,.int .i64 0,.float .f64 0,.float .f64 0,.int .i64 0]) (t:=56) ?hr ?_;(case hd => rfl);(case hg => rfl);(case hr => first | (go_simp;done) | (go_simp;rfl));intro gb369 hg w58 hbox hb;have n0_:=Aside0.mk (blk_below (g:=gb365) (o:=.cells #[.int .i64 a0_0,.int .u64 a0_1,.int .u64 a0_2,.int .u64 a0_3,.slice (some ad368) l0_4.length c0_4,.int .i64 a0_5,.int .i64 a0_6,.int .i64 a0_7,.int .i64 a0_8,.int .i64 a0_9,.int .i64 a0_10,.int .u64 a0_11,.int .i64 a0_12,.string a0_13,.int .i64 a0_14,.int .i64 a0_15,.string a0_16] 118 (0,0)) (by (with_reducible repeat (first | refine blk_drewN ?_ _ | refine blk_drew ?_ | refine blk_alloc ?_ _));exact BK365.out) hb);have n1_:=Aside0.mk (below_step (by repeat (first | (with_reducible first | exact HB.out | apply below_alloc | apply pw_below_drewN | apply below_drew1 | refine below_set ?_ GE365.out) | exact HB.out)) hb);have n2_:=Aside0.mk (hbox);have n3_:=Aside0.mk ((by rw [hg];exact (below_size (by repeat (first | (with_reducible first | exact HB.out | apply below_alloc | apply pw_below_drewN | apply below_drew1 | refine below_set ?_ GE365.out) | exact HB.out))):w.heap.size ≤ gb369));have n4_:=Aside0.mk ((by rw [hg];exact (below_size (by repeat (first | (with_reducible first | exact HB.out | apply below_alloc | apply pw_below_drewN | apply below_drew1 | refine below_set ?_ GE365.out) | exact HB.out))):w.heap.size ≤ gb369));have n5_:=Aside0.mk ((by rw [hg];exact Nat.ne_of_lt (blk_lt (g:=gb365) (o:=.cells #[.int .i64 a0_0,.int .u64 a0_1,.int .u64 a0_2,.int .u64 a0_3,.slice (some ad368) l0_4.length c0_4,.int .i64 a0_5,.int .i64 a0_6,.int .i64 a0_7,.int .i64 a0_8,.int .i64 a0_9,.int .i64 a0_10,.int .u64 a0_11,.int .i64 a0_12,.string a0_13,.int .i64 a0_14,.int .i64 a0_15,.string a0_16] 118 (0,0)) (by (with_reducible repeat (first | refine blk_drewN ?_ _ | refine blk_drew ?_ | refine blk_alloc ?_ _));exact BK365.out)):gb365 ≠ gb369));have n6_:=Aside0.mk ((by rw [hg];exact Nat.ne_of_gt (blk_lt (g:=gb365) (o:=.cells #[.int .i64 a0_0,.int .u64 a0_1,.int .u64 a0_2,.int .u64 a0_3,.slice (some ad368) l0_4.length c0_4,.int .i64 a0_5,.int .i64 a0_6,.int .i64 a0_7,.int .i64 a0_8,.int .i64 a0_9,.int .i64 a0_10,.int .u64 a0_11,.int .i64 a0_12,.string a0_13,.int .i64 a0_14,.int .i64 a0_15,.string a0_16] 118 (0,0)) (by (with_reducible repeat (first | refine blk_drewN ?_ _ | refine blk_drew ?_ | refine blk_alloc ?_ _));exact BK365.out)):gb369 ≠ gb365));clear BK365;clear HB;have BK365:=n0_;have HB:=n1_;have BK369:=n2_;have GW369:=n3_;have GE369:=n4_;have NB365_369:=n5_;have NB369_365:=n6_;clear n0_ n1_ n2_ n3_ n4_ n5_ n6_;clear hb hbox hg;have hnb59:=NB369_365.out;have hnc59:=NB365_369.out;have hcz60_0:w58.cell? ⟨gb369,0,none⟩ = some (.int .i64 0):=(blk_cell BK369.out 0).trans rfl;have hcz60_1:w58.cell? ⟨gb369,1,none⟩ = some (.int .i64 0):=(blk_cell BK369.out 1).trans rfl;have hcz60_2:w58.cell? ⟨gb369,2,none⟩ = some (.float .f64 0):=(blk_cell BK369.out 2).trans rfl;have hcz60_3:w58.cell? ⟨gb369,3,none⟩ = some (.float .f64 0):=(blk_cell BK369.out 3).trans rfl;have hcz60_4:w58.cell? ⟨gb369,4,none⟩ = some (.int .i64 0):=(blk_cell BK369.out 4).trans rfl;have hfz60_0:=blk_frozen BK369.out 0;have hfz60_1:=blk_frozen BK369.out 1;have hfz60_2:=blk_frozen BK369.out 2;have hfz60_3:=blk_frozen BK369.out 3;have hfz60_4:=blk_frozen BK369.out 4))
        have n0_:Aside0 ((((((w58.setCell ⟨gb369,0,none⟩ (.int .i64 ((rd_T56 l0_4 x70_3).f0))).setCell ⟨gb369,1,none⟩ (.int .i64 ((rd_T56 l0_4 x70_3).f1))).setCell ⟨gb369,2,none⟩ (.float .f64 ((rd_T56 l0_4 x70_3).f2))).setCell ⟨gb369,3,none⟩ (.float .f64 ((rd_T56 l0_4 x70_3).f3))).setCell ⟨gb369,4,none⟩ (.int .i64 ((rd_T56 l0_4 x70_3).f4))).heap[gb365]? = some (.cells #[.int .i64 a0_0,.int .u64 a0_1,.int .u64 a0_2,.int .u64 a0_3,.slice (some ad368) l0_4.length c0_4,.int .i64 a0_5,.int .i64 a0_6,.int .i64 a0_7,.int .i64 a0_8,.int .i64 a0_9,.int .i64 a0_10,.int .u64 a0_11,.int .i64 a0_12,.string a0_13,.int .i64 a0_14,.int .i64 a0_15,.string a0_16] 118 (0,0))):=⟨by (with_reducible repeat (first | refine blk_drewN ?_ _ | refine blk_drew ?_ | refine blk_alloc ?_ _));refine blk_far ?_ NB365_369.out _;(with_reducible repeat (first | refine blk_drewN ?_ _ | refine blk_drew ?_ | refine blk_alloc ?_ _));refine blk_far ?_ NB365_369.out _;(with_reducible repeat (first | refine blk_drewN ?_ _ | refine blk_drew ?_ | refine blk_alloc ?_ _));refine blk_far ?_ NB365_369.out _;(with_reducible repeat (first | refine blk_drewN ?_ _ | refine blk_drew ?_ | refine blk_alloc ?_ _));refine blk_far ?_ NB365_369.out _;(with_reducible repeat (first | refine blk_drewN ?_ _ | refine blk_drew ?_ | refine blk_alloc ?_ _));refine blk_far ?_ NB365_369.out _;(with_reducible repeat (first | refine blk_drewN ?_ _ | refine blk_drew ?_ | refine blk_alloc ?_ _));exact BK365.out⟩
        have n1_:Aside0 ((((((w58.setCell ⟨gb369,0,none⟩ (.int .i64 ((rd_T56 l0_4 x70_3).f0))).setCell ⟨gb369,1,none⟩ (.int .i64 ((rd_T56 l0_4 x70_3).f1))).setCell ⟨gb369,2,none⟩ (.float .f64 ((rd_T56 l0_4 x70_3).f2))).setCell ⟨gb369,3,none⟩ (.float .f64 ((rd_T56 l0_4 x70_3).f3))).setCell ⟨gb369,4,none⟩ (.int .i64 ((rd_T56 l0_4 x70_3).f4))).heap[gb369]? = some (.cells #[.int .i64 ((rd_T56 l0_4 x70_3).f0),.int .i64 ((rd_T56 l0_4 x70_3).f1),.float .f64 ((rd_T56 l0_4 x70_3).f2),.float .f64 ((rd_T56 l0_4 x70_3).f3),.int .i64 ((rd_T56 l0_4 x70_3).f4)] 56 (0,0))):=⟨by (with_reducible repeat (first | refine blk_drewN ?_ _ | refine blk_drew ?_ | refine blk_alloc ?_ _));refine blk_put (cs:=#[.int .i64 ((rd_T56 l0_4 x70_3).f0),.int .i64 ((rd_T56 l0_4 x70_3).f1),.float .f64 ((rd_T56 l0_4 x70_3).f2),.float .f64 ((rd_T56 l0_4 x70_3).f3),.int .i64 0]) ?_ 4 _ rfl;(with_reducible repeat (first | refine blk_drewN ?_ _ | refine blk_drew ?_ | refine blk_alloc ?_ _));refine blk_put (cs:=#[.int .i64 ((rd_T56 l0_4 x70_3).f0),.int .i64 ((rd_T56 l0_4 x70_3).f1),.float .f64 ((rd_T56 l0_4 x70_3).f2),.float .f64 0,.int .i64 0]) ?_ 3 _ rfl;(with_reducible repeat (first | refine blk_drewN ?_ _ | refine blk_drew ?_ | refine blk_alloc ?_ _));refine blk_put (cs:=#[.int .i64 ((rd_T56 l0_4 x70_3).f0),.int .i64 ((rd_T56 l0_4 x70_3).f1),.float .f64 0,.float .f64 0,.int .i64 0]) ?_ 2 _ rfl;(with_reducible repeat (first | refine blk_drewN ?_ _ | refine blk_drew ?_ | refine blk_alloc ?_ _));refine blk_put (cs:=#[.int .i64 ((rd_T56 l0_4 x70_3).f0),.int .i64 0,.float .f64 0,.float .f64 0,.int .i64 0]) ?_ 1 _ rfl;(with_reducible repeat (first | refine blk_drewN ?_ _ | refine blk_drew ?_ | refine blk_alloc ?_ _));refine blk_put (cs:=#[.int .i64 0,.int .i64 0,.float .f64 0,.float .f64 0,.int .i64 0]) ?_ 0 _ rfl;(with_reducible repeat (first | refine blk_drewN ?_ _ | refine blk_drew ?_ | refine blk_alloc ?_ _));exact BK369.out⟩
        have n2_:Aside0 (Below w.heap.size w (((((w58.setCell ⟨gb369,0,none⟩ (.int .i64 ((rd_T56 l0_4 x70_3).f0))).setCell ⟨gb369,1,none⟩ (.int .i64 ((rd_T56 l0_4 x70_3).f1))).setCell ⟨gb369,2,none⟩ (.float .f64 ((rd_T56 l0_4 x70_3).f2))).setCell ⟨gb369,3,none⟩ (.float .f64 ((rd_T56 l0_4 x70_3).f3))).setCell ⟨gb369,4,none⟩ (.int .i64 ((rd_T56 l0_4 x70_3).f4)))):=⟨by repeat (first | (with_reducible first | exact HB.out | apply below_alloc | apply pw_below_drewN | apply below_drew1 | refine below_set ?_ GE365.out | refine below_set ?_ GE369.out) | exact HB.out)⟩
        (try clear BK365)
        (try clear BK369)
        (try clear HB)
        generalize (((((w58.setCell ⟨gb369,0,none⟩ (.int .i64 ((rd_T56 l0_4 x70_3).f0))).setCell ⟨gb369,1,none⟩ (.int .i64 ((rd_T56 l0_4 x70_3).f1))).setCell ⟨gb369,2,none⟩ (.float .f64 ((rd_T56 l0_4 x70_3).f2))).setCell ⟨gb369,3,none⟩ (.float .f64 ((rd_T56 l0_4 x70_3).f3))).setCell ⟨gb369,4,none⟩ (.int .i64 ((rd_T56 l0_4 x70_3).f4))) = w61 at n0_ n1_ n2_ ⊢
        have BK365:=n0_
        have BK369:=n1_
        have HB:=n2_
        clear n0_ n1_ n2_
        have n0_:=Aside0.mk (blk_drew BK365.out)
        have n1_:=Aside0.mk (blk_drew BK369.out)
        have n2_:=Aside0.mk (below_drew1 HB.out)
        clear BK365
        clear BK369
        clear HB
        have BK365:=n0_
        have BK369:=n1_
        have HB:=n2_
        clear n0_ n1_ n2_
        have p371:0 ≤ ((ji54):Int):=of_decide_eq_true (by first | (with_reducible assumption) | assumption)
        have q371:(ji54) < (l0_4.length:Int):=of_decide_eq_true (by first | (with_reducible assumption) | assumption)
        obtain ⟨ad371,e371,hx371_0,hx371_1,hx371_2,hx371_3,hx371_4⟩:=at_T56 HR0_4.out (ji54) p371 q371
        have hw371_4:=hx371_4
        have hw371_3:=hx371_3
        have hw371_2:=hx371_2
        have hw371_1:=hx371_1
        have hw371_0:=hx371_0
        obtain rfl:ad368 = ad371:=(by injection e371)
        replace hx371_0:=(HB.out.cell (World.block_lt_of_cell? w _ hx371_0)).trans hx371_0
        replace hx371_1:=(HB.out.cell (World.block_lt_of_cell? w _ hx371_1)).trans hx371_1
        replace hx371_2:=(HB.out.cell (World.block_lt_of_cell? w _ hx371_2)).trans hx371_2
        replace hx371_3:=(HB.out.cell (World.block_lt_of_cell? w _ hx371_3)).trans hx371_3
        replace hx371_4:=(HB.out.cell (World.block_lt_of_cell? w _ hx371_4)).trans hx371_4
        replace p371:=eq_true p371
        replace q371:=eq_true q371
        refine start_ (n:=20) (S:=fun w' => w'.cell? ⟨gb369,0,none⟩ = some (.int .i64 ((rd_T56 l0_4 x70_3).f0)) ∧ w'.cell? ⟨gb369,1,none⟩ = some (.int .i64 ((rd_T56 l0_4 x70_3).f1)) ∧ w'.cell? ⟨gb369,2,none⟩ = some (.float .f64 ((rd_T56 l0_4 x70_3).f2)) ∧ w'.cell? ⟨gb369,3,none⟩ = some (.float .f64 ((rd_T56 l0_4 x70_3).f3)) ∧ w'.cell? ⟨gb369,4,none⟩ = some (.int .i64 ((rd_T56 l0_4 x70_3).f4)) ∧ w'.cell? ⟨gb365,0,none⟩ = some (.int .i64 a0_0) ∧ w'.cell? ⟨gb365,1,none⟩ = some (.int .u64 a0_1) ∧ w'.cell? ⟨gb365,2,none⟩ = some (.int .u64 a0_2) ∧ w'.cell? ⟨gb365,3,none⟩ = some (.int .u64 a0_3) ∧ w'.cell? ⟨gb365,4,none⟩ = some (.slice (some ad368) l0_4.length c0_4) ∧ w'.cell? ⟨gb365,5,none⟩ = some (.int .i64 a0_5) ∧ w'.cell? ⟨gb365,6,none⟩ = some (.int .i64 a0_6) ∧ w'.cell? ⟨gb365,7,none⟩ = some (.int .i64 a0_7) ∧ w'.cell? ⟨gb365,8,none⟩ = some (.int .i64 a0_8) ∧ w'.cell? ⟨gb365,9,none⟩ = some (.int .i64 a0_9) ∧ w'.cell? ⟨gb365,10,none⟩ = some (.int .i64 a0_10) ∧ w'.cell? ⟨gb365,11,none⟩ = some (.int .u64 a0_11) ∧ w'.cell? ⟨gb365,12,none⟩ = some (.int .i64 a0_12) ∧ w'.cell? ⟨gb365,13,none⟩ = some (.string a0_13) ∧ w'.cell? ⟨gb365,14,none⟩ = some (.int .i64 a0_14) ∧ w'.cell? ⟨gb365,15,none⟩ = some (.int .i64 a0_15) ∧ w'.cell? ⟨gb365,16,none⟩ = some (.string a0_16) ∧ w'.cell? (ad368.add (((ji54)).toNat * 5)) = some (.int .i64 ((rd_T56 l0_4 (ji54)).f0)) ∧ w'.cell? ⟨(ad368.add (((ji54)).toNat * 5)).block,(ad368.add (((ji54)).toNat * 5)).off + 1,none⟩ = some (.int .i64 ((rd_T56 l0_4 (ji54)).f1)) ∧ w'.cell? ⟨(ad368.add (((ji54)).toNat * 5)).block,(ad368.add (((ji54)).toNat * 5)).off + 2,none⟩ = some (.float .f64 ((rd_T56 l0_4 (ji54)).f2)) ∧ w'.cell? ⟨(ad368.add (((ji54)).toNat * 5)).block,(ad368.add (((ji54)).toNat * 5)).off + 3,none⟩ = some (.float .f64 ((rd_T56 l0_4 (ji54)).f3)) ∧ w'.cell? ⟨(ad368.add (((ji54)).toNat * 5)).block,(ad368.add (((ji54)).toNat * 5)).off + 4,none⟩ = some (.int .i64 ((rd_T56 l0_4 (ji54)).f4))) (ds:=[]) #[false,false,false,false,false,false,false,false,false,false,false,false,false,false,false,false,false,false,false,false] (by kernel_rfl) rfl rfl ⟨(blk_cell BK369.out 0).trans rfl,(blk_cell BK369.out 1).trans rfl,(blk_cell BK369.out 2).trans rfl,(blk_cell BK369.out 3).trans rfl,(blk_cell BK369.out 4).trans rfl,(blk_cell BK365.out 0).trans rfl,(blk_cell BK365.out 1).trans rfl,(blk_cell BK365.out 2).trans rfl,(blk_cell BK365.out 3).trans rfl,(blk_cell BK365.out 4).trans rfl,(blk_cell BK365.out 5).trans rfl,(blk_cell BK365.out 6).trans rfl,(blk_cell BK365.out 7).trans rfl,(blk_cell BK365.out 8).trans rfl,(blk_cell BK365.out 9).trans rfl,(blk_cell BK365.out 10).trans rfl,(blk_cell BK365.out 11).trans rfl,(blk_cell BK365.out 12).trans rfl,(blk_cell BK365.out 13).trans rfl,(blk_cell BK365.out 14).trans rfl,(blk_cell BK365.out 15).trans rfl,(blk_cell BK365.out 16).trans rfl,((HB.out.cell (World.block_lt_of_cell? w _ hw371_0)).trans hw371_0),((HB.out.cell (World.block_lt_of_cell? w _ hw371_1)).trans hw371_1),((HB.out.cell (World.block_lt_of_cell? w _ hw371_2)).trans hw371_2),((HB.out.cell (World.block_lt_of_cell? w _ hw371_3)).trans hw371_3),((HB.out.cell (World.block_lt_of_cell? w _ hw371_4)).trans hw371_4)⟩ (fun hHeld => ?_);refine with_tabW message_Check.tab11 message_Check.bits11 (fun HT_ HW_ => ?_)
        generalize w61.drew = w62 at BK365 BK369 HB hx371_0 hx371_1 hx371_2 hx371_3 hx371_4 hHeld ⊢
        refine manyW_ (fuel:=17) (a':=?_) ((0,0) :: (1,0) :: (2,2) :: []) #[true,true,true,false,false,false,false,false,false,false,false,false,false,false,false,false,false,false,false,false] rfl HT_ HW_ (by kernel_rfl) (fun _ _ _ _ _ h => h) (fun _ => hHeld) ?_ ?_
        rotate_left
        ·repeat (first | exact Chain.nil _ | (apply Chain.on;rfl;rfl;(focus intro w';go_simp;with_reducible rfl);(focus simp only [Act.put,List.setIfInBounds_toArray,List.set_cons_zero,List.set_cons_succ,i64_w,i32_w];rfl)) | (apply Chain.take;rfl;rfl;(focus rintro w' ⟨s0,s1,s2,s3,s4,s5,s6,s7,s8,s9,s10,s11,s12,s13,s14,s15,s16,s17,s18,s19,s20,s21,s22,s23,s24,s25,s26⟩;go_simp;with_reducible rfl);(focus simp only [Act.put,List.setIfInBounds_toArray,List.set_cons_zero,List.set_cons_succ,i64_w,i32_w];rfl)))
        refine one_ (i:=3) (N:=some 78) #[true,true,true,true,false,false,false,false,false,false,false,false,false,false,false,false,false,false,false,false] rfl rfl (one_of HT_.out (by kernel_rfl)) (by decide) (fun K hK => ?_)
        refine goes_ Try.func141 (by kernel_rfl) rfl #[.agg #[.int .i64 ((rd_T56 l0_4 x70_3).f0),.int .i64 ((rd_T56 l0_4 x70_3).f1),.float .f64 ((rd_T56 l0_4 x70_3).f2),.float .f64 ((rd_T56 l0_4 x70_3).f3),.int .i64 ((rd_T56 l0_4 x70_3).f4)]] (by rfl) rfl rfl (by (try simp only [List.map_toArray,List.map_cons,List.map_nil]);first | done | rfl | (simp only [List.length_drop,List.length_take];rfl)) ?_
        with_reducible refine (message_news.calls k3 ((rd_T56 l0_4 x70_3).f0) ((rd_T56 l0_4 x70_3).f1) ((rd_T56 l0_4 x70_3).f2) ((rd_T56 l0_4 x70_3).f3) ((rd_T56 l0_4 x70_3).f4) true _ A45.out).mono ?_
        rintro e w63 ⟨rfl,hb⟩
        refine ⟨_,rfl,?_⟩
        have n0_:=Aside0.mk (blk_below (g:=gb365) (o:=.cells #[.int .i64 a0_0,.int .u64 a0_1,.int .u64 a0_2,.int .u64 a0_3,.slice (some ad368) l0_4.length c0_4,.int .i64 a0_5,.int .i64 a0_6,.int .i64 a0_7,.int .i64 a0_8,.int .i64 a0_9,.int .i64 a0_10,.int .u64 a0_11,.int .i64 a0_12,.string a0_13,.int .i64 a0_14,.int .i64 a0_15,.string a0_16] 118 (0,0)) (by (with_reducible repeat (first | refine blk_drewN ?_ _ | refine blk_drew ?_ | refine blk_alloc ?_ _));exact BK365.out) hb)
        have n1_:=Aside0.mk (blk_below (g:=gb369) (o:=.cells #[.int .i64 ((rd_T56 l0_4 x70_3).f0),.int .i64 ((rd_T56 l0_4 x70_3).f1),.float .f64 ((rd_T56 l0_4 x70_3).f2),.float .f64 ((rd_T56 l0_4 x70_3).f3),.int .i64 ((rd_T56 l0_4 x70_3).f4)] 56 (0,0)) (by (with_reducible repeat (first | refine blk_drewN ?_ _ | refine blk_drew ?_ | refine blk_alloc ?_ _));exact BK369.out) hb)
        have n2_:=Aside0.mk (below_step (by repeat (first | (with_reducible first | exact HB.out | apply below_alloc | apply pw_below_drewN | apply below_drew1 | refine below_set ?_ GE365.out | refine below_set ?_ GE369.out) | exact HB.out)) hb)
        clear BK365
        clear BK369
        clear HB
        have BK365:=n0_
        have BK369:=n1_
        have HB:=n2_
        clear n0_ n1_ n2_
        (try clear hb)
        (try clear hb2)
        (try clear hk)
        (try clear hi)
        refine hK.out _ _ ⟨(blk_cell BK369.out 0).trans rfl,(blk_cell BK369.out 1).trans rfl,(blk_cell BK369.out 2).trans rfl,(blk_cell BK369.out 3).trans rfl,(blk_cell BK369.out 4).trans rfl,(blk_cell BK365.out 0).trans rfl,(blk_cell BK365.out 1).trans rfl,(blk_cell BK365.out 2).trans rfl,(blk_cell BK365.out 3).trans rfl,(blk_cell BK365.out 4).trans rfl,(blk_cell BK365.out 5).trans rfl,(blk_cell BK365.out 6).trans rfl,(blk_cell BK365.out 7).trans rfl,(blk_cell BK365.out 8).trans rfl,(blk_cell BK365.out 9).trans rfl,(blk_cell BK365.out 10).trans rfl,(blk_cell BK365.out 11).trans rfl,(blk_cell BK365.out 12).trans rfl,(blk_cell BK365.out 13).trans rfl,(blk_cell BK365.out 14).trans rfl,(blk_cell BK365.out 15).trans rfl,(blk_cell BK365.out 16).trans rfl,((HB.out.cell (World.block_lt_of_cell? w _ hw371_0)).trans hw371_0),((HB.out.cell (World.block_lt_of_cell? w _ hw371_1)).trans hw371_1),((HB.out.cell (World.block_lt_of_cell? w _ hw371_2)).trans hw371_2),((HB.out.cell (World.block_lt_of_cell? w _ hw371_3)).trans hw371_3),((HB.out.cell (World.block_lt_of_cell? w _ hw371_4)).trans hw371_4)⟩ (fun hHeld => ?_)
        clear hK K
        refine norm_ (a':=?_) ?_ ?_
        rotate_left
        ·show Act.put _ (some 78) _ = _
         simp only [Act.put,List.setIfInBounds_toArray,List.set_cons_zero,List.set_cons_succ,i64_w,i32_w]
         rfl
        refine manyW_ (fuel:=4) (a':=?_) ((4,0) :: (5,0) :: (6,0) :: (7,0) :: (8,0) :: (9,0) :: (11,0) :: (12,0) :: (10,2) :: (13,0) :: (14,2) :: (15,2) :: []) #[true,true,true,true,true,true,true,true,true,true,true,true,true,true,true,true,false,false,false,false] rfl HT_ HW_ (by kernel_rfl) (fun _ _ _ _ _ h => h) (fun _ => hHeld) ?_ ?_
        rotate_left
        ·repeat (first | exact Chain.nil _ | (apply Chain.on;rfl;rfl;(focus intro w';go_simp;with_reducible rfl);(focus simp only [Act.put,List.setIfInBounds_toArray,List.set_cons_zero,List.set_cons_succ,i64_w,i32_w];rfl)) | (apply Chain.take;rfl;rfl;(focus rintro w' ⟨s0,s1,s2,s3,s4,s5,s6,s7,s8,s9,s10,s11,s12,s13,s14,s15,s16,s17,s18,s19,s20,s21,s22,s23,s24,s25,s26⟩;go_simp;with_reducible rfl);(focus simp only [Act.put,List.setIfInBounds_toArray,List.set_cons_zero,List.set_cons_succ,i64_w,i32_w];rfl)))
        refine one_ (i:=16) (N:=some 91) #[true,true,true,true,true,true,true,true,true,true,true,true,true,true,true,true,true,false,false,false] rfl rfl (one_of HT_.out (by kernel_rfl)) (by decide) (fun K hK => ?_)
        refine goes_ Try.func142 (by kernel_rfl) rfl #[.agg #[.int .i64 ((rd_T56 l0_4 (ji54)).f0),.int .i64 ((rd_T56 l0_4 (ji54)).f1),.float .f64 ((rd_T56 l0_4 (ji54)).f2),.float .f64 ((rd_T56 l0_4 (ji54)).f3),.int .i64 ((rd_T56 l0_4 (ji54)).f4)],.agg #[.int .i64 ((rd_T56 l0_4 x70_3).f0),.int .i64 ((rd_T56 l0_4 x70_3).f1),.float .f64 ((rd_T56 l0_4 x70_3).f2),.float .f64 ((rd_T56 l0_4 x70_3).f3),.int .i64 ((rd_T56 l0_4 x70_3).f4)]] (by rfl) rfl rfl (by (try simp only [List.map_toArray,List.map_cons,List.map_nil]);first | done | (simp only [hji54];rfl) | rfl | (simp only [List.length_drop,List.length_take];rfl)) ?_
        with_reducible refine (message_ahead.calls ((rd_T56 l0_4 (ji54)).f0) ((rd_T56 l0_4 (ji54)).f1) ((rd_T56 l0_4 (ji54)).f2) ((rd_T56 l0_4 (ji54)).f3) ((rd_T56 l0_4 (ji54)).f4) ((rd_T56 l0_4 x70_3).f0) ((rd_T56 l0_4 x70_3).f1) ((rd_T56 l0_4 x70_3).f2) ((rd_T56 l0_4 x70_3).f3) ((rd_T56 l0_4 x70_3).f4) t372 _ A57.out).mono ?_
        rintro e w64 ⟨rfl,hb⟩
        refine ⟨_,rfl,?_⟩
        have n0_:=Aside0.mk (blk_below (g:=gb365) (o:=.cells #[.int .i64 a0_0,.int .u64 a0_1,.int .u64 a0_2,.int .u64 a0_3,.slice (some ad368) l0_4.length c0_4,.int .i64 a0_5,.int .i64 a0_6,.int .i64 a0_7,.int .i64 a0_8,.int .i64 a0_9,.int .i64 a0_10,.int .u64 a0_11,.int .i64 a0_12,.string a0_13,.int .i64 a0_14,.int .i64 a0_15,.string a0_16] 118 (0,0)) (by (with_reducible repeat (first | refine blk_drewN ?_ _ | refine blk_drew ?_ | refine blk_alloc ?_ _));exact BK365.out) hb)
        have n1_:=Aside0.mk (blk_below (g:=gb369) (o:=.cells #[.int .i64 ((rd_T56 l0_4 x70_3).f0),.int .i64 ((rd_T56 l0_4 x70_3).f1),.float .f64 ((rd_T56 l0_4 x70_3).f2),.float .f64 ((rd_T56 l0_4 x70_3).f3),.int .i64 ((rd_T56 l0_4 x70_3).f4)] 56 (0,0)) (by (with_reducible repeat (first | refine blk_drewN ?_ _ | refine blk_drew ?_ | refine blk_alloc ?_ _));exact BK369.out) hb)
        have n2_:=Aside0.mk (below_step (by repeat (first | (with_reducible first | exact HB.out | apply below_alloc | apply pw_below_drewN | apply below_drew1 | refine below_set ?_ GE365.out | refine below_set ?_ GE369.out) | exact HB.out)) hb)
        clear BK365
        clear BK369
        clear HB
        have BK365:=n0_
        have BK369:=n1_
        have HB:=n2_
        clear n0_ n1_ n2_
        (try clear hb)
        (try clear hb2)
        (try clear hk)
        (try clear hi)
        refine hK.out _ _ ⟨(blk_cell BK369.out 0).trans rfl,(blk_cell BK369.out 1).trans rfl,(blk_cell BK369.out 2).trans rfl,(blk_cell BK369.out 3).trans rfl,(blk_cell BK369.out 4).trans rfl,(blk_cell BK365.out 0).trans rfl,(blk_cell BK365.out 1).trans rfl,(blk_cell BK365.out 2).trans rfl,(blk_cell BK365.out 3).trans rfl,(blk_cell BK365.out 4).trans rfl,(blk_cell BK365.out 5).trans rfl,(blk_cell BK365.out 6).trans rfl,(blk_cell BK365.out 7).trans rfl,(blk_cell BK365.out 8).trans rfl,(blk_cell BK365.out 9).trans rfl,(blk_cell BK365.out 10).trans rfl,(blk_cell BK365.out 11).trans rfl,(blk_cell BK365.out 12).trans rfl,(blk_cell BK365.out 13).trans rfl,(blk_cell BK365.out 14).trans rfl,(blk_cell BK365.out 15).trans rfl,(blk_cell BK365.out 16).trans rfl,((HB.out.cell (World.block_lt_of_cell? w _ hw371_0)).trans hw371_0),((HB.out.cell (World.block_lt_of_cell? w _ hw371_1)).trans hw371_1),((HB.out.cell (World.block_lt_of_cell? w _ hw371_2)).trans hw371_2),((HB.out.cell (World.block_lt_of_cell? w _ hw371_3)).trans hw371_3),((HB.out.cell (World.block_lt_of_cell? w _ hw371_4)).trans hw371_4)⟩ (fun hHeld => ?_)
        clear hK K
        refine norm_ (a':=?_) ?_ ?_
        rotate_left
        ·show Act.put _ (some 91) _ = _
         simp only [Act.put,List.setIfInBounds_toArray,List.set_cons_zero,List.set_cons_succ,i64_w,i32_w]
         rfl
        refine manyT_ (fuel:=0) (a':=?_) ((17,0) :: (18,0) :: (19,0) :: []) #[true,true,true,true,true,true,true,true,true,true,true,true,true,true,true,true,true,true,true,true] rfl HT_ (by kernel_rfl) (fun _ _ _ _ _ h => h) (fun h => absurd h (by decide)) ?_ ?_
        rotate_left
        ·repeat (first | exact Chain.nil _ | (apply Chain.on;rfl;rfl;(focus intro w';go_simp;with_reducible rfl);(focus simp only [Act.put,List.setIfInBounds_toArray,List.set_cons_zero,List.set_cons_succ,i64_w,i32_w];rfl)))
        refine done_ (done_of HT_.out (by kernel_rfl)) ?_
        try go_wp2
        go_roundg k3
        case measure => have:=HJ14.out;have:=HJ17.out;have:=HK3.out;omega
        case rel => exact ⟨(t372),(wrap64 (x70_3 + 1)),(by first | rfl | (simp;done) | (simp [*];done)),(by first | rfl | (simp;done) | (simp [*];done)),H',⟨by have:=HJ14.out;have:=HJ17.out;have:=HK3.out;omega⟩,⟨by (with_reducible repeat (first | refine blk_drewN ?_ _ | refine blk_drew ?_ | refine blk_alloc ?_ _));exact BK365.out⟩,⟨by repeat (first | (with_reducible first | exact HB.out | apply below_alloc | apply pw_below_drewN | apply below_drew1 | refine below_set ?_ GE365.out | refine below_set ?_ GE369.out) | exact HB.out)⟩⟩
 case rest =>
  clear HC2
  obtain ⟨kq,x3_1,rfl,HA,HJ1,HB⟩:=hcut
  cases kq with
  | zero => exact absurd HA.out (by simp [message_Check.j3])
  | succ kj1 =>
   have H:=HA.out
   clear HA
   simp only [message_Check.j3] at H
   by_cases c88:x3_1 = true
   ·subst c88
    have H1:(some 0) = some r:=by rw [if_pos rfl] at H;exact H
    clear H
    have H:=H1
    clear H1
    obtain rfl:=Option.some.inj H
    go_wp2
    go_ret
    exact ⟨by first | rfl | (simp [errW_none,errW_some] <;> rfl) | (simp [*,errW_none,errW_some] <;> rfl),by repeat (first | (with_reducible first | exact HB.out | apply below_alloc | apply pw_below_drewN | apply below_drew1) | exact HB.out)⟩
   replace c88:=Bool.eq_false_iff.mpr c88
   subst c88
   have H1:(some 60) = some r:=by rw [if_neg (show ¬ (false = true) by decide)] at H;exact H
   clear H
   have H:=H1
   clear H1
   obtain rfl:=Option.some.inj H
   go_wp2
   go_ret
   exact ⟨by first | rfl | (simp [errW_none,errW_some] <;> rfl) | (simp [*,errW_none,errW_some] <;> rfl),by repeat (first | (with_reducible first | exact HB.out | apply below_alloc | apply pw_below_drewN | apply below_drew1) | exact HB.out)⟩
end Go.Proofs.Ytjcnmpkaiopihaa.PA
