/- Printed out of the program's form. Conditions: those that each theorem names. -/
import Derived.Test.YtblemmagkehanaaGreatZkMn
import Derived.Test.YtblemmagkehanaaGreatZkPAx0
import Derived.Test.YtblemmagkehanaaGreatZkPAx4
namespace Go.Proofs.YtblemmagkehanaaGreat.PA
open Go.RowKit Go.Proofs.YtblemmagkehanaaGreatW.PrintWords Go.Proofs.YtblemmagkehanaaGreatW.PrintLast Go.Proofs.YtblemmagkehanaaGreatW.PrintMore
attribute [local go_sem] max2_int min2_int max_two min_two max_three min_three max_four min_four
set_option linter.unusedVariables false
set_option linter.unusedSimpArgs false
mutual
def beaconref13_told.l0:Nat → List (S61) → Int → Option (Bool)
 | 0,_,_ => none
 | k + 1,x0,x3 => if x3 < (x0.length:Int) then (if 0 ≤ x3 then ((beaconref06_May.f k ((rd_T61 x0 x3).f0) ((rd_T61 x0 x3).f1) ((rd_T61 x0 x3).f2) ((rd_T61 x0 x3).f3) ((rd_T61 x0 x3).f4)).bind fun t194 => (if t194 = true then (if x3 > 0 then (if 0 ≤ (wrap64 (x3 - 1)) then (if (wrap64 (x3 - 1)) < (x0.length:Int) then ((beaconref06_Before.f ((rd_T61 x0 (wrap64 (x3 - 1))).f0) ((rd_T61 x0 (wrap64 (x3 - 1))).f1) ((rd_T61 x0 (wrap64 (x3 - 1))).f2) ((rd_T61 x0 (wrap64 (x3 - 1))).f3) ((rd_T61 x0 (wrap64 (x3 - 1))).f4) ((rd_T61 x0 x3).f0) ((rd_T61 x0 x3).f1) ((rd_T61 x0 x3).f2) ((rd_T61 x0 x3).f3) ((rd_T61 x0 x3).f4)).bind fun t197 => (beaconref13_told.j1 k x0 x3 (!t197))) else (none)) else (none)) else (beaconref13_told.j1 k x0 x3 false)) else (beaconref13_told.j1 k x0 x3 true))) else (none)) else (some true)
def beaconref13_told.j1:Nat → List (S61) → Int → Bool → Option (Bool)
 | 0,_,_,_ => none
 | k + 1,x0,x3,x32 => if x32 = true then (some false) else (beaconref13_told.l0 k x0 (wrap64 (x3 + 1)))
end
def beaconref13_told.f (k:Nat) (l0:List (S61)):Option (Bool):=beaconref13_told.l0 k l0 0
def beaconref13_told.T4:Bool × List (List Nat × List Nat):=(true,[([],[]),([],[]),([0,1],[0,1]),([2],[2]),([3],[3]),([4],[4]),([5,4],[5]),([6],[6]),([7,6],[6,7]),([8,6,6],[6,8]),([9],[9]),([9],[9]),([11,9],[9,11]),([10,12,9],[9,10,12]),([13,9],[9,13]),([9],[9]),([9],[9]),([15,16,9],[9,15,16]),([17,9],[9,17]),([14,18,9,9],[9,14,18]),([19,9],[9,19]),([9,20,6],[6,9,20]),([6,21],[6,21])])
def beaconref13_told.B4:List Nat:=[0,0,3,7,15,31,63,127,255,511,1023,1023,3071,8191,16383,1023,1023,99327,230399,524287,1048575,2097151,4194303]
theorem beaconref13_told.tab4:rtab .any (opsOf Tryz.f37 4) = beaconref13_told.T4:=by kernel_rfl
theorem beaconref13_told.bits4:waitsOk beaconref13_told.T4.2 beaconref13_told.B4 = true:=by kernel_rfl
set_option maxHeartbeats 8000000 in
set_option maxRecDepth 100000 in
theorem beaconref13_told.calls (k:Nat) (A0:Option Addr) (c0:Nat) (l0:List (S61)) (r:Bool) (w:World) (hr0:Kd.C k61 w A0 l0.length l0) (hc0:l0.length ≤ c0) (h:beaconref13_told.f k l0 = some r) :
  Calls Tryz.prog 37 #[.slice A0 l0.length c0] w fun e w' => e = .returned (.bool r) ∧ Below w.heap.size w w':=by
 have hu61:=Tryz.underlying61;have HR0:=Aside0.mk hr0;have HC0:=Aside0.mk hc0;clear hr0 hc0;have HB:=Aside0.mk (Below.refl w.heap.size w);have H:(beaconref13_told.l0 k l0 0) = some r:=h;clear h;have H':=Aside0.mk H;clear H;go_enter Tryz.func37,Tryz.ntmps37;go_wp2
 go_loopg [3] k (fun kq v3 w' => ∃ (x3_1:Int),v3 = .int .i64 x3_1 ∧ Aside0 (beaconref13_told.l0 kq l0 x3_1 = some r) ∧ Aside0 (kq ≤ k) ∧ Aside0 (Below w.heap.size w w'))
 case atStart => exact ⟨(0),(by first | rfl | (simp;done) | (simp [*];done)),H',⟨Nat.le_refl _⟩,⟨by repeat (first | (with_reducible first | exact HB.out | apply below_alloc | apply pw_below_drewN | apply below_drew1) | exact HB.out)⟩⟩
 case round =>
  clear H';obtain ⟨x3_1,rfl,HA,HK1,HB⟩:=hrel
  cases gk with
  | zero => exact absurd HA.out (by simp [beaconref13_told.l0])
  | succ k1 =>
   have H:=HA.out;clear HA;simp only [beaconref13_told.l0] at H
   by_cases c2:x3_1 < (l0.length:Int)
   rotate_left
   ·rw [if_neg c2] at H
    have c2b0:decide (x3_1 < (l0.length:Int)) = false:=decide_eq_false c2;clear c2;obtain rfl:=Option.some.inj H;go_wp2;go_ret;exact ⟨by first | rfl | (simp [errW_none,errW_some] <;> rfl) | (simp [*,errW_none,errW_some] <;> rfl),by repeat (first | (with_reducible first | exact HB.out | apply below_alloc | apply pw_below_drewN | apply below_drew1) | exact HB.out)⟩
   rw [if_pos c2] at H;have c2b0:decide (x3_1 < (l0.length:Int)) = true:=decide_eq_true c2;clear c2;have HC3:=Aside0.mk H;clear H
   go_upto_region 4 with (fail)
   go_cut [32] (fun v32 wc => ∃ (kq:Nat) (x32_2:Bool),v32 = .bool x32_2 ∧ Aside0 (beaconref13_told.j1 kq l0 x3_1 x32_2 = some r) ∧ Aside0 (kq ≤ k1) ∧ Aside0 (Below w.heap.size w wc))
   case first =>
    have H:=HC3.out;clear HC3
    by_cases c4:0 ≤ x3_1
    rotate_left
    ·rw [if_neg c4] at H
     exact absurd H (by simp)
    rw [if_pos c4] at H;have c4b0:decide (0 ≤ x3_1) = true:=decide_eq_true c4;clear c4
    (first | rw [c4b0] | (simp only [i64_w,i32_w];rw [c4b0]) | skip)
    replace H:=Option.bind_eq_some_iff.mp H;obtain ⟨t194,A50,H⟩:=H;replace H:(if t194 = true then (if x3_1 > 0 then (if 0 ≤ (wrap64 (x3_1 - 1)) then (if (wrap64 (x3_1 - 1)) < (l0.length:Int) then ((beaconref06_Before.f ((rd_T61 l0 (wrap64 (x3_1 - 1))).f0) ((rd_T61 l0 (wrap64 (x3_1 - 1))).f1) ((rd_T61 l0 (wrap64 (x3_1 - 1))).f2) ((rd_T61 l0 (wrap64 (x3_1 - 1))).f3) ((rd_T61 l0 (wrap64 (x3_1 - 1))).f4) ((rd_T61 l0 x3_1).f0) ((rd_T61 l0 x3_1).f1) ((rd_T61 l0 x3_1).f2) ((rd_T61 l0 x3_1).f3) ((rd_T61 l0 x3_1).f4)).bind fun t197 => (beaconref13_told.j1 k1 l0 x3_1 (!t197))) else (none)) else (none)) else (beaconref13_told.j1 k1 l0 x3_1 false)) else (beaconref13_told.j1 k1 l0 x3_1 true)) = some r:=H;have A5:=Aside0.mk A50;clear A50
    by_cases c6:t194 = true
    rotate_left
    ·replace c6:=Bool.eq_false_iff.mpr c6
     subst c6;have H1:(beaconref13_told.j1 k1 l0 x3_1 true) = some r:=by rw [if_neg (show ¬ (false = true) by decide)] at H;exact H
     clear H;have H:=H1;clear H1;have H':=Aside0.mk H;clear H
     try go_wp2
     have n0_:=Aside0.mk (below_drew1 HB.out);clear HB;have HB:=n0_;clear n0_;have p193:0 ≤ (x3_1:Int):=of_decide_eq_true (by first | (with_reducible assumption) | assumption);have q193:x3_1 < (l0.length:Int):=of_decide_eq_true (by first | (with_reducible assumption) | assumption);obtain ⟨ad193,e193,hx193_0,hx193_1,hx193_2,hx193_3,hx193_4⟩:=at_T61 HR0.out x3_1 p193 q193;have hw193_4:=hx193_4;have hw193_3:=hx193_3;have hw193_2:=hx193_2;have hw193_1:=hx193_1;have hw193_0:=hx193_0
     cases e193
     replace hx193_0:=(HB.out.cell (World.block_lt_of_cell? w _ hx193_0)).trans hx193_0;replace hx193_1:=(HB.out.cell (World.block_lt_of_cell? w _ hx193_1)).trans hx193_1;replace hx193_2:=(HB.out.cell (World.block_lt_of_cell? w _ hx193_2)).trans hx193_2;replace hx193_3:=(HB.out.cell (World.block_lt_of_cell? w _ hx193_3)).trans hx193_3;replace hx193_4:=(HB.out.cell (World.block_lt_of_cell? w _ hx193_4)).trans hx193_4;replace p193:=eq_true p193;replace q193:=eq_true q193;refine start_ (n:=23) (S:=fun w' => w'.cell? (ad193.add ((x3_1).toNat * 5)) = some (.int .i64 ((rd_T61 l0 x3_1).f0)) ∧ w'.cell? ⟨(ad193.add ((x3_1).toNat * 5)).block,(ad193.add ((x3_1).toNat * 5)).off + 1,none⟩ = some (.int .i64 ((rd_T61 l0 x3_1).f1)) ∧ w'.cell? ⟨(ad193.add ((x3_1).toNat * 5)).block,(ad193.add ((x3_1).toNat * 5)).off + 2,none⟩ = some (.float .f64 ((rd_T61 l0 x3_1).f2)) ∧ w'.cell? ⟨(ad193.add ((x3_1).toNat * 5)).block,(ad193.add ((x3_1).toNat * 5)).off + 3,none⟩ = some (.float .f64 ((rd_T61 l0 x3_1).f3)) ∧ w'.cell? ⟨(ad193.add ((x3_1).toNat * 5)).block,(ad193.add ((x3_1).toNat * 5)).off + 4,none⟩ = some (.int .i64 ((rd_T61 l0 x3_1).f4))) (ds:=[]) #[false,false,false,false,false,false,false,false,false,false,false,false,false,false,false,false,false,false,false,false,false,false,false] (by kernel_rfl) rfl rfl ⟨((HB.out.cell (World.block_lt_of_cell? w _ hw193_0)).trans hw193_0),((HB.out.cell (World.block_lt_of_cell? w _ hw193_1)).trans hw193_1),((HB.out.cell (World.block_lt_of_cell? w _ hw193_2)).trans hw193_2),((HB.out.cell (World.block_lt_of_cell? w _ hw193_3)).trans hw193_3),((HB.out.cell (World.block_lt_of_cell? w _ hw193_4)).trans hw193_4)⟩ (fun hHeld => ?_);refine with_tabW beaconref13_told.tab4 beaconref13_told.bits4 (fun HT_ HW_ => ?_)
     generalize wr.drew = w17 at HB hx193_0 hx193_1 hx193_2 hx193_3 hx193_4 hHeld ⊢
     refine manyW_ (fuel:=19) (a':=?_) ((0,0) :: (1,0) :: (2,0) :: (3,2) :: []) #[true,true,true,true,false,false,false,false,false,false,false,false,false,false,false,false,false,false,false,false,false,false,false] rfl HT_ HW_ (by kernel_rfl) (fun _ _ _ _ _ h => h) (fun _ => hHeld) ?_ ?_;rotate_left
     ·repeat (first | exact Chain.nil _ | (apply Chain.on;rfl;rfl;(focus intro w';go_simp;with_reducible rfl);(focus simp only [Act.put,List.setIfInBounds_toArray,List.set_cons_zero,List.set_cons_succ,i64_w,i32_w];rfl)) | (apply Chain.take;rfl;rfl;(focus rintro w' ⟨s0,s1,s2,s3,s4⟩;go_simp;with_reducible rfl);(focus simp only [Act.put,List.setIfInBounds_toArray,List.set_cons_zero,List.set_cons_succ,i64_w,i32_w];rfl)))
     refine one_ (i:=4) (N:=some 14) #[true,true,true,true,true,false,false,false,false,false,false,false,false,false,false,false,false,false,false,false,false,false,false] rfl rfl (one_of HT_.out (by kernel_rfl)) (by decide) (fun K hK => ?_);refine goes_ Tryz.func64 (by kernel_rfl) rfl #[.agg #[.int .i64 ((rd_T61 l0 x3_1).f0),.int .i64 ((rd_T61 l0 x3_1).f1),.float .f64 ((rd_T61 l0 x3_1).f2),.float .f64 ((rd_T61 l0 x3_1).f3),.int .i64 ((rd_T61 l0 x3_1).f4)]] (by rfl) rfl rfl (by (try simp only [List.map_toArray,List.map_cons,List.map_nil]);first | done | rfl | (simp only [List.length_drop,List.length_take];rfl)) ?_
     with_reducible refine (beaconref06_May.calls k1 ((rd_T61 l0 x3_1).f0) ((rd_T61 l0 x3_1).f1) ((rd_T61 l0 x3_1).f2) ((rd_T61 l0 x3_1).f3) ((rd_T61 l0 x3_1).f4) false _ A5.out).mono ?_
     rintro e w18 ⟨rfl,hb⟩;refine ⟨_,rfl,?_⟩;have n0_:=Aside0.mk (below_step (by repeat (first | (with_reducible first | exact HB.out | apply below_alloc | apply pw_below_drewN | apply below_drew1) | exact HB.out)) hb);clear HB;have HB:=n0_;clear n0_
     (try clear hb)
     (try clear hb2)
     (try clear hk)
     (try clear hi)
     refine hK.out _ _ ⟨((HB.out.cell (World.block_lt_of_cell? w _ hw193_0)).trans hw193_0),((HB.out.cell (World.block_lt_of_cell? w _ hw193_1)).trans hw193_1),((HB.out.cell (World.block_lt_of_cell? w _ hw193_2)).trans hw193_2),((HB.out.cell (World.block_lt_of_cell? w _ hw193_3)).trans hw193_3),((HB.out.cell (World.block_lt_of_cell? w _ hw193_4)).trans hw193_4)⟩ (fun hHeld => ?_);clear hK K;refine norm_ (a':=?_) ?_ ?_;rotate_left
     ·show Act.put _ (some 14) _ = _
      simp only [Act.put,List.setIfInBounds_toArray,List.set_cons_zero,List.set_cons_succ,i64_w,i32_w];rfl
     refine manyT_ (fuel:=0) (a':=?_) ((5,0) :: (6,0) :: (7,1) :: (8,1) :: (9,1) :: (10,1) :: (11,1) :: (12,1) :: (13,1) :: (14,1) :: (15,1) :: (16,1) :: (17,1) :: (18,1) :: (19,1) :: (20,1) :: (21,1) :: (22,0) :: []) #[true,true,true,true,true,true,true,true,true,true,true,true,true,true,true,true,true,true,true,true,true,true,true] rfl HT_ (by kernel_rfl) (fun _ _ _ _ _ h => h) (fun h => absurd h (by decide)) ?_ ?_;rotate_left
     ·repeat (first | exact Chain.nil _ | (apply Chain.on;rfl;rfl;(focus intro w';go_simp;with_reducible rfl);(focus simp only [Act.put,List.setIfInBounds_toArray,List.set_cons_zero,List.set_cons_succ,i64_w,i32_w];rfl)) | (apply Chain.off;rfl;rfl;(focus simp only [Act.put,List.setIfInBounds_toArray,List.set_cons_zero,List.set_cons_succ,i64_w,i32_w];rfl)))
     refine done_ (done_of HT_.out (by kernel_rfl)) ?_
     try go_wp2
     go_meet
     case rel => exact ⟨_,(true),(by first | rfl | (simp;done) | (simp [*];done)),H',⟨by have:=HK1.out;first | omega | exact Nat.le_refl _⟩,⟨by repeat (first | (with_reducible first | exact HB.out | apply below_alloc | apply pw_below_drewN | apply below_drew1) | exact HB.out)⟩⟩
    subst c6;have H1:(if x3_1 > 0 then (if 0 ≤ (wrap64 (x3_1 - 1)) then (if (wrap64 (x3_1 - 1)) < (l0.length:Int) then ((beaconref06_Before.f ((rd_T61 l0 (wrap64 (x3_1 - 1))).f0) ((rd_T61 l0 (wrap64 (x3_1 - 1))).f1) ((rd_T61 l0 (wrap64 (x3_1 - 1))).f2) ((rd_T61 l0 (wrap64 (x3_1 - 1))).f3) ((rd_T61 l0 (wrap64 (x3_1 - 1))).f4) ((rd_T61 l0 x3_1).f0) ((rd_T61 l0 x3_1).f1) ((rd_T61 l0 x3_1).f2) ((rd_T61 l0 x3_1).f3) ((rd_T61 l0 x3_1).f4)).bind fun t197 => (beaconref13_told.j1 k1 l0 x3_1 (!t197))) else (none)) else (none)) else (beaconref13_told.j1 k1 l0 x3_1 false)) = some r:=by rw [if_pos rfl] at H;exact H
    clear H;have H:=H1;clear H1
    by_cases c7:x3_1 > 0
    rotate_left
    ·rw [if_neg c7] at H
     have c7b0:decide (0 < x3_1) = false:=decide_eq_false c7;clear c7;have H':=Aside0.mk H;clear H
     try go_wp2
     have n0_:=Aside0.mk (below_drew1 HB.out);clear HB;have HB:=n0_;clear n0_;have p193:0 ≤ (x3_1:Int):=of_decide_eq_true (by first | (with_reducible assumption) | assumption);have q193:x3_1 < (l0.length:Int):=of_decide_eq_true (by first | (with_reducible assumption) | assumption);obtain ⟨ad193,e193,hx193_0,hx193_1,hx193_2,hx193_3,hx193_4⟩:=at_T61 HR0.out x3_1 p193 q193;have hw193_4:=hx193_4;have hw193_3:=hx193_3;have hw193_2:=hx193_2;have hw193_1:=hx193_1;have hw193_0:=hx193_0
     cases e193
     replace hx193_0:=(HB.out.cell (World.block_lt_of_cell? w _ hx193_0)).trans hx193_0;replace hx193_1:=(HB.out.cell (World.block_lt_of_cell? w _ hx193_1)).trans hx193_1;replace hx193_2:=(HB.out.cell (World.block_lt_of_cell? w _ hx193_2)).trans hx193_2;replace hx193_3:=(HB.out.cell (World.block_lt_of_cell? w _ hx193_3)).trans hx193_3;replace hx193_4:=(HB.out.cell (World.block_lt_of_cell? w _ hx193_4)).trans hx193_4;replace p193:=eq_true p193;replace q193:=eq_true q193;refine start_ (n:=23) (S:=fun w' => w'.cell? (ad193.add ((x3_1).toNat * 5)) = some (.int .i64 ((rd_T61 l0 x3_1).f0)) ∧ w'.cell? ⟨(ad193.add ((x3_1).toNat * 5)).block,(ad193.add ((x3_1).toNat * 5)).off + 1,none⟩ = some (.int .i64 ((rd_T61 l0 x3_1).f1)) ∧ w'.cell? ⟨(ad193.add ((x3_1).toNat * 5)).block,(ad193.add ((x3_1).toNat * 5)).off + 2,none⟩ = some (.float .f64 ((rd_T61 l0 x3_1).f2)) ∧ w'.cell? ⟨(ad193.add ((x3_1).toNat * 5)).block,(ad193.add ((x3_1).toNat * 5)).off + 3,none⟩ = some (.float .f64 ((rd_T61 l0 x3_1).f3)) ∧ w'.cell? ⟨(ad193.add ((x3_1).toNat * 5)).block,(ad193.add ((x3_1).toNat * 5)).off + 4,none⟩ = some (.int .i64 ((rd_T61 l0 x3_1).f4))) (ds:=[]) #[false,false,false,false,false,false,false,false,false,false,false,false,false,false,false,false,false,false,false,false,false,false,false] (by kernel_rfl) rfl rfl ⟨((HB.out.cell (World.block_lt_of_cell? w _ hw193_0)).trans hw193_0),((HB.out.cell (World.block_lt_of_cell? w _ hw193_1)).trans hw193_1),((HB.out.cell (World.block_lt_of_cell? w _ hw193_2)).trans hw193_2),((HB.out.cell (World.block_lt_of_cell? w _ hw193_3)).trans hw193_3),((HB.out.cell (World.block_lt_of_cell? w _ hw193_4)).trans hw193_4)⟩ (fun hHeld => ?_);refine with_tabW beaconref13_told.tab4 beaconref13_told.bits4 (fun HT_ HW_ => ?_)
     generalize wr.drew = w15 at HB hx193_0 hx193_1 hx193_2 hx193_3 hx193_4 hHeld ⊢
     refine manyW_ (fuel:=19) (a':=?_) ((0,0) :: (1,0) :: (2,0) :: (3,2) :: []) #[true,true,true,true,false,false,false,false,false,false,false,false,false,false,false,false,false,false,false,false,false,false,false] rfl HT_ HW_ (by kernel_rfl) (fun _ _ _ _ _ h => h) (fun _ => hHeld) ?_ ?_;rotate_left
     ·repeat (first | exact Chain.nil _ | (apply Chain.on;rfl;rfl;(focus intro w';go_simp;with_reducible rfl);(focus simp only [Act.put,List.setIfInBounds_toArray,List.set_cons_zero,List.set_cons_succ,i64_w,i32_w];rfl)) | (apply Chain.take;rfl;rfl;(focus rintro w' ⟨s0,s1,s2,s3,s4⟩;go_simp;with_reducible rfl);(focus simp only [Act.put,List.setIfInBounds_toArray,List.set_cons_zero,List.set_cons_succ,i64_w,i32_w];rfl)))
     refine one_ (i:=4) (N:=some 14) #[true,true,true,true,true,false,false,false,false,false,false,false,false,false,false,false,false,false,false,false,false,false,false] rfl rfl (one_of HT_.out (by kernel_rfl)) (by decide) (fun K hK => ?_);refine goes_ Tryz.func64 (by kernel_rfl) rfl #[.agg #[.int .i64 ((rd_T61 l0 x3_1).f0),.int .i64 ((rd_T61 l0 x3_1).f1),.float .f64 ((rd_T61 l0 x3_1).f2),.float .f64 ((rd_T61 l0 x3_1).f3),.int .i64 ((rd_T61 l0 x3_1).f4)]] (by rfl) rfl rfl (by (try simp only [List.map_toArray,List.map_cons,List.map_nil]);first | done | rfl | (simp only [List.length_drop,List.length_take];rfl)) ?_
     with_reducible refine (beaconref06_May.calls k1 ((rd_T61 l0 x3_1).f0) ((rd_T61 l0 x3_1).f1) ((rd_T61 l0 x3_1).f2) ((rd_T61 l0 x3_1).f3) ((rd_T61 l0 x3_1).f4) true _ A5.out).mono ?_
     rintro e w16 ⟨rfl,hb⟩;refine ⟨_,rfl,?_⟩;have n0_:=Aside0.mk (below_step (by repeat (first | (with_reducible first | exact HB.out | apply below_alloc | apply pw_below_drewN | apply below_drew1) | exact HB.out)) hb);clear HB;have HB:=n0_;clear n0_
     (try clear hb)
     (try clear hb2)
     (try clear hk)
     (try clear hi)
     refine hK.out _ _ ⟨((HB.out.cell (World.block_lt_of_cell? w _ hw193_0)).trans hw193_0),((HB.out.cell (World.block_lt_of_cell? w _ hw193_1)).trans hw193_1),((HB.out.cell (World.block_lt_of_cell? w _ hw193_2)).trans hw193_2),((HB.out.cell (World.block_lt_of_cell? w _ hw193_3)).trans hw193_3),((HB.out.cell (World.block_lt_of_cell? w _ hw193_4)).trans hw193_4)⟩ (fun hHeld => ?_);clear hK K;refine norm_ (a':=?_) ?_ ?_;rotate_left
     ·show Act.put _ (some 14) _ = _
      simp only [Act.put,List.setIfInBounds_toArray,List.set_cons_zero,List.set_cons_succ,i64_w,i32_w];rfl
     refine manyT_ (fuel:=0) (a':=?_) ((5,0) :: (6,0) :: (7,0) :: (8,0) :: (9,0) :: (10,1) :: (11,1) :: (12,1) :: (13,1) :: (14,1) :: (15,1) :: (16,1) :: (17,1) :: (18,1) :: (19,1) :: (20,1) :: (21,0) :: (22,0) :: []) #[true,true,true,true,true,true,true,true,true,true,true,true,true,true,true,true,true,true,true,true,true,true,true] rfl HT_ (by kernel_rfl) (fun _ _ _ _ _ h => h) (fun h => absurd h (by decide)) ?_ ?_;rotate_left
     ·repeat (first | exact Chain.nil _ | (apply Chain.on;rfl;rfl;(focus intro w';go_simp;with_reducible rfl);(focus simp only [Act.put,List.setIfInBounds_toArray,List.set_cons_zero,List.set_cons_succ,i64_w,i32_w];rfl)) | (apply Chain.off;rfl;rfl;(focus simp only [Act.put,List.setIfInBounds_toArray,List.set_cons_zero,List.set_cons_succ,i64_w,i32_w];rfl)))
     refine done_ (done_of HT_.out (by kernel_rfl)) ?_
     try go_wp2
     go_meet
     case rel => exact ⟨_,(false),(by first | rfl | (simp;done) | (simp [*];done)),H',⟨by have:=HK1.out;first | omega | exact Nat.le_refl _⟩,⟨by repeat (first | (with_reducible first | exact HB.out | apply below_alloc | apply pw_below_drewN | apply below_drew1) | exact HB.out)⟩⟩
    rw [if_pos c7] at H;have c7b0:decide (0 < x3_1) = true:=decide_eq_true c7;clear c7;obtain ⟨ji8,hji8⟩:∃ j_:Int,(wrap64 (x3_1 - 1)) = j_:=⟨_,rfl⟩
    replace H:(if 0 ≤ (ji8) then (if (ji8) < (l0.length:Int) then ((beaconref06_Before.f ((rd_T61 l0 (ji8)).f0) ((rd_T61 l0 (ji8)).f1) ((rd_T61 l0 (ji8)).f2) ((rd_T61 l0 (ji8)).f3) ((rd_T61 l0 (ji8)).f4) ((rd_T61 l0 x3_1).f0) ((rd_T61 l0 x3_1).f1) ((rd_T61 l0 x3_1).f2) ((rd_T61 l0 x3_1).f3) ((rd_T61 l0 x3_1).f4)).bind fun t197 => (beaconref13_told.j1 k1 l0 x3_1 (!t197))) else (none)) else (none)) = some r:=by first | (rw [hji8] at H;exact H) | (simp only [hji8] at H ⊢;exact H)
    (try rw [hji8] at A5)
    have hji8w:(IntKind.i64.wrap (x3_1 - 1)) = ji8:=(i64_w _).trans hji8
    by_cases c9:0 ≤ (ji8)
    rotate_left
    ·rw [if_neg c9] at H
     exact absurd H (by simp)
    rw [if_pos c9] at H;have c9b0:decide (0 ≤ (ji8)) = true:=decide_eq_true c9;clear c9
    by_cases c10:(ji8) < (l0.length:Int)
    rotate_left
    ·rw [if_neg c10] at H
     exact absurd H (by simp)
    rw [if_pos c10] at H;have c10b0:decide ((ji8) < (l0.length:Int)) = true:=decide_eq_true c10;clear c10;replace H:=Option.bind_eq_some_iff.mp H;obtain ⟨t197,A110,H⟩:=H;replace H:(beaconref13_told.j1 k1 l0 x3_1 (!t197)) = some r:=H;have A11:=Aside0.mk A110;clear A110;have H':=Aside0.mk H;clear H
    try go_wp2
    have n0_:=Aside0.mk (below_drew1 HB.out);clear HB;have HB:=n0_;clear n0_;have p193:0 ≤ (x3_1:Int):=of_decide_eq_true (by first | (with_reducible assumption) | assumption);have q193:x3_1 < (l0.length:Int):=of_decide_eq_true (by first | (with_reducible assumption) | assumption);obtain ⟨ad193,e193,hx193_0,hx193_1,hx193_2,hx193_3,hx193_4⟩:=at_T61 HR0.out x3_1 p193 q193;have hw193_4:=hx193_4;have hw193_3:=hx193_3;have hw193_2:=hx193_2;have hw193_1:=hx193_1;have hw193_0:=hx193_0
    cases e193
    replace hx193_0:=(HB.out.cell (World.block_lt_of_cell? w _ hx193_0)).trans hx193_0;replace hx193_1:=(HB.out.cell (World.block_lt_of_cell? w _ hx193_1)).trans hx193_1;replace hx193_2:=(HB.out.cell (World.block_lt_of_cell? w _ hx193_2)).trans hx193_2;replace hx193_3:=(HB.out.cell (World.block_lt_of_cell? w _ hx193_3)).trans hx193_3;replace hx193_4:=(HB.out.cell (World.block_lt_of_cell? w _ hx193_4)).trans hx193_4;replace p193:=eq_true p193;replace q193:=eq_true q193;have p195:0 ≤ ((ji8):Int):=of_decide_eq_true (by first | (with_reducible assumption) | assumption);have q195:(ji8) < (l0.length:Int):=of_decide_eq_true (by first | (with_reducible assumption) | assumption);obtain ⟨ad195,e195,hx195_0,hx195_1,hx195_2,hx195_3,hx195_4⟩:=at_T61 HR0.out (ji8) p195 q195;have hw195_4:=hx195_4;have hw195_3:=hx195_3;have hw195_2:=hx195_2;have hw195_1:=hx195_1;have hw195_0:=hx195_0;obtain rfl:ad193 = ad195:=(by injection e195)
    replace hx195_0:=(HB.out.cell (World.block_lt_of_cell? w _ hx195_0)).trans hx195_0;replace hx195_1:=(HB.out.cell (World.block_lt_of_cell? w _ hx195_1)).trans hx195_1;replace hx195_2:=(HB.out.cell (World.block_lt_of_cell? w _ hx195_2)).trans hx195_2;replace hx195_3:=(HB.out.cell (World.block_lt_of_cell? w _ hx195_3)).trans hx195_3;replace hx195_4:=(HB.out.cell (World.block_lt_of_cell? w _ hx195_4)).trans hx195_4;replace p195:=eq_true p195;replace q195:=eq_true q195;have p196:0 ≤ (x3_1:Int):=of_decide_eq_true (by first | (with_reducible assumption) | assumption);have q196:x3_1 < (l0.length:Int):=of_decide_eq_true (by first | (with_reducible assumption) | assumption);obtain ⟨ad196,e196,hx196_0,hx196_1,hx196_2,hx196_3,hx196_4⟩:=at_T61 HR0.out x3_1 p196 q196;have hw196_4:=hx196_4;have hw196_3:=hx196_3;have hw196_2:=hx196_2;have hw196_1:=hx196_1;have hw196_0:=hx196_0;obtain rfl:ad193 = ad196:=(by injection e196)
    replace hx196_0:=(HB.out.cell (World.block_lt_of_cell? w _ hx196_0)).trans hx196_0;replace hx196_1:=(HB.out.cell (World.block_lt_of_cell? w _ hx196_1)).trans hx196_1;replace hx196_2:=(HB.out.cell (World.block_lt_of_cell? w _ hx196_2)).trans hx196_2;replace hx196_3:=(HB.out.cell (World.block_lt_of_cell? w _ hx196_3)).trans hx196_3;replace hx196_4:=(HB.out.cell (World.block_lt_of_cell? w _ hx196_4)).trans hx196_4;replace p196:=eq_true p196;replace q196:=eq_true q196;refine start_ (n:=23) (S:=fun w' => w'.cell? (ad193.add ((x3_1).toNat * 5)) = some (.int .i64 ((rd_T61 l0 x3_1).f0)) ∧ w'.cell? ⟨(ad193.add ((x3_1).toNat * 5)).block,(ad193.add ((x3_1).toNat * 5)).off + 1,none⟩ = some (.int .i64 ((rd_T61 l0 x3_1).f1)) ∧ w'.cell? ⟨(ad193.add ((x3_1).toNat * 5)).block,(ad193.add ((x3_1).toNat * 5)).off + 2,none⟩ = some (.float .f64 ((rd_T61 l0 x3_1).f2)) ∧ w'.cell? ⟨(ad193.add ((x3_1).toNat * 5)).block,(ad193.add ((x3_1).toNat * 5)).off + 3,none⟩ = some (.float .f64 ((rd_T61 l0 x3_1).f3)) ∧ w'.cell? ⟨(ad193.add ((x3_1).toNat * 5)).block,(ad193.add ((x3_1).toNat * 5)).off + 4,none⟩ = some (.int .i64 ((rd_T61 l0 x3_1).f4)) ∧ w'.cell? (ad193.add (((ji8)).toNat * 5)) = some (.int .i64 ((rd_T61 l0 (ji8)).f0)) ∧ w'.cell? ⟨(ad193.add (((ji8)).toNat * 5)).block,(ad193.add (((ji8)).toNat * 5)).off + 1,none⟩ = some (.int .i64 ((rd_T61 l0 (ji8)).f1)) ∧ w'.cell? ⟨(ad193.add (((ji8)).toNat * 5)).block,(ad193.add (((ji8)).toNat * 5)).off + 2,none⟩ = some (.float .f64 ((rd_T61 l0 (ji8)).f2)) ∧ w'.cell? ⟨(ad193.add (((ji8)).toNat * 5)).block,(ad193.add (((ji8)).toNat * 5)).off + 3,none⟩ = some (.float .f64 ((rd_T61 l0 (ji8)).f3)) ∧ w'.cell? ⟨(ad193.add (((ji8)).toNat * 5)).block,(ad193.add (((ji8)).toNat * 5)).off + 4,none⟩ = some (.int .i64 ((rd_T61 l0 (ji8)).f4)) ∧ w'.cell? (ad193.add ((x3_1).toNat * 5)) = some (.int .i64 ((rd_T61 l0 x3_1).f0)) ∧ w'.cell? ⟨(ad193.add ((x3_1).toNat * 5)).block,(ad193.add ((x3_1).toNat * 5)).off + 1,none⟩ = some (.int .i64 ((rd_T61 l0 x3_1).f1)) ∧ w'.cell? ⟨(ad193.add ((x3_1).toNat * 5)).block,(ad193.add ((x3_1).toNat * 5)).off + 2,none⟩ = some (.float .f64 ((rd_T61 l0 x3_1).f2)) ∧ w'.cell? ⟨(ad193.add ((x3_1).toNat * 5)).block,(ad193.add ((x3_1).toNat * 5)).off + 3,none⟩ = some (.float .f64 ((rd_T61 l0 x3_1).f3)) ∧ w'.cell? ⟨(ad193.add ((x3_1).toNat * 5)).block,(ad193.add ((x3_1).toNat * 5)).off + 4,none⟩ = some (.int .i64 ((rd_T61 l0 x3_1).f4))) (ds:=[]) #[false,false,false,false,false,false,false,false,false,false,false,false,false,false,false,false,false,false,false,false,false,false,false] (by kernel_rfl) rfl rfl ⟨((HB.out.cell (World.block_lt_of_cell? w _ hw193_0)).trans hw193_0),((HB.out.cell (World.block_lt_of_cell? w _ hw193_1)).trans hw193_1),((HB.out.cell (World.block_lt_of_cell? w _ hw193_2)).trans hw193_2),((HB.out.cell (World.block_lt_of_cell? w _ hw193_3)).trans hw193_3),((HB.out.cell (World.block_lt_of_cell? w _ hw193_4)).trans hw193_4),((HB.out.cell (World.block_lt_of_cell? w _ hw195_0)).trans hw195_0),((HB.out.cell (World.block_lt_of_cell? w _ hw195_1)).trans hw195_1),((HB.out.cell (World.block_lt_of_cell? w _ hw195_2)).trans hw195_2),((HB.out.cell (World.block_lt_of_cell? w _ hw195_3)).trans hw195_3),((HB.out.cell (World.block_lt_of_cell? w _ hw195_4)).trans hw195_4),((HB.out.cell (World.block_lt_of_cell? w _ hw196_0)).trans hw196_0),((HB.out.cell (World.block_lt_of_cell? w _ hw196_1)).trans hw196_1),((HB.out.cell (World.block_lt_of_cell? w _ hw196_2)).trans hw196_2),((HB.out.cell (World.block_lt_of_cell? w _ hw196_3)).trans hw196_3),((HB.out.cell (World.block_lt_of_cell? w _ hw196_4)).trans hw196_4)⟩ (fun hHeld => ?_);refine with_tabW beaconref13_told.tab4 beaconref13_told.bits4 (fun HT_ HW_ => ?_)
    generalize wr.drew = w12 at HB hx193_0 hx193_1 hx193_2 hx193_3 hx193_4 hx195_0 hx195_1 hx195_2 hx195_3 hx195_4 hx196_0 hx196_1 hx196_2 hx196_3 hx196_4 hHeld ⊢
    refine manyW_ (fuel:=19) (a':=?_) ((0,0) :: (1,0) :: (2,0) :: (3,2) :: []) #[true,true,true,true,false,false,false,false,false,false,false,false,false,false,false,false,false,false,false,false,false,false,false] rfl HT_ HW_ (by kernel_rfl) (fun _ _ _ _ _ h => h) (fun _ => hHeld) ?_ ?_;rotate_left
    ·repeat (first | exact Chain.nil _ | (apply Chain.on;rfl;rfl;(focus intro w';go_simp;with_reducible rfl);(focus simp only [Act.put,List.setIfInBounds_toArray,List.set_cons_zero,List.set_cons_succ,i64_w,i32_w];rfl)) | (apply Chain.take;rfl;rfl;(focus rintro w' ⟨s0,s1,s2,s3,s4,s5,s6,s7,s8,s9,s10,s11,s12,s13,s14⟩;go_simp;with_reducible rfl);(focus simp only [Act.put,List.setIfInBounds_toArray,List.set_cons_zero,List.set_cons_succ,i64_w,i32_w];rfl)))
    refine one_ (i:=4) (N:=some 14) #[true,true,true,true,true,false,false,false,false,false,false,false,false,false,false,false,false,false,false,false,false,false,false] rfl rfl (one_of HT_.out (by kernel_rfl)) (by decide) (fun K hK => ?_);refine goes_ Tryz.func64 (by kernel_rfl) rfl #[.agg #[.int .i64 ((rd_T61 l0 x3_1).f0),.int .i64 ((rd_T61 l0 x3_1).f1),.float .f64 ((rd_T61 l0 x3_1).f2),.float .f64 ((rd_T61 l0 x3_1).f3),.int .i64 ((rd_T61 l0 x3_1).f4)]] (by rfl) rfl rfl (by (try simp only [List.map_toArray,List.map_cons,List.map_nil]);first | done | rfl | (simp only [List.length_drop,List.length_take];rfl)) ?_
    with_reducible refine (beaconref06_May.calls k1 ((rd_T61 l0 x3_1).f0) ((rd_T61 l0 x3_1).f1) ((rd_T61 l0 x3_1).f2) ((rd_T61 l0 x3_1).f3) ((rd_T61 l0 x3_1).f4) true _ A5.out).mono ?_
    rintro e w13 ⟨rfl,hb⟩;refine ⟨_,rfl,?_⟩;have n0_:=Aside0.mk (below_step (by repeat (first | (with_reducible first | exact HB.out | apply below_alloc | apply pw_below_drewN | apply below_drew1) | exact HB.out)) hb);clear HB;have HB:=n0_;clear n0_
    (try clear hb)
    (try clear hb2)
    (try clear hk)
    (try clear hi)
    refine hK.out _ _ ⟨((HB.out.cell (World.block_lt_of_cell? w _ hw193_0)).trans hw193_0),((HB.out.cell (World.block_lt_of_cell? w _ hw193_1)).trans hw193_1),((HB.out.cell (World.block_lt_of_cell? w _ hw193_2)).trans hw193_2),((HB.out.cell (World.block_lt_of_cell? w _ hw193_3)).trans hw193_3),((HB.out.cell (World.block_lt_of_cell? w _ hw193_4)).trans hw193_4),((HB.out.cell (World.block_lt_of_cell? w _ hw195_0)).trans hw195_0),((HB.out.cell (World.block_lt_of_cell? w _ hw195_1)).trans hw195_1),((HB.out.cell (World.block_lt_of_cell? w _ hw195_2)).trans hw195_2),((HB.out.cell (World.block_lt_of_cell? w _ hw195_3)).trans hw195_3),((HB.out.cell (World.block_lt_of_cell? w _ hw195_4)).trans hw195_4),((HB.out.cell (World.block_lt_of_cell? w _ hw196_0)).trans hw196_0),((HB.out.cell (World.block_lt_of_cell? w _ hw196_1)).trans hw196_1),((HB.out.cell (World.block_lt_of_cell? w _ hw196_2)).trans hw196_2),((HB.out.cell (World.block_lt_of_cell? w _ hw196_3)).trans hw196_3),((HB.out.cell (World.block_lt_of_cell? w _ hw196_4)).trans hw196_4)⟩ (fun hHeld => ?_);clear hK K;refine norm_ (a':=?_) ?_ ?_;rotate_left
    ·show Act.put _ (some 14) _ = _
     simp only [Act.put,List.setIfInBounds_toArray,List.set_cons_zero,List.set_cons_succ,i64_w,i32_w];rfl
    refine manyW_ (fuel:=4) (a':=?_) ((5,0) :: (6,0) :: (7,0) :: (8,0) :: (9,0) :: (10,0) :: (11,0) :: (12,0) :: (13,0) :: (15,0) :: (16,0) :: (17,0) :: (14,2) :: (18,2) :: []) #[true,true,true,true,true,true,true,true,true,true,true,true,true,true,true,true,true,true,true,false,false,false,false] rfl HT_ HW_ (by kernel_rfl) (fun _ _ _ _ _ h => h) (fun _ => hHeld) ?_ ?_;rotate_left
    ·repeat (first | exact Chain.nil _ | (apply Chain.on;rfl;rfl;(focus intro w';go_simp;with_reducible rfl);(focus simp only [Act.put,List.setIfInBounds_toArray,List.set_cons_zero,List.set_cons_succ,i64_w,i32_w];rfl)) | (apply Chain.take;rfl;rfl;(focus rintro w' ⟨s0,s1,s2,s3,s4,s5,s6,s7,s8,s9,s10,s11,s12,s13,s14⟩;go_simp;with_reducible rfl);(focus simp only [Act.put,List.setIfInBounds_toArray,List.set_cons_zero,List.set_cons_succ,i64_w,i32_w];rfl)))
    refine one_ (i:=19) (N:=some 29) #[true,true,true,true,true,true,true,true,true,true,true,true,true,true,true,true,true,true,true,true,false,false,false] rfl rfl (one_of HT_.out (by kernel_rfl)) (by decide) (fun K hK => ?_);refine goes_ Tryz.func65 (by kernel_rfl) rfl #[.agg #[.int .i64 ((rd_T61 l0 (ji8)).f0),.int .i64 ((rd_T61 l0 (ji8)).f1),.float .f64 ((rd_T61 l0 (ji8)).f2),.float .f64 ((rd_T61 l0 (ji8)).f3),.int .i64 ((rd_T61 l0 (ji8)).f4)],.agg #[.int .i64 ((rd_T61 l0 x3_1).f0),.int .i64 ((rd_T61 l0 x3_1).f1),.float .f64 ((rd_T61 l0 x3_1).f2),.float .f64 ((rd_T61 l0 x3_1).f3),.int .i64 ((rd_T61 l0 x3_1).f4)]] (by rfl) rfl rfl (by (try simp only [List.map_toArray,List.map_cons,List.map_nil]);first | done | (simp only [hji8];rfl) | rfl | (simp only [List.length_drop,List.length_take];rfl)) ?_
    with_reducible refine (beaconref06_Before.calls ((rd_T61 l0 (ji8)).f0) ((rd_T61 l0 (ji8)).f1) ((rd_T61 l0 (ji8)).f2) ((rd_T61 l0 (ji8)).f3) ((rd_T61 l0 (ji8)).f4) ((rd_T61 l0 x3_1).f0) ((rd_T61 l0 x3_1).f1) ((rd_T61 l0 x3_1).f2) ((rd_T61 l0 x3_1).f3) ((rd_T61 l0 x3_1).f4) t197 _ A11.out).mono ?_
    rintro e w14 ⟨rfl,hb⟩;refine ⟨_,rfl,?_⟩;have n0_:=Aside0.mk (below_step (by repeat (first | (with_reducible first | exact HB.out | apply below_alloc | apply pw_below_drewN | apply below_drew1) | exact HB.out)) hb);clear HB;have HB:=n0_;clear n0_
    (try clear hb)
    (try clear hb2)
    (try clear hk)
    (try clear hi)
    refine hK.out _ _ ⟨((HB.out.cell (World.block_lt_of_cell? w _ hw193_0)).trans hw193_0),((HB.out.cell (World.block_lt_of_cell? w _ hw193_1)).trans hw193_1),((HB.out.cell (World.block_lt_of_cell? w _ hw193_2)).trans hw193_2),((HB.out.cell (World.block_lt_of_cell? w _ hw193_3)).trans hw193_3),((HB.out.cell (World.block_lt_of_cell? w _ hw193_4)).trans hw193_4),((HB.out.cell (World.block_lt_of_cell? w _ hw195_0)).trans hw195_0),((HB.out.cell (World.block_lt_of_cell? w _ hw195_1)).trans hw195_1),((HB.out.cell (World.block_lt_of_cell? w _ hw195_2)).trans hw195_2),((HB.out.cell (World.block_lt_of_cell? w _ hw195_3)).trans hw195_3),((HB.out.cell (World.block_lt_of_cell? w _ hw195_4)).trans hw195_4),((HB.out.cell (World.block_lt_of_cell? w _ hw196_0)).trans hw196_0),((HB.out.cell (World.block_lt_of_cell? w _ hw196_1)).trans hw196_1),((HB.out.cell (World.block_lt_of_cell? w _ hw196_2)).trans hw196_2),((HB.out.cell (World.block_lt_of_cell? w _ hw196_3)).trans hw196_3),((HB.out.cell (World.block_lt_of_cell? w _ hw196_4)).trans hw196_4)⟩ (fun hHeld => ?_);clear hK K;refine norm_ (a':=?_) ?_ ?_;rotate_left
    ·show Act.put _ (some 29) _ = _
     simp only [Act.put,List.setIfInBounds_toArray,List.set_cons_zero,List.set_cons_succ,i64_w,i32_w];rfl
    refine manyT_ (fuel:=0) (a':=?_) ((20,0) :: (21,0) :: (22,0) :: []) #[true,true,true,true,true,true,true,true,true,true,true,true,true,true,true,true,true,true,true,true,true,true,true] rfl HT_ (by kernel_rfl) (fun _ _ _ _ _ h => h) (fun h => absurd h (by decide)) ?_ ?_;rotate_left
    ·repeat (first | exact Chain.nil _ | (apply Chain.on;rfl;rfl;(focus intro w';go_simp;with_reducible rfl);(focus simp only [Act.put,List.setIfInBounds_toArray,List.set_cons_zero,List.set_cons_succ,i64_w,i32_w];rfl)))
    refine done_ (done_of HT_.out (by kernel_rfl)) ?_
    try go_wp2
    go_meet
    case rel => exact ⟨_,(!t197),(by first | rfl | (simp;done) | (simp [*];done)),H',⟨by have:=HK1.out;first | omega | exact Nat.le_refl _⟩,⟨by repeat (first | (with_reducible first | exact HB.out | apply below_alloc | apply pw_below_drewN | apply below_drew1) | exact HB.out)⟩⟩
   case rest =>
    clear HC3;obtain ⟨kq,x32_2,rfl,HA,HJ2,HB⟩:=hcut
    cases kq with
    | zero => exact absurd HA.out (by simp [beaconref13_told.j1])
    | succ kj2 =>
     have H:=HA.out;clear HA;simp only [beaconref13_told.j1] at H
     by_cases c19:x32_2 = true
     ·subst c19
      have H1:(some false) = some r:=by rw [if_pos rfl] at H;exact H
      clear H;have H:=H1;clear H1;obtain rfl:=Option.some.inj H;go_wp2;go_ret;exact ⟨by first | rfl | (simp [errW_none,errW_some] <;> rfl) | (simp [*,errW_none,errW_some] <;> rfl),by repeat (first | (with_reducible first | exact HB.out | apply below_alloc | apply pw_below_drewN | apply below_drew1) | exact HB.out)⟩
     replace c19:=Bool.eq_false_iff.mpr c19;subst c19;have H1:(beaconref13_told.l0 kj2 l0 (wrap64 (x3_1 + 1))) = some r:=by rw [if_neg (show ¬ (false = true) by decide)] at H;exact H
     clear H;have H:=H1;clear H1;have H':=Aside0.mk H;clear H;go_wp2
     go_roundg kj2
     case measure => have:=HK1.out;have:=HJ2.out;omega
     case rel => exact ⟨(wrap64 (x3_1 + 1)),(by first | rfl | (simp;done) | (simp [*];done)),H',⟨by have:=HK1.out;have:=HJ2.out;omega⟩,⟨by repeat (first | (with_reducible first | exact HB.out | apply below_alloc | apply pw_below_drewN | apply below_drew1) | exact HB.out)⟩⟩
end Go.Proofs.YtblemmagkehanaaGreat.PA
