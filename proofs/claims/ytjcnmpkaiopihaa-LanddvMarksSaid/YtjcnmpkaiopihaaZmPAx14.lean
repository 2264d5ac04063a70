/- Printed by a program of this session (wip/tools/patch_print.py and pr.py, over the kit's print): each Go function as a plain Lean function, and that the Go code comes to just its answers. Conditions: those that each theorem names. -/
import Derived.Test.YtjcnmpkaiopihaaZmMn
import Derived.Test.YtjcnmpkaiopihaaZmPAx0
import Derived.Test.YtjcnmpkaiopihaaZmPAx13
namespace Go.Proofs.Ytjcnmpkaiopihaa.PA
open Go.RowKit Go.Proofs.YtjcnmpkaiopihaaW.PrintWords Go.Proofs.YtjcnmpkaiopihaaW.PrintLast Go.Proofs.YtjcnmpkaiopihaaW.PrintMore
attribute [local go_sem] max2_int min2_int max_two min_two max_three min_three max_four min_four
set_option linter.unusedVariables false
set_option linter.unusedSimpArgs false
mutual
def beaconref09_SameEntries.l0:Nat → List (S58) → List (S58) → Int → Option (Bool)
 | 0,_,_,_ => none
 | k + 1,x0,x1,x5 => if x5 < (x0.length:Int) then (if 0 ≤ x5 then (if x5 < (x1.length:Int) then (if ((rd_T58 x0 x5).f0) = ((rd_T58 x1 x5).f0) then (if ((rd_T58 x0 x5).f1) = ((rd_T58 x1 x5).f1) then (if ((rd_T58 x0 x5).f3) = ((rd_T58 x1 x5).f3) then (if ((rd_T58 x0 x5).f5) = ((rd_T58 x1 x5).f5) then ((beaconref01_Same.f ((rd_T58 x0 x5).f2) ((rd_T58 x1 x5).f2)).bind fun t298 => (if t298 = true then ((beaconref01_Same.f ((rd_T58 x0 x5).f4) ((rd_T58 x1 x5).f4)).bind fun t299 => (beaconref09_SameEntries.j1 k x0 x1 x5 (!t299))) else (beaconref09_SameEntries.j1 k x0 x1 x5 true))) else (beaconref09_SameEntries.j1 k x0 x1 x5 true)) else (beaconref09_SameEntries.j1 k x0 x1 x5 true)) else (beaconref09_SameEntries.j1 k x0 x1 x5 true)) else (beaconref09_SameEntries.j1 k x0 x1 x5 true)) else (none)) else (none)) else (some true)
def beaconref09_SameEntries.j1:Nat → List (S58) → List (S58) → Int → Bool → Option (Bool)
 | 0,_,_,_,_ => none
 | k + 1,x0,x1,x5,x68 => if x68 = true then (some false) else (beaconref09_SameEntries.l0 k x0 x1 (wrap64 (x5 + 1)))
end
def beaconref09_SameEntries.f (k:Nat) (l0:List (S58)) (l1:List (S58)):Option (Bool):=if (l0.length:Int) = (l1.length:Int) then (beaconref09_SameEntries.l0 k l0 l1 0) else (some false)
def beaconref09_SameEntries.T6:Bool × List (List Nat × List Nat):=(true,[([],[]),([],[]),([0,1],[0,1]),([2],[2]),([],[]),([],[]),([4,5],[4,5]),([6],[6]),([],[]),([],[]),([8,3,0,1,2,3,8,9],[3,8]),([9,7,10,0,1,2,3,4,5,6,7,8,9,10],[7,9])])
def beaconref09_SameEntries.B6:List Nat:=[0,0,3,7,0,0,48,112,0,0,783,2047]
theorem beaconref09_SameEntries.tab6:rtab .any (opsOf Try.f16 6) = beaconref09_SameEntries.T6:=by kernel_rfl
theorem beaconref09_SameEntries.bits6:waitsOk beaconref09_SameEntries.T6.2 beaconref09_SameEntries.B6 = true:=by kernel_rfl
set_option maxHeartbeats 8000000 in
set_option maxRecDepth 100000 in
theorem beaconref09_SameEntries.calls (k:Nat) (A0:Option Addr) (c0:Nat) (l0:List (S58)) (A1:Option Addr) (c1:Nat) (l1:List (S58)) (r:Bool) (w:World) (hr0:Kd.C k58 w A0 l0.length l0) (hc0:l0.length ≤ c0) (hr1:Kd.C k58 w A1 l1.length l1) (hc1:l1.length ≤ c1) (h:beaconref09_SameEntries.f k l0 l1 = some r) :
  Calls Try.prog 16 #[.slice A0 l0.length c0,.slice A1 l1.length c1] w fun e w' => e = .returned (.bool r) ∧ Below w.heap.size w w':=by
 have hu58:=Try.underlying58
 have HR0:=Aside0.mk hr0
 have HC0:=Aside0.mk hc0
 clear hr0 hc0
 have HR1:=Aside0.mk hr1
 have HC1:=Aside0.mk hc1
 clear hr1 hc1
 have HB:=Aside0.mk (Below.refl w.heap.size w)
 have H:(if (l0.length:Int) = (l1.length:Int) then (beaconref09_SameEntries.l0 k l0 l1 0) else (some false)) = some r:=h
 clear h
 by_cases c3:(l0.length:Int) = (l1.length:Int)
 rotate_left
 ·rw [if_neg c3] at H
  have c3b0:((l0.length:Int) == (l1.length:Int)) = false:=beq_eq_false_iff_ne.mpr c3
  have c3b1:((l0.length:Int) != (l1.length:Int)) = true:=bne_iff_ne.mpr c3
  have c3b2:(l0.length == l1.length) = false:=by first | simpa using c3 | (simp at c3 ⊢;omega)
  obtain rfl:=Option.some.inj H
  go_enter Try.func16,Try.ntmps16
  go_wp2
  go_ret
  exact ⟨by first | rfl | (simp [errW_none,errW_some] <;> rfl) | (simp [*,errW_none,errW_some] <;> rfl),by repeat (first | (with_reducible first | exact HB.out | apply below_alloc | apply pw_below_drewN | apply below_drew1) | exact HB.out)⟩
 rw [if_pos c3] at H
 have c3b0:((l0.length:Int) == (l1.length:Int)) = true:=beq_iff_eq.mpr c3
 have c3b1:((l0.length:Int) != (l1.length:Int)) = false:=bne_eq_false_iff_eq.mpr c3
 have c3b2:(l0.length == l1.length) = true:=by first | simpa using c3 | (simp at c3 ⊢;omega)
 clear c3
 have H':=Aside0.mk H
 clear H
 go_enter Try.func16,Try.ntmps16
 go_wp2
 go_loopg [5] k (fun kq v5 w' => ∃ (x5_1:Int),v5 = .int .i64 x5_1 ∧ Aside0 (beaconref09_SameEntries.l0 kq l0 l1 x5_1 = some r) ∧ Aside0 (kq ≤ k) ∧ Aside0 (Below w.heap.size w w'))
 case atStart => exact ⟨(0),(by first | rfl | (simp;done) | (simp [*];done)),H',⟨Nat.le_refl _⟩,⟨by repeat (first | (with_reducible first | exact HB.out | apply below_alloc | apply pw_below_drewN | apply below_drew1) | exact HB.out)⟩⟩
 case round =>
  clear H'
  obtain ⟨x5_1,rfl,HA,HK1,HB⟩:=hrel
  cases gk with
  | zero => exact absurd HA.out (by simp [beaconref09_SameEntries.l0])
  | succ k1 =>
   have H:=HA.out
   clear HA
   simp only [beaconref09_SameEntries.l0] at H
   by_cases c4:x5_1 < (l0.length:Int)
   rotate_left
   ·rw [if_neg c4] at H
    have c4b0:decide (x5_1 < (l0.length:Int)) = false:=decide_eq_false c4
    clear c4
    obtain rfl:=Option.some.inj H
    go_wp2
    go_ret
    exact ⟨by first | rfl | (simp [errW_none,errW_some] <;> rfl) | (simp [*,errW_none,errW_some] <;> rfl),by repeat (first | (with_reducible first | exact HB.out | apply below_alloc | apply pw_below_drewN | apply below_drew1) | exact HB.out)⟩
   rw [if_pos c4] at H
   have c4b0:decide (x5_1 < (l0.length:Int)) = true:=decide_eq_true c4
   clear c4
   by_cases c5:0 ≤ x5_1
   rotate_left
   ·rw [if_neg c5] at H
    exact absurd H (by simp)
   rw [if_pos c5] at H
   have c5b0:decide (0 ≤ x5_1) = true:=decide_eq_true c5
   clear c5
   by_cases c6:x5_1 < (l1.length:Int)
   rotate_left
   ·rw [if_neg c6] at H
    exact absurd H (by simp)
   rw [if_pos c6] at H
   have c6b0:decide (x5_1 < (l1.length:Int)) = true:=decide_eq_true c6
   clear c6
   have HC7:=Aside0.mk H
   clear H
   try go_wp2
   have n0_:=Aside0.mk (below_drew1 HB.out)
   clear HB
   have HB:=n0_
   clear n0_
   have p294:0 ≤ (x5_1:Int):=of_decide_eq_true (by first | (with_reducible assumption) | assumption)
   have q294:x5_1 < (l0.length:Int):=of_decide_eq_true (by first | (with_reducible assumption) | assumption)
   obtain ⟨ad294,e294,hx294_0,hx294_1,hx294_2,hx294_3,hx294_4,hx294_5⟩:=at_T58 HR0.out x5_1 p294 q294
   have hw294_5:=hx294_5
   have hw294_4:=hx294_4
   have hw294_3:=hx294_3
   have hw294_2:=hx294_2
   have hw294_1:=hx294_1
   have hw294_0:=hx294_0
   cases e294
   replace hx294_0:=(HB.out.cell (World.block_lt_of_cell? w _ hx294_0)).trans hx294_0
   replace hx294_1:=(HB.out.cell (World.block_lt_of_cell? w _ hx294_1)).trans hx294_1
   replace hx294_2:=(HB.out.cell (World.block_lt_of_cell? w _ hx294_2)).trans hx294_2
   replace hx294_3:=(HB.out.cell (World.block_lt_of_cell? w _ hx294_3)).trans hx294_3
   replace hx294_4:=(HB.out.cell (World.block_lt_of_cell? w _ hx294_4)).trans hx294_4
   replace hx294_5:=(HB.out.cell (World.block_lt_of_cell? w _ hx294_5)).trans hx294_5
   replace p294:=eq_true p294
   replace q294:=eq_true q294
   have p295:0 ≤ (x5_1:Int):=of_decide_eq_true (by first | (with_reducible assumption) | assumption)
   have q295:x5_1 < (l1.length:Int):=of_decide_eq_true (by first | (with_reducible assumption) | assumption)
   obtain ⟨ad295,e295,hx295_0,hx295_1,hx295_2,hx295_3,hx295_4,hx295_5⟩:=at_T58 HR1.out x5_1 p295 q295
   have hw295_5:=hx295_5
   have hw295_4:=hx295_4
   have hw295_3:=hx295_3
   have hw295_2:=hx295_2
   have hw295_1:=hx295_1
   have hw295_0:=hx295_0
   cases e295
   replace hx295_0:=(HB.out.cell (World.block_lt_of_cell? w _ hx295_0)).trans hx295_0
   replace hx295_1:=(HB.out.cell (World.block_lt_of_cell? w _ hx295_1)).trans hx295_1
   replace hx295_2:=(HB.out.cell (World.block_lt_of_cell? w _ hx295_2)).trans hx295_2
   replace hx295_3:=(HB.out.cell (World.block_lt_of_cell? w _ hx295_3)).trans hx295_3
   replace hx295_4:=(HB.out.cell (World.block_lt_of_cell? w _ hx295_4)).trans hx295_4
   replace hx295_5:=(HB.out.cell (World.block_lt_of_cell? w _ hx295_5)).trans hx295_5
   replace p295:=eq_true p295
   replace q295:=eq_true q295
   refine start_ (n:=12) (S:=fun w' => w'.cell? (ad294.add ((x5_1).toNat * 6)) = some (.int .i64 ((rd_T58 l0 x5_1).f0)) ∧ w'.cell? ⟨(ad294.add ((x5_1).toNat * 6)).block,(ad294.add ((x5_1).toNat * 6)).off + 1,none⟩ = some (.int .i64 ((rd_T58 l0 x5_1).f1)) ∧ w'.cell? ⟨(ad294.add ((x5_1).toNat * 6)).block,(ad294.add ((x5_1).toNat * 6)).off + 2,none⟩ = some (.float .f64 ((rd_T58 l0 x5_1).f2)) ∧ w'.cell? ⟨(ad294.add ((x5_1).toNat * 6)).block,(ad294.add ((x5_1).toNat * 6)).off + 3,none⟩ = some (.int .i64 ((rd_T58 l0 x5_1).f3)) ∧ w'.cell? ⟨(ad294.add ((x5_1).toNat * 6)).block,(ad294.add ((x5_1).toNat * 6)).off + 4,none⟩ = some (.float .f64 ((rd_T58 l0 x5_1).f4)) ∧ w'.cell? ⟨(ad294.add ((x5_1).toNat * 6)).block,(ad294.add ((x5_1).toNat * 6)).off + 5,none⟩ = some (.int .i64 ((rd_T58 l0 x5_1).f5)) ∧ w'.cell? (ad295.add ((x5_1).toNat * 6)) = some (.int .i64 ((rd_T58 l1 x5_1).f0)) ∧ w'.cell? ⟨(ad295.add ((x5_1).toNat * 6)).block,(ad295.add ((x5_1).toNat * 6)).off + 1,none⟩ = some (.int .i64 ((rd_T58 l1 x5_1).f1)) ∧ w'.cell? ⟨(ad295.add ((x5_1).toNat * 6)).block,(ad295.add ((x5_1).toNat * 6)).off + 2,none⟩ = some (.float .f64 ((rd_T58 l1 x5_1).f2)) ∧ w'.cell? ⟨(ad295.add ((x5_1).toNat * 6)).block,(ad295.add ((x5_1).toNat * 6)).off + 3,none⟩ = some (.int .i64 ((rd_T58 l1 x5_1).f3)) ∧ w'.cell? ⟨(ad295.add ((x5_1).toNat * 6)).block,(ad295.add ((x5_1).toNat * 6)).off + 4,none⟩ = some (.float .f64 ((rd_T58 l1 x5_1).f4)) ∧ w'.cell? ⟨(ad295.add ((x5_1).toNat * 6)).block,(ad295.add ((x5_1).toNat * 6)).off + 5,none⟩ = some (.int .i64 ((rd_T58 l1 x5_1).f5))) (ds:=[]) #[false,false,false,false,false,false,false,false,false,false,false,false] (by kernel_rfl) rfl rfl ⟨((HB.out.cell (World.block_lt_of_cell? w _ hw294_0)).trans hw294_0),((HB.out.cell (World.block_lt_of_cell? w _ hw294_1)).trans hw294_1),((HB.out.cell (World.block_lt_of_cell? w _ hw294_2)).trans hw294_2),((HB.out.cell (World.block_lt_of_cell? w _ hw294_3)).trans hw294_3),((HB.out.cell (World.block_lt_of_cell? w _ hw294_4)).trans hw294_4),((HB.out.cell (World.block_lt_of_cell? w _ hw294_5)).trans hw294_5),((HB.out.cell (World.block_lt_of_cell? w _ hw295_0)).trans hw295_0),((HB.out.cell (World.block_lt_of_cell? w _ hw295_1)).trans hw295_1),((HB.out.cell (World.block_lt_of_cell? w _ hw295_2)).trans hw295_2),((HB.out.cell (World.block_lt_of_cell? w _ hw295_3)).trans hw295_3),((HB.out.cell (World.block_lt_of_cell? w _ hw295_4)).trans hw295_4),((HB.out.cell (World.block_lt_of_cell? w _ hw295_5)).trans hw295_5)⟩ (fun hHeld => ?_);refine with_tabW beaconref09_SameEntries.tab6 beaconref09_SameEntries.bits6 (fun HT_ HW_ => ?_)
   generalize wr.drew = w8 at HB hx294_0 hx294_1 hx294_2 hx294_3 hx294_4 hx294_5 hx295_0 hx295_1 hx295_2 hx295_3 hx295_4 hx295_5 hHeld ⊢
   refine manyW_ (fuel:=4) (a':=?_) ((0,0) :: (1,0) :: (2,0) :: (4,0) :: (5,0) :: (6,0) :: (3,2) :: (7,2) :: []) #[true,true,true,true,true,true,true,true,false,false,false,false] rfl HT_ HW_ (by kernel_rfl) (fun _ _ _ _ _ h => h) (fun _ => hHeld) ?_ ?_
   rotate_left
   ·repeat (first | exact Chain.nil _ | (apply Chain.on;rfl;rfl;(focus intro w';go_simp;with_reducible rfl);(focus simp only [Act.put,List.setIfInBounds_toArray,List.set_cons_zero,List.set_cons_succ,i64_w,i32_w];rfl)) | (apply Chain.take;rfl;rfl;(focus rintro w' ⟨s0,s1,s2,s3,s4,s5,s6,s7,s8,s9,s10,s11⟩;go_simp;with_reducible rfl);(focus simp only [Act.put,List.setIfInBounds_toArray,List.set_cons_zero,List.set_cons_succ,i64_w,i32_w];rfl)))
   refine join_ (σ:=Nat × Nat) 2 #[true,true,true,true,true,true,true,true,true,true,false,false] (fun s_ => [(6,.pointer (some ⟨s_.1,0,none⟩)),(7,.pointer (some ⟨s_.2,0,none⟩))]) (fun s_ w' => (w'.cell? (ad294.add ((x5_1).toNat * 6)) = some (.int .i64 ((rd_T58 l0 x5_1).f0)) ∧ w'.cell? ⟨(ad294.add ((x5_1).toNat * 6)).block,(ad294.add ((x5_1).toNat * 6)).off + 1,none⟩ = some (.int .i64 ((rd_T58 l0 x5_1).f1)) ∧ w'.cell? ⟨(ad294.add ((x5_1).toNat * 6)).block,(ad294.add ((x5_1).toNat * 6)).off + 2,none⟩ = some (.float .f64 ((rd_T58 l0 x5_1).f2)) ∧ w'.cell? ⟨(ad294.add ((x5_1).toNat * 6)).block,(ad294.add ((x5_1).toNat * 6)).off + 3,none⟩ = some (.int .i64 ((rd_T58 l0 x5_1).f3)) ∧ w'.cell? ⟨(ad294.add ((x5_1).toNat * 6)).block,(ad294.add ((x5_1).toNat * 6)).off + 4,none⟩ = some (.float .f64 ((rd_T58 l0 x5_1).f4)) ∧ w'.cell? ⟨(ad294.add ((x5_1).toNat * 6)).block,(ad294.add ((x5_1).toNat * 6)).off + 5,none⟩ = some (.int .i64 ((rd_T58 l0 x5_1).f5)) ∧ w'.cell? (ad295.add ((x5_1).toNat * 6)) = some (.int .i64 ((rd_T58 l1 x5_1).f0)) ∧ w'.cell? ⟨(ad295.add ((x5_1).toNat * 6)).block,(ad295.add ((x5_1).toNat * 6)).off + 1,none⟩ = some (.int .i64 ((rd_T58 l1 x5_1).f1)) ∧ w'.cell? ⟨(ad295.add ((x5_1).toNat * 6)).block,(ad295.add ((x5_1).toNat * 6)).off + 2,none⟩ = some (.float .f64 ((rd_T58 l1 x5_1).f2)) ∧ w'.cell? ⟨(ad295.add ((x5_1).toNat * 6)).block,(ad295.add ((x5_1).toNat * 6)).off + 3,none⟩ = some (.int .i64 ((rd_T58 l1 x5_1).f3)) ∧ w'.cell? ⟨(ad295.add ((x5_1).toNat * 6)).block,(ad295.add ((x5_1).toNat * 6)).off + 4,none⟩ = some (.float .f64 ((rd_T58 l1 x5_1).f4)) ∧ w'.cell? ⟨(ad295.add ((x5_1).toNat * 6)).block,(ad295.add ((x5_1).toNat * 6)).off + 5,none⟩ = some (.int .i64 ((rd_T58 l1 x5_1).f5))) ∧ (w'.heap[s_.1]? = some (.cells #[.int .i64 0,.int .i64 0,.float .f64 0,.int .i64 0,.float .f64 0,.int .i64 0] 58 (0,0))) ∧ (w'.heap[s_.2]? = some (.cells #[.int .i64 0,.int .i64 0,.float .f64 0,.int .i64 0,.float .f64 0,.int .i64 0] 58 (0,0))) ∧ (w.heap.size ≤ s_.1) ∧ (w.heap.size ≤ s_.1) ∧ (s_.2 ≠ s_.1) ∧ (s_.1 ≠ s_.2) ∧ (w.heap.size ≤ s_.2) ∧ (w.heap.size ≤ s_.2) ∧ (Below w.heap.size w w')) ?_ ?_
   rotate_left
   ·intro hCont
    refine two_ (i:=8) (j:=9) (Ni:=some 6) (Nj:=some 7) #[true,true,true,true,true,true,true,true,true,false,false,false] #[true,true,true,true,true,true,true,true,false,true,false,false] rfl rfl rfl rfl (two_of HT_.out (by kernel_rfl)) (by decide) (by decide) (fun K hK => ?_) (fun K hK => ?_)
    ·skip
     refine box_step ?hg (N:=6) ?hd (cs:=#[.int .i64 0,.int .i64 0,.float .f64 0,.int .i64 0,.float .f64 0,.int .i64 0]) (t:=58) ?hr ?_;(case hd => rfl);(case hg => rfl);(case hr => first | (go_simp;done) | (go_simp;rfl))
     intro gb296 hg w9 hbox hb
     have n0_:=Aside0.mk (below_step (by repeat (first | (with_reducible first | exact HB.out | apply below_alloc | apply pw_below_drewN | apply below_drew1) | exact HB.out)) hb)
     have n1_:=Aside0.mk (hbox)
     have n2_:=Aside0.mk ((by rw [hg];exact (below_size (by repeat (first | (with_reducible first | exact HB.out | apply below_alloc | apply pw_below_drewN | apply below_drew1) | exact HB.out))):w.heap.size ≤ gb296))
     have n3_:=Aside0.mk ((by rw [hg];exact (below_size (by repeat (first | (with_reducible first | exact HB.out | apply below_alloc | apply pw_below_drewN | apply below_drew1) | exact HB.out))):w.heap.size ≤ gb296))
     clear HB
     have HB:=n0_
     have BK296:=n1_
     have GW296:=n2_
     have GE296:=n3_
     clear n0_ n1_ n2_ n3_
     clear hb hbox hg
     refine hK.out _ _ ⟨((HB.out.cell (World.block_lt_of_cell? w _ hw294_0)).trans hw294_0),((HB.out.cell (World.block_lt_of_cell? w _ hw294_1)).trans hw294_1),((HB.out.cell (World.block_lt_of_cell? w _ hw294_2)).trans hw294_2),((HB.out.cell (World.block_lt_of_cell? w _ hw294_3)).trans hw294_3),((HB.out.cell (World.block_lt_of_cell? w _ hw294_4)).trans hw294_4),((HB.out.cell (World.block_lt_of_cell? w _ hw294_5)).trans hw294_5),((HB.out.cell (World.block_lt_of_cell? w _ hw295_0)).trans hw295_0),((HB.out.cell (World.block_lt_of_cell? w _ hw295_1)).trans hw295_1),((HB.out.cell (World.block_lt_of_cell? w _ hw295_2)).trans hw295_2),((HB.out.cell (World.block_lt_of_cell? w _ hw295_3)).trans hw295_3),((HB.out.cell (World.block_lt_of_cell? w _ hw295_4)).trans hw295_4),((HB.out.cell (World.block_lt_of_cell? w _ hw295_5)).trans hw295_5)⟩ (fun hHeld => ?_)
     clear hK K
     refine norm_ (a':=?_) ?_ ?_
     rotate_left
     ·show Act.put _ (some 6) _ = _
      simp only [Act.put,List.setIfInBounds_toArray,List.set_cons_zero,List.set_cons_succ,i64_w,i32_w]
      rfl
     refine one_ (i:=9) (N:=some 7) #[true,true,true,true,true,true,true,true,true,true,false,false] rfl rfl (one_of HT_.out (by kernel_rfl)) (by decide) (fun K hK => ?_)
     refine box_step ?hg (N:=7) ?hd (cs:=#[.int .i64 0,.int .i64 0,.float .f64 0,.int .i64 0,.float .f64 0,.int .i64 0]) (t:=58) ?hr ?_;(case hd => rfl);(case hg => rfl);(case hr => first | (go_simp;done) | (go_simp;rfl))
     intro gb297 hg w10 hbox hb
     have n0_:=Aside0.mk (blk_below (g:=gb296) (o:=.cells #[.int .i64 0,.int .i64 0,.float .f64 0,.int .i64 0,.float .f64 0,.int .i64 0] 58 (0,0)) (by (with_reducible repeat (first | refine blk_drewN ?_ _ | refine blk_drew ?_ | refine blk_alloc ?_ _));exact BK296.out) hb)
     have n1_:=Aside0.mk (below_step (by repeat (first | (with_reducible first | exact HB.out | apply below_alloc | apply pw_below_drewN | apply below_drew1 | refine below_set ?_ GE296.out) | exact HB.out)) hb)
     have n2_:=Aside0.mk (hbox)
     have n3_:=Aside0.mk ((by rw [hg];exact (below_size (by repeat (first | (with_reducible first | exact HB.out | apply below_alloc | apply pw_below_drewN | apply below_drew1 | refine below_set ?_ GE296.out) | exact HB.out))):w.heap.size ≤ gb297))
     have n4_:=Aside0.mk ((by rw [hg];exact (below_size (by repeat (first | (with_reducible first | exact HB.out | apply below_alloc | apply pw_below_drewN | apply below_drew1 | refine below_set ?_ GE296.out) | exact HB.out))):w.heap.size ≤ gb297))
     have n5_:=Aside0.mk ((by rw [hg];exact Nat.ne_of_lt (blk_lt (g:=gb296) (o:=.cells #[.int .i64 0,.int .i64 0,.float .f64 0,.int .i64 0,.float .f64 0,.int .i64 0] 58 (0,0)) (by (with_reducible repeat (first | refine blk_drewN ?_ _ | refine blk_drew ?_ | refine blk_alloc ?_ _));exact BK296.out)):gb296 ≠ gb297))
     have n6_:=Aside0.mk ((by rw [hg];exact Nat.ne_of_gt (blk_lt (g:=gb296) (o:=.cells #[.int .i64 0,.int .i64 0,.float .f64 0,.int .i64 0,.float .f64 0,.int .i64 0] 58 (0,0)) (by (with_reducible repeat (first | refine blk_drewN ?_ _ | refine blk_drew ?_ | refine blk_alloc ?_ _));exact BK296.out)):gb297 ≠ gb296))
     clear BK296
     clear HB
     have BK296:=n0_
     have HB:=n1_
     have BK297:=n2_
     have GW297:=n3_
     have GE297:=n4_
     have NB296_297:=n5_
     have NB297_296:=n6_
     clear n0_ n1_ n2_ n3_ n4_ n5_ n6_
     clear hb hbox hg
     refine hK.out _ _ ⟨((HB.out.cell (World.block_lt_of_cell? w _ hw294_0)).trans hw294_0),((HB.out.cell (World.block_lt_of_cell? w _ hw294_1)).trans hw294_1),((HB.out.cell (World.block_lt_of_cell? w _ hw294_2)).trans hw294_2),((HB.out.cell (World.block_lt_of_cell? w _ hw294_3)).trans hw294_3),((HB.out.cell (World.block_lt_of_cell? w _ hw294_4)).trans hw294_4),((HB.out.cell (World.block_lt_of_cell? w _ hw294_5)).trans hw294_5),((HB.out.cell (World.block_lt_of_cell? w _ hw295_0)).trans hw295_0),((HB.out.cell (World.block_lt_of_cell? w _ hw295_1)).trans hw295_1),((HB.out.cell (World.block_lt_of_cell? w _ hw295_2)).trans hw295_2),((HB.out.cell (World.block_lt_of_cell? w _ hw295_3)).trans hw295_3),((HB.out.cell (World.block_lt_of_cell? w _ hw295_4)).trans hw295_4),((HB.out.cell (World.block_lt_of_cell? w _ hw295_5)).trans hw295_5)⟩ (fun hHeld => ?_)
     clear hK K
     refine norm_ (a':=?_) ?_ ?_
     rotate_left
     ·show Act.put _ (some 7) _ = _
      simp only [Act.put,List.setIfInBounds_toArray,List.set_cons_zero,List.set_cons_succ,i64_w,i32_w]
      rfl
     exact norm_ (by simp only [putAll,Act.put,List.setIfInBounds_toArray,List.set_cons_zero,List.set_cons_succ]) (hCont (gb296,gb297) _ ⟨hHeld,(by (with_reducible repeat (first | refine blk_drewN ?_ _ | refine blk_drew ?_ | refine blk_alloc ?_ _));exact BK296.out),(by (with_reducible repeat (first | refine blk_drewN ?_ _ | refine blk_drew ?_ | refine blk_alloc ?_ _));exact BK297.out),GW296.out,GE296.out,NB297_296.out,NB296_297.out,GW297.out,GE297.out,(by repeat (first | (with_reducible first | exact HB.out | apply below_alloc | apply pw_below_drewN | apply below_drew1 | refine below_set ?_ GE296.out | refine below_set ?_ GE297.out) | exact HB.out))⟩)
    skip
    refine box_step ?hg (N:=7) ?hd (cs:=#[.int .i64 0,.int .i64 0,.float .f64 0,.int .i64 0,.float .f64 0,.int .i64 0]) (t:=58) ?hr ?_;(case hd => rfl);(case hg => rfl);(case hr => first | (go_simp;done) | (go_simp;rfl))
    intro gb297 hg w9 hbox hb
    have n0_:=Aside0.mk (below_step (by repeat (first | (with_reducible first | exact HB.out | apply below_alloc | apply pw_below_drewN | apply below_drew1) | exact HB.out)) hb)
    have n1_:=Aside0.mk (hbox)
    have n2_:=Aside0.mk ((by rw [hg];exact (below_size (by repeat (first | (with_reducible first | exact HB.out | apply below_alloc | apply pw_below_drewN | apply below_drew1) | exact HB.out))):w.heap.size ≤ gb297))
    have n3_:=Aside0.mk ((by rw [hg];exact (below_size (by repeat (first | (with_reducible first | exact HB.out | apply below_alloc | apply pw_below_drewN | apply below_drew1) | exact HB.out))):w.heap.size ≤ gb297))
    clear HB
    have HB:=n0_
    have BK297:=n1_
    have GW297:=n2_
    have GE297:=n3_
    clear n0_ n1_ n2_ n3_
    clear hb hbox hg
    refine hK.out _ _ ⟨((HB.out.cell (World.block_lt_of_cell? w _ hw294_0)).trans hw294_0),((HB.out.cell (World.block_lt_of_cell? w _ hw294_1)).trans hw294_1),((HB.out.cell (World.block_lt_of_cell? w _ hw294_2)).trans hw294_2),((HB.out.cell (World.block_lt_of_cell? w _ hw294_3)).trans hw294_3),((HB.out.cell (World.block_lt_of_cell? w _ hw294_4)).trans hw294_4),((HB.out.cell (World.block_lt_of_cell? w _ hw294_5)).trans hw294_5),((HB.out.cell (World.block_lt_of_cell? w _ hw295_0)).trans hw295_0),((HB.out.cell (World.block_lt_of_cell? w _ hw295_1)).trans hw295_1),((HB.out.cell (World.block_lt_of_cell? w _ hw295_2)).trans hw295_2),((HB.out.cell (World.block_lt_of_cell? w _ hw295_3)).trans hw295_3),((HB.out.cell (World.block_lt_of_cell? w _ hw295_4)).trans hw295_4),((HB.out.cell (World.block_lt_of_cell? w _ hw295_5)).trans hw295_5)⟩ (fun hHeld => ?_)
    clear hK K
    refine norm_ (a':=?_) ?_ ?_
    rotate_left
    ·show Act.put _ (some 7) _ = _
     simp only [Act.put,List.setIfInBounds_toArray,List.set_cons_zero,List.set_cons_succ,i64_w,i32_w]
     rfl
    refine one_ (i:=8) (N:=some 6) #[true,true,true,true,true,true,true,true,true,true,false,false] rfl rfl (one_of HT_.out (by kernel_rfl)) (by decide) (fun K hK => ?_)
    refine box_step ?hg (N:=6) ?hd (cs:=#[.int .i64 0,.int .i64 0,.float .f64 0,.int .i64 0,.float .f64 0,.int .i64 0]) (t:=58) ?hr ?_;(case hd => rfl);(case hg => rfl);(case hr => first | (go_simp;done) | (go_simp;rfl))
    intro gb296 hg w10 hbox hb
    have n0_:=Aside0.mk (blk_below (g:=gb297) (o:=.cells #[.int .i64 0,.int .i64 0,.float .f64 0,.int .i64 0,.float .f64 0,.int .i64 0] 58 (0,0)) (by (with_reducible repeat (first | refine blk_drewN ?_ _ | refine blk_drew ?_ | refine blk_alloc ?_ _));exact BK297.out) hb)
    have n1_:=Aside0.mk (below_step (by repeat (first | (with_reducible first | exact HB.out | apply below_alloc | apply pw_below_drewN | apply below_drew1 | refine below_set ?_ GE297.out) | exact HB.out)) hb)
    have n2_:=Aside0.mk (hbox)
    have n3_:=Aside0.mk ((by rw [hg];exact (below_size (by repeat (first | (with_reducible first | exact HB.out | apply below_alloc | apply pw_below_drewN | apply below_drew1 | refine below_set ?_ GE297.out) | exact HB.out))):w.heap.size ≤ gb296))
    have n4_:=Aside0.mk ((by rw [hg];exact (below_size (by repeat (first | (with_reducible first | exact HB.out | apply below_alloc | apply pw_below_drewN | apply below_drew1 | refine below_set ?_ GE297.out) | exact HB.out))):w.heap.size ≤ gb296))
    have n5_:=Aside0.mk ((by rw [hg];exact Nat.ne_of_lt (blk_lt (g:=gb297) (o:=.cells #[.int .i64 0,.int .i64 0,.float .f64 0,.int .i64 0,.float .f64 0,.int .i64 0] 58 (0,0)) (by (with_reducible repeat (first | refine blk_drewN ?_ _ | refine blk_drew ?_ | refine blk_alloc ?_ _));exact BK297.out)):gb297 ≠ gb296))
    have n6_:=Aside0.mk ((by rw [hg];exact Nat.ne_of_gt (blk_lt (g:=gb297) (o:=.cells #[.int .i64 0,.int .i64 0,.float .f64 0,.int .i64 0,.float .f64 0,.int .i64 0] 58 (0,0)) (by (with_reducible repeat (first | refine blk_drewN ?_ _ | refine blk_drew ?_ | refine blk_alloc ?_ _));exact BK297.out)):gb296 ≠ gb297))
    clear BK297
    clear HB
    have BK297:=n0_
    have HB:=n1_
    have BK296:=n2_
    have GW296:=n3_
    have GE296:=n4_
    have NB297_296:=n5_
    have NB296_297:=n6_
    clear n0_ n1_ n2_ n3_ n4_ n5_ n6_
    clear hb hbox hg
    refine hK.out _ _ ⟨((HB.out.cell (World.block_lt_of_cell? w _ hw294_0)).trans hw294_0),((HB.out.cell (World.block_lt_of_cell? w _ hw294_1)).trans hw294_1),((HB.out.cell (World.block_lt_of_cell? w _ hw294_2)).trans hw294_2),((HB.out.cell (World.block_lt_of_cell? w _ hw294_3)).trans hw294_3),((HB.out.cell (World.block_lt_of_cell? w _ hw294_4)).trans hw294_4),((HB.out.cell (World.block_lt_of_cell? w _ hw294_5)).trans hw294_5),((HB.out.cell (World.block_lt_of_cell? w _ hw295_0)).trans hw295_0),((HB.out.cell (World.block_lt_of_cell? w _ hw295_1)).trans hw295_1),((HB.out.cell (World.block_lt_of_cell? w _ hw295_2)).trans hw295_2),((HB.out.cell (World.block_lt_of_cell? w _ hw295_3)).trans hw295_3),((HB.out.cell (World.block_lt_of_cell? w _ hw295_4)).trans hw295_4),((HB.out.cell (World.block_lt_of_cell? w _ hw295_5)).trans hw295_5)⟩ (fun hHeld => ?_)
    clear hK K
    refine norm_ (a':=?_) ?_ ?_
    rotate_left
    ·show Act.put _ (some 6) _ = _
     simp only [Act.put,List.setIfInBounds_toArray,List.set_cons_zero,List.set_cons_succ,i64_w,i32_w]
     rfl
    exact norm_ (by simp only [putAll,Act.put,List.setIfInBounds_toArray,List.set_cons_zero,List.set_cons_succ]) (hCont (gb296,gb297) _ ⟨hHeld,(by (with_reducible repeat (first | refine blk_drewN ?_ _ | refine blk_drew ?_ | refine blk_alloc ?_ _));exact BK296.out),(by (with_reducible repeat (first | refine blk_drewN ?_ _ | refine blk_drew ?_ | refine blk_alloc ?_ _));exact BK297.out),GW296.out,GE296.out,NB297_296.out,NB296_297.out,GW297.out,GE297.out,(by repeat (first | (with_reducible first | exact HB.out | apply below_alloc | apply pw_below_drewN | apply below_drew1 | refine below_set ?_ GE297.out | refine below_set ?_ GE296.out) | exact HB.out))⟩)
   rintro ⟨gb296,gb297⟩ w11 ⟨hS_,h0_,h1_,h2_,h3_,h4_,h5_,h6_,h7_,h8_⟩
   have n0_:Aside0 (w11.heap[gb296]? = some (.cells #[.int .i64 0,.int .i64 0,.float .f64 0,.int .i64 0,.float .f64 0,.int .i64 0] 58 (0,0))):=⟨h0_⟩
   have n1_:Aside0 (w11.heap[gb297]? = some (.cells #[.int .i64 0,.int .i64 0,.float .f64 0,.int .i64 0,.float .f64 0,.int .i64 0] 58 (0,0))):=⟨h1_⟩
   have n2_:Aside0 (w.heap.size ≤ gb296):=⟨h2_⟩
   have n3_:Aside0 (w.heap.size ≤ gb296):=⟨h3_⟩
   have n4_:Aside0 (gb297 ≠ gb296):=⟨h4_⟩
   have n5_:Aside0 (gb296 ≠ gb297):=⟨h5_⟩
   have n6_:Aside0 (w.heap.size ≤ gb297):=⟨h6_⟩
   have n7_:Aside0 (w.heap.size ≤ gb297):=⟨h7_⟩
   have n8_:Aside0 (Below w.heap.size w w11):=⟨h8_⟩
   clear HB
   clear h0_ h1_ h2_ h3_ h4_ h5_ h6_ h7_ h8_
   have BK296:=n0_
   have BK297:=n1_
   have GW296:=n2_
   have GE296:=n3_
   have NB297_296:=n4_
   have NB296_297:=n5_
   have GW297:=n6_
   have GE297:=n7_
   have HB:=n8_
   clear n0_ n1_ n2_ n3_ n4_ n5_ n6_ n7_ n8_
   have hHeld:w11.cell? (ad294.add ((x5_1).toNat * 6)) = some (.int .i64 ((rd_T58 l0 x5_1).f0)) ∧ w11.cell? ⟨(ad294.add ((x5_1).toNat * 6)).block,(ad294.add ((x5_1).toNat * 6)).off + 1,none⟩ = some (.int .i64 ((rd_T58 l0 x5_1).f1)) ∧ w11.cell? ⟨(ad294.add ((x5_1).toNat * 6)).block,(ad294.add ((x5_1).toNat * 6)).off + 2,none⟩ = some (.float .f64 ((rd_T58 l0 x5_1).f2)) ∧ w11.cell? ⟨(ad294.add ((x5_1).toNat * 6)).block,(ad294.add ((x5_1).toNat * 6)).off + 3,none⟩ = some (.int .i64 ((rd_T58 l0 x5_1).f3)) ∧ w11.cell? ⟨(ad294.add ((x5_1).toNat * 6)).block,(ad294.add ((x5_1).toNat * 6)).off + 4,none⟩ = some (.float .f64 ((rd_T58 l0 x5_1).f4)) ∧ w11.cell? ⟨(ad294.add ((x5_1).toNat * 6)).block,(ad294.add ((x5_1).toNat * 6)).off + 5,none⟩ = some (.int .i64 ((rd_T58 l0 x5_1).f5)) ∧ w11.cell? (ad295.add ((x5_1).toNat * 6)) = some (.int .i64 ((rd_T58 l1 x5_1).f0)) ∧ w11.cell? ⟨(ad295.add ((x5_1).toNat * 6)).block,(ad295.add ((x5_1).toNat * 6)).off + 1,none⟩ = some (.int .i64 ((rd_T58 l1 x5_1).f1)) ∧ w11.cell? ⟨(ad295.add ((x5_1).toNat * 6)).block,(ad295.add ((x5_1).toNat * 6)).off + 2,none⟩ = some (.float .f64 ((rd_T58 l1 x5_1).f2)) ∧ w11.cell? ⟨(ad295.add ((x5_1).toNat * 6)).block,(ad295.add ((x5_1).toNat * 6)).off + 3,none⟩ = some (.int .i64 ((rd_T58 l1 x5_1).f3)) ∧ w11.cell? ⟨(ad295.add ((x5_1).toNat * 6)).block,(ad295.add ((x5_1).toNat * 6)).off + 4,none⟩ = some (.float .f64 ((rd_T58 l1 x5_1).f4)) ∧ w11.cell? ⟨(ad295.add ((x5_1).toNat * 6)).block,(ad295.add ((x5_1).toNat * 6)).off + 5,none⟩ = some (.int .i64 ((rd_T58 l1 x5_1).f5)):=hS_
   refine norm_ (a':=?_) ?_ ?_
   rotate_left
   ·simp only [putAll,Act.put,List.setIfInBounds_toArray,List.set_cons_zero,List.set_cons_succ]
    rfl
   refine one_ (i:=10) (N:=none) #[true,true,true,true,true,true,true,true,true,true,true,false] rfl rfl (one_of HT_.out (by kernel_rfl)) (by decide) (fun K hK => ?_)
   have hs12:w11.cell? ⟨gb296,0,none⟩ = some (.int .i64 0):=(blk_cell BK296.out 0).trans rfl
   have hfs12:=blk_frozen BK296.out 0
   have hns12_1:=NB297_296.out
   have hms12_1:=NB296_297.out
   have hs13:w11.cell? ⟨gb296,1,none⟩ = some (.int .i64 0):=(blk_cell BK296.out 1).trans rfl
   have hfs13:=blk_frozen BK296.out 1
   have hns13_1:=NB297_296.out
   have hms13_1:=NB296_297.out
   have hs14:w11.cell? ⟨gb296,2,none⟩ = some (.float .f64 0):=(blk_cell BK296.out 2).trans rfl
   have hfs14:=blk_frozen BK296.out 2
   have hns14_1:=NB297_296.out
   have hms14_1:=NB296_297.out
   have hs15:w11.cell? ⟨gb296,3,none⟩ = some (.int .i64 0):=(blk_cell BK296.out 3).trans rfl
   have hfs15:=blk_frozen BK296.out 3
   have hns15_1:=NB297_296.out
   have hms15_1:=NB296_297.out
   have hs16:w11.cell? ⟨gb296,4,none⟩ = some (.float .f64 0):=(blk_cell BK296.out 4).trans rfl
   have hfs16:=blk_frozen BK296.out 4
   have hns16_1:=NB297_296.out
   have hms16_1:=NB296_297.out
   have hs17:w11.cell? ⟨gb296,5,none⟩ = some (.int .i64 0):=(blk_cell BK296.out 5).trans rfl
   have hfs17:=blk_frozen BK296.out 5
   have hns17_1:=NB297_296.out
   have hms17_1:=NB296_297.out
   refine skip_ (w1:=?_) (by rfl) rfl ?_ ?_
   rotate_left
   ·go_simp
    rfl
   refine hK.out _ _ ⟨((cell_far (p:=⟨gb296,_,none⟩) (Nat.ne_of_lt (Nat.lt_of_lt_of_le (World.block_lt_of_cell? _ _ hw294_0) GW296.out)) _).trans (((cell_far (p:=⟨gb296,_,none⟩) (Nat.ne_of_lt (Nat.lt_of_lt_of_le (World.block_lt_of_cell? _ _ hw294_0) GW296.out)) _).trans (((cell_far (p:=⟨gb296,_,none⟩) (Nat.ne_of_lt (Nat.lt_of_lt_of_le (World.block_lt_of_cell? _ _ hw294_0) GW296.out)) _).trans (((cell_far (p:=⟨gb296,_,none⟩) (Nat.ne_of_lt (Nat.lt_of_lt_of_le (World.block_lt_of_cell? _ _ hw294_0) GW296.out)) _).trans (((cell_far (p:=⟨gb296,_,none⟩) (Nat.ne_of_lt (Nat.lt_of_lt_of_le (World.block_lt_of_cell? _ _ hw294_0) GW296.out)) _).trans (((cell_far (p:=⟨gb296,_,none⟩) (Nat.ne_of_lt (Nat.lt_of_lt_of_le (World.block_lt_of_cell? _ _ hw294_0) GW296.out)) _).trans (hHeld.1)))))))))))),((cell_far (p:=⟨gb296,_,none⟩) (Nat.ne_of_lt (Nat.lt_of_lt_of_le (World.block_lt_of_cell? _ _ hw294_1) GW296.out)) _).trans (((cell_far (p:=⟨gb296,_,none⟩) (Nat.ne_of_lt (Nat.lt_of_lt_of_le (World.block_lt_of_cell? _ _ hw294_1) GW296.out)) _).trans (((cell_far (p:=⟨gb296,_,none⟩) (Nat.ne_of_lt (Nat.lt_of_lt_of_le (World.block_lt_of_cell? _ _ hw294_1) GW296.out)) _).trans (((cell_far (p:=⟨gb296,_,none⟩) (Nat.ne_of_lt (Nat.lt_of_lt_of_le (World.block_lt_of_cell? _ _ hw294_1) GW296.out)) _).trans (((cell_far (p:=⟨gb296,_,none⟩) (Nat.ne_of_lt (Nat.lt_of_lt_of_le (World.block_lt_of_cell? _ _ hw294_1) GW296.out)) _).trans (((cell_far (p:=⟨gb296,_,none⟩) (Nat.ne_of_lt (Nat.lt_of_lt_of_le (World.block_lt_of_cell? _ _ hw294_1) GW296.out)) _).trans (hHeld.2.1)))))))))))),((cell_far (p:=⟨gb296,_,none⟩) (Nat.ne_of_lt (Nat.lt_of_lt_of_le (World.block_lt_of_cell? _ _ hw294_2) GW296.out)) _).trans (((cell_far (p:=⟨gb296,_,none⟩) (Nat.ne_of_lt (Nat.lt_of_lt_of_le (World.block_lt_of_cell? _ _ hw294_2) GW296.out)) _).trans (((cell_far (p:=⟨gb296,_,none⟩) (Nat.ne_of_lt (Nat.lt_of_lt_of_le (World.block_lt_of_cell? _ _ hw294_2) GW296.out)) _).trans (((cell_far (p:=⟨gb296,_,none⟩) (Nat.ne_of_lt (Nat.lt_of_lt_of_le (World.block_lt_of_cell? _ _ hw294_2) GW296.out)) _).trans (((cell_far (p:=⟨gb296,_,none⟩) (Nat.ne_of_lt (Nat.lt_of_lt_of_le (World.block_lt_of_cell? _ _ hw294_2) GW296.out)) _).trans (((cell_far (p:=⟨gb296,_,none⟩) (Nat.ne_of_lt (Nat.lt_of_lt_of_le (World.block_lt_of_cell? _ _ hw294_2) GW296.out)) _).trans (hHeld.2.2.1)))))))))))),((cell_far (p:=⟨gb296,_,none⟩) (Nat.ne_of_lt (Nat.lt_of_lt_of_le (World.block_lt_of_cell? _ _ hw294_3) GW296.out)) _).trans (((cell_far (p:=⟨gb296,_,none⟩) (Nat.ne_of_lt (Nat.lt_of_lt_of_le (World.block_lt_of_cell? _ _ hw294_3) GW296.out)) _).trans (((cell_far (p:=⟨gb296,_,none⟩) (Nat.ne_of_lt (Nat.lt_of_lt_of_le (World.block_lt_of_cell? _ _ hw294_3) GW296.out)) _).trans (((cell_far (p:=⟨gb296,_,none⟩) (Nat.ne_of_lt (Nat.lt_of_lt_of_le (World.block_lt_of_cell? _ _ hw294_3) GW296.out)) _).trans (((cell_far (p:=⟨gb296,_,none⟩) (Nat.ne_of_lt (Nat.lt_of_lt_of_le (World.block_lt_of_cell? _ _ hw294_3) GW296.out)) _).trans (((cell_far (p:=⟨gb296,_,none⟩) (Nat.ne_of_lt (Nat.lt_of_lt_of_le (World.block_lt_of_cell? _ _ hw294_3) GW296.out)) _).trans (hHeld.2.2.2.1)))))))))))),((cell_far (p:=⟨gb296,_,none⟩) (Nat.ne_of_lt (Nat.lt_of_lt_of_le (World.block_lt_of_cell? _ _ hw294_4) GW296.out)) _).trans (((cell_far (p:=⟨gb296,_,none⟩) (Nat.ne_of_lt (Nat.lt_of_lt_of_le (World.block_lt_of_cell? _ _ hw294_4) GW296.out)) _).trans (((cell_far (p:=⟨gb296,_,none⟩) (Nat.ne_of_lt (Nat.lt_of_lt_of_le (World.block_lt_of_cell? _ _ hw294_4) GW296.out)) _).trans (((cell_far (p:=⟨gb296,_,none⟩) (Nat.ne_of_lt (Nat.lt_of_lt_of_le (World.block_lt_of_cell? _ _ hw294_4) GW296.out)) _).trans (((cell_far (p:=⟨gb296,_,none⟩) (Nat.ne_of_lt (Nat.lt_of_lt_of_le (World.block_lt_of_cell? _ _ hw294_4) GW296.out)) _).trans (((cell_far (p:=⟨gb296,_,none⟩) (Nat.ne_of_lt (Nat.lt_of_lt_of_le (World.block_lt_of_cell? _ _ hw294_4) GW296.out)) _).trans (hHeld.2.2.2.2.1)))))))))))),((cell_far (p:=⟨gb296,_,none⟩) (Nat.ne_of_lt (Nat.lt_of_lt_of_le (World.block_lt_of_cell? _ _ hw294_5) GW296.out)) _).trans (((cell_far (p:=⟨gb296,_,none⟩) (Nat.ne_of_lt (Nat.lt_of_lt_of_le (World.block_lt_of_cell? _ _ hw294_5) GW296.out)) _).trans (((cell_far (p:=⟨gb296,_,none⟩) (Nat.ne_of_lt (Nat.lt_of_lt_of_le (World.block_lt_of_cell? _ _ hw294_5) GW296.out)) _).trans (((cell_far (p:=⟨gb296,_,none⟩) (Nat.ne_of_lt (Nat.lt_of_lt_of_le (World.block_lt_of_cell? _ _ hw294_5) GW296.out)) _).trans (((cell_far (p:=⟨gb296,_,none⟩) (Nat.ne_of_lt (Nat.lt_of_lt_of_le (World.block_lt_of_cell? _ _ hw294_5) GW296.out)) _).trans (((cell_far (p:=⟨gb296,_,none⟩) (Nat.ne_of_lt (Nat.lt_of_lt_of_le (World.block_lt_of_cell? _ _ hw294_5) GW296.out)) _).trans (hHeld.2.2.2.2.2.1)))))))))))),((cell_far (p:=⟨gb296,_,none⟩) (Nat.ne_of_lt (Nat.lt_of_lt_of_le (World.block_lt_of_cell? _ _ hw295_0) GW296.out)) _).trans (((cell_far (p:=⟨gb296,_,none⟩) (Nat.ne_of_lt (Nat.lt_of_lt_of_le (World.block_lt_of_cell? _ _ hw295_0) GW296.out)) _).trans (((cell_far (p:=⟨gb296,_,none⟩) (Nat.ne_of_lt (Nat.lt_of_lt_of_le (World.block_lt_of_cell? _ _ hw295_0) GW296.out)) _).trans (((cell_far (p:=⟨gb296,_,none⟩) (Nat.ne_of_lt (Nat.lt_of_lt_of_le (World.block_lt_of_cell? _ _ hw295_0) GW296.out)) _).trans (((cell_far (p:=⟨gb296,_,none⟩) (Nat.ne_of_lt (Nat.lt_of_lt_of_le (World.block_lt_of_cell? _ _ hw295_0) GW296.out)) _).trans (((cell_far (p:=⟨gb296,_,none⟩) (Nat.ne_of_lt (Nat.lt_of_lt_of_le (World.block_lt_of_cell? _ _ hw295_0) GW296.out)) _).trans (hHeld.2.2.2.2.2.2.1)))))))))))),((cell_far (p:=⟨gb296,_,none⟩) (Nat.ne_of_lt (Nat.lt_of_lt_of_le (World.block_lt_of_cell? _ _ hw295_1) GW296.out)) _).trans (((cell_far (p:=⟨gb296,_,none⟩) (Nat.ne_of_lt (Nat.lt_of_lt_of_le (World.block_lt_of_cell? _ _ hw295_1) GW296.out)) _).trans (((cell_far (p:=⟨gb296,_,none⟩) (Nat.ne_of_lt (Nat.lt_of_lt_of_le (World.block_lt_of_cell? _ _ hw295_1) GW296.out)) _).trans (((cell_far (p:=⟨gb296,_,none⟩) (Nat.ne_of_lt (Nat.lt_of_lt_of_le (World.block_lt_of_cell? _ _ hw295_1) GW296.out)) _).trans (((cell_far (p:=⟨gb296,_,none⟩) (Nat.ne_of_lt (Nat.lt_of_lt_of_le (World.block_lt_of_cell? _ _ hw295_1) GW296.out)) _).trans (((cell_far (p:=⟨gb296,_,none⟩) (Nat.ne_of_lt (Nat.lt_of_lt_of_le (World.block_lt_of_cell? _ _ hw295_1) GW296.out)) _).trans (hHeld.2.2.2.2.2.2.2.1)))))))))))),((cell_far (p:=⟨gb296,_,none⟩) (Nat.ne_of_lt (Nat.lt_of_lt_of_le (World.block_lt_of_cell? _ _ hw295_2) GW296.out)) _).trans (((cell_far (p:=⟨gb296,_,none⟩) (Nat.ne_of_lt (Nat.lt_of_lt_of_le (World.block_lt_of_cell? _ _ hw295_2) GW296.out)) _).trans (((cell_far (p:=⟨gb296,_,none⟩) (Nat.ne_of_lt (Nat.lt_of_lt_of_le (World.block_lt_of_cell? _ _ hw295_2) GW296.out)) _).trans (((cell_far (p:=⟨gb296,_,none⟩) (Nat.ne_of_lt (Nat.lt_of_lt_of_le (World.block_lt_of_cell? _ _ hw295_2) GW296.out)) _).trans (((cell_far (p:=⟨gb296,_,none⟩) (Nat.ne_of_lt (Nat.lt_of_lt_of_le (World.block_lt_of_cell? _ _ hw295_2) GW296.out)) _).trans (((cell_far (p:=⟨gb296,_,none⟩) (Nat.ne_of_lt (Nat.lt_of_lt_of_le (World.block_lt_of_cell? _ _ hw295_2) GW296.out)) _).trans (hHeld.2.2.2.2.2.2.2.2.1)))))))))))),((cell_far (p:=⟨gb296,_,none⟩) (Nat.ne_of_lt (Nat.lt_of_lt_of_le (World.block_lt_of_cell? _ _ hw295_3) GW296.out)) _).trans (((cell_far (p:=⟨gb296,_,none⟩) (Nat.ne_of_lt (Nat.lt_of_lt_of_le (World.block_lt_of_cell? _ _ hw295_3) GW296.out)) _).trans (((cell_far (p:=⟨gb296,_,none⟩) (Nat.ne_of_lt (Nat.lt_of_lt_of_le (World.block_lt_of_cell? _ _ hw295_3) GW296.out)) _).trans (((cell_far (p:=⟨gb296,_,none⟩) (Nat.ne_of_lt (Nat.lt_of_lt_of_le (World.block_lt_of_cell? _ _ hw295_3) GW296.out)) _).trans (((cell_far (p:=⟨gb296,_,none⟩) (Nat.ne_of_lt (Nat.lt_of_lt_of_le (World.block_lt_of_cell? _ _ hw295_3) GW296.out)) _).trans (((cell_far (p:=⟨gb296,_,none⟩) (Nat.ne_of_lt (Nat.lt_of_lt_of_le (World.block_lt_of_cell? _ _ hw295_3) GW296.out)) _).trans (hHeld.2.2.2.2.2.2.2.2.2.1)))))))))))),((cell_far (p:=⟨gb296,_,none⟩) (Nat.ne_of_lt (Nat.lt_of_lt_of_le (World.block_lt_of_cell? _ _ hw295_4) GW296.out)) _).trans (((cell_far (p:=⟨gb296,_,none⟩) (Nat.ne_of_lt (Nat.lt_of_lt_of_le (World.block_lt_of_cell? _ _ hw295_4) GW296.out)) _).trans (((cell_far (p:=⟨gb296,_,none⟩) (Nat.ne_of_lt (Nat.lt_of_lt_of_le (World.block_lt_of_cell? _ _ hw295_4) GW296.out)) _).trans (((cell_far (p:=⟨gb296,_,none⟩) (Nat.ne_of_lt (Nat.lt_of_lt_of_le (World.block_lt_of_cell? _ _ hw295_4) GW296.out)) _).trans (((cell_far (p:=⟨gb296,_,none⟩) (Nat.ne_of_lt (Nat.lt_of_lt_of_le (World.block_lt_of_cell? _ _ hw295_4) GW296.out)) _).trans (((cell_far (p:=⟨gb296,_,none⟩) (Nat.ne_of_lt (Nat.lt_of_lt_of_le (World.block_lt_of_cell? _ _ hw295_4) GW296.out)) _).trans (hHeld.2.2.2.2.2.2.2.2.2.2.1)))))))))))),((cell_far (p:=⟨gb296,_,none⟩) (Nat.ne_of_lt (Nat.lt_of_lt_of_le (World.block_lt_of_cell? _ _ hw295_5) GW296.out)) _).trans (((cell_far (p:=⟨gb296,_,none⟩) (Nat.ne_of_lt (Nat.lt_of_lt_of_le (World.block_lt_of_cell? _ _ hw295_5) GW296.out)) _).trans (((cell_far (p:=⟨gb296,_,none⟩) (Nat.ne_of_lt (Nat.lt_of_lt_of_le (World.block_lt_of_cell? _ _ hw295_5) GW296.out)) _).trans (((cell_far (p:=⟨gb296,_,none⟩) (Nat.ne_of_lt (Nat.lt_of_lt_of_le (World.block_lt_of_cell? _ _ hw295_5) GW296.out)) _).trans (((cell_far (p:=⟨gb296,_,none⟩) (Nat.ne_of_lt (Nat.lt_of_lt_of_le (World.block_lt_of_cell? _ _ hw295_5) GW296.out)) _).trans (((cell_far (p:=⟨gb296,_,none⟩) (Nat.ne_of_lt (Nat.lt_of_lt_of_le (World.block_lt_of_cell? _ _ hw295_5) GW296.out)) _).trans (hHeld.2.2.2.2.2.2.2.2.2.2.2))))))))))))⟩ (fun hHeld => ?_)
   clear hK K
   refine one_ (i:=11) (N:=none) #[true,true,true,true,true,true,true,true,true,true,true,true] rfl rfl (one_of HT_.out (by kernel_rfl)) (by decide) (fun K hK => ?_)
   have hs18:w11.cell? ⟨gb297,0,none⟩ = some (.int .i64 0):=(blk_cell BK297.out 0).trans rfl
   have hfs18:=blk_frozen BK297.out 0
   have hns18_0:=NB296_297.out
   have hms18_0:=NB297_296.out
   have hs19:w11.cell? ⟨gb297,1,none⟩ = some (.int .i64 0):=(blk_cell BK297.out 1).trans rfl
   have hfs19:=blk_frozen BK297.out 1
   have hns19_0:=NB296_297.out
   have hms19_0:=NB297_296.out
   have hs20:w11.cell? ⟨gb297,2,none⟩ = some (.float .f64 0):=(blk_cell BK297.out 2).trans rfl
   have hfs20:=blk_frozen BK297.out 2
   have hns20_0:=NB296_297.out
   have hms20_0:=NB297_296.out
   have hs21:w11.cell? ⟨gb297,3,none⟩ = some (.int .i64 0):=(blk_cell BK297.out 3).trans rfl
   have hfs21:=blk_frozen BK297.out 3
   have hns21_0:=NB296_297.out
   have hms21_0:=NB297_296.out
   have hs22:w11.cell? ⟨gb297,4,none⟩ = some (.float .f64 0):=(blk_cell BK297.out 4).trans rfl
   have hfs22:=blk_frozen BK297.out 4
   have hns22_0:=NB296_297.out
   have hms22_0:=NB297_296.out
   have hs23:w11.cell? ⟨gb297,5,none⟩ = some (.int .i64 0):=(blk_cell BK297.out 5).trans rfl
   have hfs23:=blk_frozen BK297.out 5
   have hns23_0:=NB296_297.out
   have hms23_0:=NB297_296.out
   refine skip_ (w1:=?_) (by rfl) rfl ?_ ?_
   rotate_left
   ·go_simp
    rfl
   refine hK.out _ _ ⟨((cell_far (p:=⟨gb297,_,none⟩) (Nat.ne_of_lt (Nat.lt_of_lt_of_le (World.block_lt_of_cell? _ _ hw294_0) GW297.out)) _).trans (((cell_far (p:=⟨gb297,_,none⟩) (Nat.ne_of_lt (Nat.lt_of_lt_of_le (World.block_lt_of_cell? _ _ hw294_0) GW297.out)) _).trans (((cell_far (p:=⟨gb297,_,none⟩) (Nat.ne_of_lt (Nat.lt_of_lt_of_le (World.block_lt_of_cell? _ _ hw294_0) GW297.out)) _).trans (((cell_far (p:=⟨gb297,_,none⟩) (Nat.ne_of_lt (Nat.lt_of_lt_of_le (World.block_lt_of_cell? _ _ hw294_0) GW297.out)) _).trans (((cell_far (p:=⟨gb297,_,none⟩) (Nat.ne_of_lt (Nat.lt_of_lt_of_le (World.block_lt_of_cell? _ _ hw294_0) GW297.out)) _).trans (((cell_far (p:=⟨gb297,_,none⟩) (Nat.ne_of_lt (Nat.lt_of_lt_of_le (World.block_lt_of_cell? _ _ hw294_0) GW297.out)) _).trans (hHeld.1)))))))))))),((cell_far (p:=⟨gb297,_,none⟩) (Nat.ne_of_lt (Nat.lt_of_lt_of_le (World.block_lt_of_cell? _ _ hw294_1) GW297.out)) _).trans (((cell_far (p:=⟨gb297,_,none⟩) (Nat.ne_of_lt (Nat.lt_of_lt_of_le (World.block_lt_of_cell? _ _ hw294_1) GW297.out)) _).trans (((cell_far (p:=⟨gb297,_,none⟩) (Nat.ne_of_lt (Nat.lt_of_lt_of_le (World.block_lt_of_cell? _ _ hw294_1) GW297.out)) _).trans (((cell_far (p:=⟨gb297,_,none⟩) (Nat.ne_of_lt (Nat.lt_of_lt_of_le (World.block_lt_of_cell? _ _ hw294_1) GW297.out)) _).trans (((cell_far (p:=⟨gb297,_,none⟩) (Nat.ne_of_lt (Nat.lt_of_lt_of_le (World.block_lt_of_cell? _ _ hw294_1) GW297.out)) _).trans (((cell_far (p:=⟨gb297,_,none⟩) (Nat.ne_of_lt (Nat.lt_of_lt_of_le (World.block_lt_of_cell? _ _ hw294_1) GW297.out)) _).trans (hHeld.2.1)))))))))))),((cell_far (p:=⟨gb297,_,none⟩) (Nat.ne_of_lt (Nat.lt_of_lt_of_le (World.block_lt_of_cell? _ _ hw294_2) GW297.out)) _).trans (((cell_far (p:=⟨gb297,_,none⟩) (Nat.ne_of_lt (Nat.lt_of_lt_of_le (World.block_lt_of_cell? _ _ hw294_2) GW297.out)) _).trans (((cell_far (p:=⟨gb297,_,none⟩) (Nat.ne_of_lt (Nat.lt_of_lt_of_le (World.block_lt_of_cell? _ _ hw294_2) GW297.out)) _).trans (((cell_far (p:=⟨gb297,_,none⟩) (Nat.ne_of_lt (Nat.lt_of_lt_of_le (World.block_lt_of_cell? _ _ hw294_2) GW297.out)) _).trans (((cell_far (p:=⟨gb297,_,none⟩) (Nat.ne_of_lt (Nat.lt_of_lt_of_le (World.block_lt_of_cell? _ _ hw294_2) GW297.out)) _).trans (((cell_far (p:=⟨gb297,_,none⟩) (Nat.ne_of_lt (Nat.lt_of_lt_of_le (World.block_lt_of_cell? _ _ hw294_2) GW297.out)) _).trans (hHeld.2.2.1)))))))))))),((cell_far (p:=⟨gb297,_,none⟩) (Nat.ne_of_lt (Nat.lt_of_lt_of_le (World.block_lt_of_cell? _ _ hw294_3) GW297.out)) _).trans (((cell_far (p:=⟨gb297,_,none⟩) (Nat.ne_of_lt (Nat.lt_of_lt_of_le (World.block_lt_of_cell? _ _ hw294_3) GW297.out)) _).trans (((cell_far (p:=⟨gb297,_,none⟩) (Nat.ne_of_lt (Nat.lt_of_lt_of_le (World.block_lt_of_cell? _ _ hw294_3) GW297.out)) _).trans (((cell_far (p:=⟨gb297,_,none⟩) (Nat.ne_of_lt (Nat.lt_of_lt_of_le (World.block_lt_of_cell? _ _ hw294_3) GW297.out)) _).trans (((cell_far (p:=⟨gb297,_,none⟩) (Nat.ne_of_lt (Nat.lt_of_lt_of_le (World.block_lt_of_cell? _ _ hw294_3) GW297.out)) _).trans (((cell_far (p:=⟨gb297,_,none⟩) (Nat.ne_of_lt (Nat.lt_of_lt_of_le (World.block_lt_of_cell? _ _ hw294_3) GW297.out)) _).trans (hHeld.2.2.2.1)))))))))))),((cell_far (p:=⟨gb297,_,none⟩) (Nat.ne_of_lt (Nat.lt_of_lt_of_le (World.block_lt_of_cell? _ _ hw294_4) GW297.out)) _).trans (((cell_far (p:=⟨gb297,_,none⟩) (Nat.ne_of_lt (Nat.lt_of_lt_of_le (World.block_lt_of_cell? _ _ hw294_4) GW297.out)) _).trans (((cell_far (p:=⟨gb297,_,none⟩) (Nat.ne_of_lt (Nat.lt_of_lt_of_le (World.block_lt_of_cell? _ _ hw294_4) GW297.out)) _).trans (((cell_far (p:=⟨gb297,_,none⟩) (Nat.ne_of_lt (Nat.lt_of_lt_of_le (World.block_lt_of_cell? _ _ hw294_4) GW297.out)) _).trans (((cell_far (p:=⟨gb297,_,none⟩) (Nat.ne_of_lt (Nat.lt_of_lt_of_le (World.block_lt_of_cell? _ _ hw294_4) GW297.out)) _).trans (((cell_far (p:=⟨gb297,_,none⟩) (Nat.ne_of_lt (Nat.lt_of_lt_of_le (World.block_lt_of_cell? _ _ hw294_4) GW297.out)) _).trans (hHeld.2.2.2.2.1)))))))))))),((cell_far (p:=⟨gb297,_,none⟩) (Nat.ne_of_lt (Nat.lt_of_lt_of_le (World.block_lt_of_cell? _ _ hw294_5) GW297.out)) _).trans (((cell_far (p:=⟨gb297,_,none⟩) (Nat.ne_of_lt (Nat.lt_of_lt_of_le (World.block_lt_of_cell? _ _ hw294_5) GW297.out)) _).trans (((cell_far (p:=⟨gb297,_,none⟩) (Nat.ne_of_lt (Nat.lt_of_lt_of_le (World.block_lt_of_cell? _ _ hw294_5) GW297.out)) _).trans (((cell_far (p:=⟨gb297,_,none⟩) (Nat.ne_of_lt (Nat.lt_of_lt_of_le (World.block_lt_of_cell? _ _ hw294_5) GW297.out)) _).trans (((cell_far (p:=⟨gb297,_,none⟩) (Nat.ne_of_lt (Nat.lt_of_lt_of_le (World.block_lt_of_cell? _ _ hw294_5) GW297.out)) _).trans (((cell_far (p:=⟨gb297,_,none⟩) (Nat.ne_of_lt (Nat.lt_of_lt_of_le (World.block_lt_of_cell? _ _ hw294_5) GW297.out)) _).trans (hHeld.2.2.2.2.2.1)))))))))))),((cell_far (p:=⟨gb297,_,none⟩) (Nat.ne_of_lt (Nat.lt_of_lt_of_le (World.block_lt_of_cell? _ _ hw295_0) GW297.out)) _).trans (((cell_far (p:=⟨gb297,_,none⟩) (Nat.ne_of_lt (Nat.lt_of_lt_of_le (World.block_lt_of_cell? _ _ hw295_0) GW297.out)) _).trans (((cell_far (p:=⟨gb297,_,none⟩) (Nat.ne_of_lt (Nat.lt_of_lt_of_le (World.block_lt_of_cell? _ _ hw295_0) GW297.out)) _).trans (((cell_far (p:=⟨gb297,_,none⟩) (Nat.ne_of_lt (Nat.lt_of_lt_of_le (World.block_lt_of_cell? _ _ hw295_0) GW297.out)) _).trans (((cell_far (p:=⟨gb297,_,none⟩) (Nat.ne_of_lt (Nat.lt_of_lt_of_le (World.block_lt_of_cell? _ _ hw295_0) GW297.out)) _).trans (((cell_far (p:=⟨gb297,_,none⟩) (Nat.ne_of_lt (Nat.lt_of_lt_of_le (World.block_lt_of_cell? _ _ hw295_0) GW297.out)) _).trans (hHeld.2.2.2.2.2.2.1)))))))))))),((cell_far (p:=⟨gb297,_,none⟩) (Nat.ne_of_lt (Nat.lt_of_lt_of_le (World.block_lt_of_cell? _ _ hw295_1) GW297.out)) _).trans (((cell_far (p:=⟨gb297,_,none⟩) (Nat.ne_of_lt (Nat.lt_of_lt_of_le (World.block_lt_of_cell? _ _ hw295_1) GW297.out)) _).trans (((cell_far (p:=⟨gb297,_,none⟩) (Nat.ne_of_lt (Nat.lt_of_lt_of_le (World.block_lt_of_cell? _ _ hw295_1) GW297.out)) _).trans (((cell_far (p:=⟨gb297,_,none⟩) (Nat.ne_of_lt (Nat.lt_of_lt_of_le (World.block_lt_of_cell? _ _ hw295_1) GW297.out)) _).trans (((cell_far (p:=⟨gb297,_,none⟩) (Nat.ne_of_lt (Nat.lt_of_lt_of_le (World.block_lt_of_cell? _ _ hw295_1) GW297.out)) _).trans (((cell_far (p:=⟨gb297,_,none⟩) (Nat.ne_of_lt (Nat.lt_of_lt_of_le (World.block_lt_of_cell? _ _ hw295_1) GW297.out)) _).trans (hHeld.2.2.2.2.2.2.2.1)))))))))))),((cell_far (p:=⟨gb297,_,none⟩) (Nat.ne_of_lt (Nat.lt_of_lt_of_le (World.block_lt_of_cell? _ _ hw295_2) GW297.out)) _).trans (((cell_far (p:=⟨gb297,_,none⟩) (Nat.ne_of_lt (Nat.lt_of_lt_of_le (World.block_lt_of_cell? _ _ hw295_2) GW297.out)) _).trans (((cell_far (p:=⟨gb297,_,none⟩) (Nat.ne_of_lt (Nat.lt_of_lt_of_le (World.block_lt_of_cell? _ _ hw295_2) GW297.out)) _).trans (((cell_far (p:=⟨gb297,_,none⟩) (Nat.ne_of_lt (Nat.lt_of_lt_of_le (World.block_lt_of_cell? _ _ hw295_2) GW297.out)) _).trans (((cell_far (p:=⟨gb297,_,none⟩) (Nat.ne_of_lt (Nat.lt_of_lt_of_le (World.block_lt_of_cell? _ _ hw295_2) GW297.out)) _).trans (((cell_far (p:=⟨gb297,_,none⟩) (Nat.ne_of_lt (Nat.lt_of_lt_of_le (World.block_lt_of_cell? _ _ hw295_2) GW297.out)) _).trans (hHeld.2.2.2.2.2.2.2.2.1)))))))))))),((cell_far (p:=⟨gb297,_,none⟩) (Nat.ne_of_lt (Nat.lt_of_lt_of_le (World.block_lt_of_cell? _ _ hw295_3) GW297.out)) _).trans (((cell_far (p:=⟨gb297,_,none⟩) (Nat.ne_of_lt (Nat.lt_of_lt_of_le (World.block_lt_of_cell? _ _ hw295_3) GW297.out)) _).trans (((cell_far (p:=⟨gb297,_,none⟩) (Nat.ne_of_lt (Nat.lt_of_lt_of_le (World.block_lt_of_cell? _ _ hw295_3) GW297.out)) _).trans (((cell_far (p:=⟨gb297,_,none⟩) (Nat.ne_of_lt (Nat.lt_of_lt_of_le (World.block_lt_of_cell? _ _ hw295_3) GW297.out)) _).trans (((cell_far (p:=⟨gb297,_,none⟩) (Nat.ne_of_lt (Nat.lt_of_lt_of_le (World.block_lt_of_cell? _ _ hw295_3) GW297.out)) _).trans (((cell_far (p:=⟨gb297,_,none⟩) (Nat.ne_of_lt (Nat.lt_of_lt_of_le (World.block_lt_of_cell? _ _ hw295_3) GW297.out)) _).trans (hHeld.2.2.2.2.2.2.2.2.2.1)))))))))))),((cell_far (p:=⟨gb297,_,none⟩) (Nat.ne_of_lt (Nat.lt_of_lt_of_le (World.block_lt_of_cell? _ _ hw295_4) GW297.out)) _).trans (((cell_far (p:=⟨gb297,_,none⟩) (Nat.ne_of_lt (Nat.lt_of_lt_of_le (World.block_lt_of_cell? _ _ hw295_4) GW297.out)) _).trans (((cell_far (p:=⟨gb297,_,none⟩) (Nat.ne_of_lt (Nat.lt_of_lt_of_le (World.block_lt_of_cell? _ _ hw295_4) GW297.out)) _).trans (((cell_far (p:=⟨gb297,_,none⟩) (Nat.ne_of_lt (Nat.lt_of_lt_of_le (World.block_lt_of_cell? _ _ hw295_4) GW297.out)) _).trans (((cell_far (p:=⟨gb297,_,none⟩) (Nat.ne_of_lt (Nat.lt_of_lt_of_le (World.block_lt_of_cell? _ _ hw295_4) GW297.out)) _).trans (((cell_far (p:=⟨gb297,_,none⟩) (Nat.ne_of_lt (Nat.lt_of_lt_of_le (World.block_lt_of_cell? _ _ hw295_4) GW297.out)) _).trans (hHeld.2.2.2.2.2.2.2.2.2.2.1)))))))))))),((cell_far (p:=⟨gb297,_,none⟩) (Nat.ne_of_lt (Nat.lt_of_lt_of_le (World.block_lt_of_cell? _ _ hw295_5) GW297.out)) _).trans (((cell_far (p:=⟨gb297,_,none⟩) (Nat.ne_of_lt (Nat.lt_of_lt_of_le (World.block_lt_of_cell? _ _ hw295_5) GW297.out)) _).trans (((cell_far (p:=⟨gb297,_,none⟩) (Nat.ne_of_lt (Nat.lt_of_lt_of_le (World.block_lt_of_cell? _ _ hw295_5) GW297.out)) _).trans (((cell_far (p:=⟨gb297,_,none⟩) (Nat.ne_of_lt (Nat.lt_of_lt_of_le (World.block_lt_of_cell? _ _ hw295_5) GW297.out)) _).trans (((cell_far (p:=⟨gb297,_,none⟩) (Nat.ne_of_lt (Nat.lt_of_lt_of_le (World.block_lt_of_cell? _ _ hw295_5) GW297.out)) _).trans (((cell_far (p:=⟨gb297,_,none⟩) (Nat.ne_of_lt (Nat.lt_of_lt_of_le (World.block_lt_of_cell? _ _ hw295_5) GW297.out)) _).trans (hHeld.2.2.2.2.2.2.2.2.2.2.2))))))))))))⟩ (fun hHeld => ?_)
   clear hK K
   refine done_ (done_of HT_.out (by kernel_rfl)) ?_
   go_upto_region 7 with (fail)
   go_cut [68] (fun v68 wc => ∃ (kq:Nat) (x68_6:Bool),v68 = .bool x68_6 ∧ Aside0 (beaconref09_SameEntries.j1 kq l0 l1 x5_1 x68_6 = some r) ∧ Aside0 (kq ≤ k1) ∧ Aside0 (wc.heap[gb296]? = some (.cells #[.int .i64 ((rd_T58 l0 x5_1).f0),.int .i64 ((rd_T58 l0 x5_1).f1),.float .f64 ((rd_T58 l0 x5_1).f2),.int .i64 ((rd_T58 l0 x5_1).f3),.float .f64 ((rd_T58 l0 x5_1).f4),.int .i64 ((rd_T58 l0 x5_1).f5)] 58 (0,0))) ∧ Aside0 (wc.heap[gb297]? = some (.cells #[.int .i64 ((rd_T58 l1 x5_1).f0),.int .i64 ((rd_T58 l1 x5_1).f1),.float .f64 ((rd_T58 l1 x5_1).f2),.int .i64 ((rd_T58 l1 x5_1).f3),.float .f64 ((rd_T58 l1 x5_1).f4),.int .i64 ((rd_T58 l1 x5_1).f5)] 58 (0,0))) ∧ Aside0 (Below w.heap.size w wc))
   case first =>
    have H:=HC7.out
    clear HC7
    by_cases c24:((rd_T58 l0 x5_1).f0) = ((rd_T58 l1 x5_1).f0)
    rotate_left
    ·rw [if_neg c24] at H
     have c24b0:(((rd_T58 l0 x5_1).f0) == ((rd_T58 l1 x5_1).f0)) = false:=beq_eq_false_iff_ne.mpr c24
     have c24b1:(((rd_T58 l0 x5_1).f0) != ((rd_T58 l1 x5_1).f0)) = true:=bne_iff_ne.mpr c24
     (first | rw [c24b0] | (simp only [i64_w,i32_w];rw [c24b0]) | skip)
     have H':=Aside0.mk H
     clear H
     have hnb46:=NB296_297.out
     have hnc46:=NB297_296.out
     have hcz47_0:w11.cell? ⟨gb296,0,none⟩ = some (.int .i64 0):=(blk_cell BK296.out 0).trans rfl
     have hcz47_1:w11.cell? ⟨gb296,1,none⟩ = some (.int .i64 0):=(blk_cell BK296.out 1).trans rfl
     have hcz47_2:w11.cell? ⟨gb296,2,none⟩ = some (.float .f64 0):=(blk_cell BK296.out 2).trans rfl
     have hcz47_3:w11.cell? ⟨gb296,3,none⟩ = some (.int .i64 0):=(blk_cell BK296.out 3).trans rfl
     have hcz47_4:w11.cell? ⟨gb296,4,none⟩ = some (.float .f64 0):=(blk_cell BK296.out 4).trans rfl
     have hcz47_5:w11.cell? ⟨gb296,5,none⟩ = some (.int .i64 0):=(blk_cell BK296.out 5).trans rfl
     have hfz47_0:=blk_frozen BK296.out 0
     have hfz47_1:=blk_frozen BK296.out 1
     have hfz47_2:=blk_frozen BK296.out 2
     have hfz47_3:=blk_frozen BK296.out 3
     have hfz47_4:=blk_frozen BK296.out 4
     have hfz47_5:=blk_frozen BK296.out 5
     have hcz48_0:w11.cell? ⟨gb297,0,none⟩ = some (.int .i64 0):=(blk_cell BK297.out 0).trans rfl
     have hcz48_1:w11.cell? ⟨gb297,1,none⟩ = some (.int .i64 0):=(blk_cell BK297.out 1).trans rfl
     have hcz48_2:w11.cell? ⟨gb297,2,none⟩ = some (.float .f64 0):=(blk_cell BK297.out 2).trans rfl
     have hcz48_3:w11.cell? ⟨gb297,3,none⟩ = some (.int .i64 0):=(blk_cell BK297.out 3).trans rfl
     have hcz48_4:w11.cell? ⟨gb297,4,none⟩ = some (.float .f64 0):=(blk_cell BK297.out 4).trans rfl
     have hcz48_5:w11.cell? ⟨gb297,5,none⟩ = some (.int .i64 0):=(blk_cell BK297.out 5).trans rfl
     have hfz48_0:=blk_frozen BK297.out 0
     have hfz48_1:=blk_frozen BK297.out 1
     have hfz48_2:=blk_frozen BK297.out 2
     have hfz48_3:=blk_frozen BK297.out 3
     have hfz48_4:=blk_frozen BK297.out 4
     have hfz48_5:=blk_frozen BK297.out 5
     go_wp2
     go_meet
     case rel => exact ⟨_,(true),(by first | rfl | (simp;done) | (simp [*];done)),H',⟨by have:=HK1.out;first | omega | exact Nat.le_refl _⟩,⟨by (with_reducible repeat (first | refine blk_drewN ?_ _ | refine blk_drew ?_ | refine blk_alloc ?_ _));refine blk_far ?_ NB296_297.out _;(with_reducible repeat (first | refine blk_drewN ?_ _ | refine blk_drew ?_ | refine blk_alloc ?_ _));refine blk_far ?_ NB296_297.out _;(with_reducible repeat (first | refine blk_drewN ?_ _ | refine blk_drew ?_ | refine blk_alloc ?_ _));refine blk_far ?_ NB296_297.out _;(with_reducible repeat (first | refine blk_drewN ?_ _ | refine blk_drew ?_ | refine blk_alloc ?_ _));refine blk_far ?_ NB296_297.out _;(with_reducible repeat (first | refine blk_drewN ?_ _ | refine blk_drew ?_ | refine blk_alloc ?_ _));refine blk_far ?_ NB296_297.out _;(with_reducible repeat (first | refine blk_drewN ?_ _ | refine blk_drew ?_ | refine blk_alloc ?_ _));refine blk_far ?_ NB296_297.out _;(with_reducible repeat (first | refine blk_drewN ?_ _ | refine blk_drew ?_ | refine blk_alloc ?_ _));refine blk_put (cs:=#[.int .i64 ((rd_T58 l0 x5_1).f0),.int .i64 ((rd_T58 l0 x5_1).f1),.float .f64 ((rd_T58 l0 x5_1).f2),.int .i64 ((rd_T58 l0 x5_1).f3),.float .f64 ((rd_T58 l0 x5_1).f4),.int .i64 0]) ?_ 5 _ rfl;(with_reducible repeat (first | refine blk_drewN ?_ _ | refine blk_drew ?_ | refine blk_alloc ?_ _));refine blk_put (cs:=#[.int .i64 ((rd_T58 l0 x5_1).f0),.int .i64 ((rd_T58 l0 x5_1).f1),.float .f64 ((rd_T58 l0 x5_1).f2),.int .i64 ((rd_T58 l0 x5_1).f3),.float .f64 0,.int .i64 0]) ?_ 4 _ rfl;(with_reducible repeat (first | refine blk_drewN ?_ _ | refine blk_drew ?_ | refine blk_alloc ?_ _));refine blk_put (cs:=#[.int .i64 ((rd_T58 l0 x5_1).f0),.int .i64 ((rd_T58 l0 x5_1).f1),.float .f64 ((rd_T58 l0 x5_1).f2),.int .i64 0,.float .f64 0,.int .i64 0]) ?_ 3 _ rfl;(with_reducible repeat (first | refine blk_drewN ?_ _ | refine blk_drew ?_ | refine blk_alloc ?_ _));refine blk_put (cs:=#[.int .i64 ((rd_T58 l0 x5_1).f0),.int .i64 ((rd_T58 l0 x5_1).f1),.float .f64 0,.int .i64 0,.float .f64 0,.int .i64 0]) ?_ 2 _ rfl;(with_reducible repeat (first | refine blk_drewN ?_ _ | refine blk_drew ?_ | refine blk_alloc ?_ _));refine blk_put (cs:=#[.int .i64 ((rd_T58 l0 x5_1).f0),.int .i64 0,.float .f64 0,.int .i64 0,.float .f64 0,.int .i64 0]) ?_ 1 _ rfl;(with_reducible repeat (first | refine blk_drewN ?_ _ | refine blk_drew ?_ | refine blk_alloc ?_ _));refine blk_put (cs:=#[.int .i64 0,.int .i64 0,.float .f64 0,.int .i64 0,.float .f64 0,.int .i64 0]) ?_ 0 _ rfl;(with_reducible repeat (first | refine blk_drewN ?_ _ | refine blk_drew ?_ | refine blk_alloc ?_ _));exact BK296.out⟩,⟨by (with_reducible repeat (first | refine blk_drewN ?_ _ | refine blk_drew ?_ | refine blk_alloc ?_ _));refine blk_put (cs:=#[.int .i64 ((rd_T58 l1 x5_1).f0),.int .i64 ((rd_T58 l1 x5_1).f1),.float .f64 ((rd_T58 l1 x5_1).f2),.int .i64 ((rd_T58 l1 x5_1).f3),.float .f64 ((rd_T58 l1 x5_1).f4),.int .i64 0]) ?_ 5 _ rfl;(with_reducible repeat (first | refine blk_drewN ?_ _ | refine blk_drew ?_ | refine blk_alloc ?_ _));refine blk_put (cs:=#[.int .i64 ((rd_T58 l1 x5_1).f0),.int .i64 ((rd_T58 l1 x5_1).f1),.float .f64 ((rd_T58 l1 x5_1).f2),.int .i64 ((rd_T58 l1 x5_1).f3),.float .f64 0,.int .i64 0]) ?_ 4 _ rfl;(with_reducible repeat (first | refine blk_drewN ?_ _ | refine blk_drew ?_ | refine blk_alloc ?_ _));refine blk_put (cs:=#[.int .i64 ((rd_T58 l1 x5_1).f0),.int .i64 ((rd_T58 l1 x5_1).f1),.float .f64 ((rd_T58 l1 x5_1).f2),.int .i64 0,.float .f64 0,.int .i64 0]) ?_ 3 _ rfl;(with_reducible repeat (first | refine blk_drewN ?_ _ | refine blk_drew ?_ | refine blk_alloc ?_ _));refine blk_put (cs:=#[.int .i64 ((rd_T58 l1 x5_1).f0),.int .i64 ((rd_T58 l1 x5_1).f1),.float .f64 0,.int .i64 0,.float .f64 0,.int .i64 0]) ?_ 2 _ rfl;(with_reducible repeat (first | refine blk_drewN ?_ _ | refine blk_drew ?_ | refine blk_alloc ?_ _));refine blk_put (cs:=#[.int .i64 ((rd_T58 l1 x5_1).f0),.int .i64 0,.float .f64 0,.int .i64 0,.float .f64 0,.int .i64 0]) ?_ 1 _ rfl;(with_reducible repeat (first | refine blk_drewN ?_ _ | refine blk_drew ?_ | refine blk_alloc ?_ _));refine blk_put (cs:=#[.int .i64 0,.int .i64 0,.float .f64 0,.int .i64 0,.float .f64 0,.int .i64 0]) ?_ 0 _ rfl;(with_reducible repeat (first | refine blk_drewN ?_ _ | refine blk_drew ?_ | refine blk_alloc ?_ _));refine blk_far ?_ NB297_296.out _;(with_reducible repeat (first | refine blk_drewN ?_ _ | refine blk_drew ?_ | refine blk_alloc ?_ _));refine blk_far ?_ NB297_296.out _;(with_reducible repeat (first | refine blk_drewN ?_ _ | refine blk_drew ?_ | refine blk_alloc ?_ _));refine blk_far ?_ NB297_296.out _;(with_reducible repeat (first | refine blk_drewN ?_ _ | refine blk_drew ?_ | refine blk_alloc ?_ _));refine blk_far ?_ NB297_296.out _;(with_reducible repeat (first | refine blk_drewN ?_ _ | refine blk_drew ?_ | refine blk_alloc ?_ _));refine blk_far ?_ NB297_296.out _;(with_reducible repeat (first | refine blk_drewN ?_ _ | refine blk_drew ?_ | refine blk_alloc ?_ _));refine blk_far ?_ NB297_296.out _;(with_reducible repeat (first | refine blk_drewN ?_ _ | refine blk_drew ?_ | refine blk_alloc ?_ _));exact BK297.out⟩,⟨by repeat (first | (with_reducible first | exact HB.out | apply below_alloc | apply pw_below_drewN | apply below_drew1 | refine below_set ?_ GE296.out | refine below_set ?_ GE297.out) | exact HB.out)⟩⟩
    rw [if_pos c24] at H
    have c24b0:(((rd_T58 l0 x5_1).f0) == ((rd_T58 l1 x5_1).f0)) = true:=beq_iff_eq.mpr c24
    have c24b1:(((rd_T58 l0 x5_1).f0) != ((rd_T58 l1 x5_1).f0)) = false:=bne_eq_false_iff_eq.mpr c24
    clear c24
    (first | rw [c24b0] | (simp only [i64_w,i32_w];rw [c24b0]) | skip)
    by_cases c25:((rd_T58 l0 x5_1).f1) = ((rd_T58 l1 x5_1).f1)
    rotate_left
    ·rw [if_neg c25] at H
     have c25b0:(((rd_T58 l0 x5_1).f1) == ((rd_T58 l1 x5_1).f1)) = false:=beq_eq_false_iff_ne.mpr c25
     have c25b1:(((rd_T58 l0 x5_1).f1) != ((rd_T58 l1 x5_1).f1)) = true:=bne_iff_ne.mpr c25
     have H':=Aside0.mk H
     clear H
     have hnb43:=NB296_297.out
     have hnc43:=NB297_296.out
     have hcz44_0:w11.cell? ⟨gb296,0,none⟩ = some (.int .i64 0):=(blk_cell BK296.out 0).trans rfl
     have hcz44_1:w11.cell? ⟨gb296,1,none⟩ = some (.int .i64 0):=(blk_cell BK296.out 1).trans rfl
     have hcz44_2:w11.cell? ⟨gb296,2,none⟩ = some (.float .f64 0):=(blk_cell BK296.out 2).trans rfl
     have hcz44_3:w11.cell? ⟨gb296,3,none⟩ = some (.int .i64 0):=(blk_cell BK296.out 3).trans rfl
     have hcz44_4:w11.cell? ⟨gb296,4,none⟩ = some (.float .f64 0):=(blk_cell BK296.out 4).trans rfl
     have hcz44_5:w11.cell? ⟨gb296,5,none⟩ = some (.int .i64 0):=(blk_cell BK296.out 5).trans rfl
     have hfz44_0:=blk_frozen BK296.out 0
     have hfz44_1:=blk_frozen BK296.out 1
     have hfz44_2:=blk_frozen BK296.out 2
     have hfz44_3:=blk_frozen BK296.out 3
     have hfz44_4:=blk_frozen BK296.out 4
     have hfz44_5:=blk_frozen BK296.out 5
     have hcz45_0:w11.cell? ⟨gb297,0,none⟩ = some (.int .i64 0):=(blk_cell BK297.out 0).trans rfl
     have hcz45_1:w11.cell? ⟨gb297,1,none⟩ = some (.int .i64 0):=(blk_cell BK297.out 1).trans rfl
     have hcz45_2:w11.cell? ⟨gb297,2,none⟩ = some (.float .f64 0):=(blk_cell BK297.out 2).trans rfl
     have hcz45_3:w11.cell? ⟨gb297,3,none⟩ = some (.int .i64 0):=(blk_cell BK297.out 3).trans rfl
     have hcz45_4:w11.cell? ⟨gb297,4,none⟩ = some (.float .f64 0):=(blk_cell BK297.out 4).trans rfl
     have hcz45_5:w11.cell? ⟨gb297,5,none⟩ = some (.int .i64 0):=(blk_cell BK297.out 5).trans rfl
     have hfz45_0:=blk_frozen BK297.out 0
     have hfz45_1:=blk_frozen BK297.out 1
     have hfz45_2:=blk_frozen BK297.out 2
     have hfz45_3:=blk_frozen BK297.out 3
     have hfz45_4:=blk_frozen BK297.out 4
     have hfz45_5:=blk_frozen BK297.out 5
     go_wp2
     go_meet
     case rel => exact ⟨_,(true),(by first | rfl | (simp;done) | (simp [*];done)),H',⟨by have:=HK1.out;first | omega | exact Nat.le_refl _⟩,⟨by (with_reducible repeat (first | refine blk_drewN ?_ _ | refine blk_drew ?_ | refine blk_alloc ?_ _));refine blk_far ?_ NB296_297.out _;(with_reducible repeat (first | refine blk_drewN ?_ _ | refine blk_drew ?_ | refine blk_alloc ?_ _));refine blk_far ?_ NB296_297.out _;(with_reducible repeat (first | refine blk_drewN ?_ _ | refine blk_drew ?_ | refine blk_alloc ?_ _));refine blk_far ?_ NB296_297.out _;(with_reducible repeat (first | refine blk_drewN ?_ _ | refine blk_drew ?_ | refine blk_alloc ?_ _));refine blk_far ?_ NB296_297.out _;(with_reducible repeat (first | refine blk_drewN ?_ _ | refine blk_drew ?_ | refine blk_alloc ?_ _));refine blk_far ?_ NB296_297.out _;(with_reducible repeat (first | refine blk_drewN ?_ _ | refine blk_drew ?_ | refine blk_alloc ?_ _));refine blk_far ?_ NB296_297.out _;(with_reducible repeat (first | refine blk_drewN ?_ _ | refine blk_drew ?_ | refine blk_alloc ?_ _));refine blk_put (cs:=#[.int .i64 ((rd_T58 l0 x5_1).f0),.int .i64 ((rd_T58 l0 x5_1).f1),.float .f64 ((rd_T58 l0 x5_1).f2),.int .i64 ((rd_T58 l0 x5_1).f3),.float .f64 ((rd_T58 l0 x5_1).f4),.int .i64 0]) ?_ 5 _ rfl;(with_reducible repeat (first | refine blk_drewN ?_ _ | refine blk_drew ?_ | refine blk_alloc ?_ _));refine blk_put (cs:=#[.int .i64 ((rd_T58 l0 x5_1).f0),.int .i64 ((rd_T58 l0 x5_1).f1),.float .f64 ((rd_T58 l0 x5_1).f2),.int .i64 ((rd_T58 l0 x5_1).f3),.float .f64 0,.int .i64 0]) ?_ 4 _ rfl;(with_reducible repeat (first | refine blk_drewN ?_ _ | refine blk_drew ?_ | refine blk_alloc ?_ _));refine blk_put (cs:=#[.int .i64 ((rd_T58 l0 x5_1).f0),.int .i64 ((rd_T58 l0 x5_1).f1),.float .f64 ((rd_T58 l0 x5_1).f2),.int .i64 0,.float .f64 0,.int .i64 0]) ?_ 3 _ rfl;(with_reducible repeat (first | refine blk_drewN ?_ _ | refine blk_drew ?_ | refine blk_alloc ?_ _));refine blk_put (cs:=#[.int .i64 ((rd_T58 l0 x5_1).f0),.int .i64 ((rd_T58 l0 x5_1).f1),.float .f64 0,.int .i64 0,.float .f64 0,.int .i64 0]) ?_ 2 _ rfl;(with_reducible repeat (first | refine blk_drewN ?_ _ | refine blk_drew ?_ | refine blk_alloc ?_ _));refine blk_put (cs:=#[.int .i64 ((rd_T58 l0 x5_1).f0),.int .i64 0,.float .f64 0,.int .i64 0,.float .f64 0,.int .i64 0]) ?_ 1 _ rfl;(with_reducible repeat (first | refine blk_drewN ?_ _ | refine blk_drew ?_ | refine blk_alloc ?_ _));refine blk_put (cs:=#[.int .i64 0,.int .i64 0,.float .f64 0,.int .i64 0,.float .f64 0,.int .i64 0]) ?_ 0 _ rfl;(with_reducible repeat (first | refine blk_drewN ?_ _ | refine blk_drew ?_ | refine blk_alloc ?_ _));exact BK296.out⟩,⟨by (with_reducible repeat (first | refine blk_drewN ?_ _ | refine blk_drew ?_ | refine blk_alloc ?_ _));refine blk_put (cs:=#[.int .i64 ((rd_T58 l1 x5_1).f0),.int .i64 ((rd_T58 l1 x5_1).f1),.float .f64 ((rd_T58 l1 x5_1).f2),.int .i64 ((rd_T58 l1 x5_1).f3),.float .f64 ((rd_T58 l1 x5_1).f4),.int .i64 0]) ?_ 5 _ rfl;(with_reducible repeat (first | refine blk_drewN ?_ _ | refine blk_drew ?_ | refine blk_alloc ?_ _));refine blk_put (cs:=#[.int .i64 ((rd_T58 l1 x5_1).f0),.int .i64 ((rd_T58 l1 x5_1).f1),.float .f64 ((rd_T58 l1 x5_1).f2),.int .i64 ((rd_T58 l1 x5_1).f3),.float .f64 0,.int .i64 0]) ?_ 4 _ rfl;(with_reducible repeat (first | refine blk_drewN ?_ _ | refine blk_drew ?_ | refine blk_alloc ?_ _));refine blk_put (cs:=#[.int .i64 ((rd_T58 l1 x5_1).f0),.int .i64 ((rd_T58 l1 x5_1).f1),.float .f64 ((rd_T58 l1 x5_1).f2),.int .i64 0,.float .f64 0,.int .i64 0]) ?_ 3 _ rfl;(with_reducible repeat (first | refine blk_drewN ?_ _ | refine blk_drew ?_ | refine blk_alloc ?_ _));refine blk_put (cs:=#[.int .i64 ((rd_T58 l1 x5_1).f0),.int .i64 ((rd_T58 l1 x5_1).f1),.float .f64 0,.int .i64 0,.float .f64 0,.int .i64 0]) ?_ 2 _ rfl;(with_reducible repeat (first | refine blk_drewN ?_ _ | refine blk_drew ?_ | refine blk_alloc ?_ _));refine blk_put (cs:=#[.int .i64 ((rd_T58 l1 x5_1).f0),.int .i64 0,.float .f64 0,.int .i64 0,.float .f64 0,.int .i64 0]) ?_ 1 _ rfl;(with_reducible repeat (first | refine blk_drewN ?_ _ | refine blk_drew ?_ | refine blk_alloc ?_ _));refine blk_put (cs:=#[.int .i64 0,.int .i64 0,.float .f64 0,.int .i64 0,.float .f64 0,.int .i64 0]) ?_ 0 _ rfl;(with_reducible repeat (first | refine blk_drewN ?_ _ | refine blk_drew ?_ | refine blk_alloc ?_ _));refine blk_far ?_ NB297_296.out _;(with_reducible repeat (first | refine blk_drewN ?_ _ | refine blk_drew ?_ | refine blk_alloc ?_ _));refine blk_far ?_ NB297_296.out _;(with_reducible repeat (first | refine blk_drewN ?_ _ | refine blk_drew ?_ | refine blk_alloc ?_ _));refine blk_far ?_ NB297_296.out _;(with_reducible repeat (first | refine blk_drewN ?_ _ | refine blk_drew ?_ | refine blk_alloc ?_ _));refine blk_far ?_ NB297_296.out _;(with_reducible repeat (first | refine blk_drewN ?_ _ | refine blk_drew ?_ | refine blk_alloc ?_ _));refine blk_far ?_ NB297_296.out _;(with_reducible repeat (first | refine blk_drewN ?_ _ | refine blk_drew ?_ | refine blk_alloc ?_ _));refine blk_far ?_ NB297_296.out _;(with_reducible repeat (first | refine blk_drewN ?_ _ | refine blk_drew ?_ | refine blk_alloc ?_ _));exact BK297.out⟩,⟨by repeat (first | (with_reducible first | exact HB.out | apply below_alloc | apply pw_below_drewN | apply below_drew1 | refine below_set ?_ GE296.out | refine below_set ?_ GE297.out) | exact HB.out)⟩⟩
    rw [if_pos c25] at H
    have c25b0:(((rd_T58 l0 x5_1).f1) == ((rd_T58 l1 x5_1).f1)) = true:=beq_iff_eq.mpr c25
    have c25b1:(((rd_T58 l0 x5_1).f1) != ((rd_T58 l1 x5_1).f1)) = false:=bne_eq_false_iff_eq.mpr c25
    clear c25
    by_cases c26:((rd_T58 l0 x5_1).f3) = ((rd_T58 l1 x5_1).f3)
    rotate_left
    ·rw [if_neg c26] at H
     have c26b0:(((rd_T58 l0 x5_1).f3) == ((rd_T58 l1 x5_1).f3)) = false:=beq_eq_false_iff_ne.mpr c26
     have c26b1:(((rd_T58 l0 x5_1).f3) != ((rd_T58 l1 x5_1).f3)) = true:=bne_iff_ne.mpr c26
     have H':=Aside0.mk H
     clear H
     have hnb40:=NB296_297.out
     have hnc40:=NB297_296.out
     have hcz41_0:w11.cell? ⟨gb296,0,none⟩ = some (.int .i64 0):=(blk_cell BK296.out 0).trans rfl
     have hcz41_1:w11.cell? ⟨gb296,1,none⟩ = some (.int .i64 0):=(blk_cell BK296.out 1).trans rfl
     have hcz41_2:w11.cell? ⟨gb296,2,none⟩ = some (.float .f64 0):=(blk_cell BK296.out 2).trans rfl
     have hcz41_3:w11.cell? ⟨gb296,3,none⟩ = some (.int .i64 0):=(blk_cell BK296.out 3).trans rfl
     have hcz41_4:w11.cell? ⟨gb296,4,none⟩ = some (.float .f64 0):=(blk_cell BK296.out 4).trans rfl
     have hcz41_5:w11.cell? ⟨gb296,5,none⟩ = some (.int .i64 0):=(blk_cell BK296.out 5).trans rfl
     have hfz41_0:=blk_frozen BK296.out 0
     have hfz41_1:=blk_frozen BK296.out 1
     have hfz41_2:=blk_frozen BK296.out 2
     have hfz41_3:=blk_frozen BK296.out 3
     have hfz41_4:=blk_frozen BK296.out 4
     have hfz41_5:=blk_frozen BK296.out 5
     have hcz42_0:w11.cell? ⟨gb297,0,none⟩ = some (.int .i64 0):=(blk_cell BK297.out 0).trans rfl
     have hcz42_1:w11.cell? ⟨gb297,1,none⟩ = some (.int .i64 0):=(blk_cell BK297.out 1).trans rfl
     have hcz42_2:w11.cell? ⟨gb297,2,none⟩ = some (.float .f64 0):=(blk_cell BK297.out 2).trans rfl
     have hcz42_3:w11.cell? ⟨gb297,3,none⟩ = some (.int .i64 0):=(blk_cell BK297.out 3).trans rfl
     have hcz42_4:w11.cell? ⟨gb297,4,none⟩ = some (.float .f64 0):=(blk_cell BK297.out 4).trans rfl
     have hcz42_5:w11.cell? ⟨gb297,5,none⟩ = some (.int .i64 0):=(blk_cell BK297.out 5).trans rfl
     have hfz42_0:=blk_frozen BK297.out 0
     have hfz42_1:=blk_frozen BK297.out 1
     have hfz42_2:=blk_frozen BK297.out 2
     have hfz42_3:=blk_frozen BK297.out 3
     have hfz42_4:=blk_frozen BK297.out 4
     have hfz42_5:=blk_frozen BK297.out 5
     go_wp2
     go_meet
     case rel => exact ⟨_,(true),(by first | rfl | (simp;done) | (simp [*];done)),H',⟨by have:=HK1.out;first | omega | exact Nat.le_refl _⟩,⟨by (with_reducible repeat (first | refine blk_drewN ?_ _ | refine blk_drew ?_ | refine blk_alloc ?_ _));refine blk_far ?_ NB296_297.out _;(with_reducible repeat (first | refine blk_drewN ?_ _ | refine blk_drew ?_ | refine blk_alloc ?_ _));refine blk_far ?_ NB296_297.out _;(with_reducible repeat (first | refine blk_drewN ?_ _ | refine blk_drew ?_ | refine blk_alloc ?_ _));refine blk_far ?_ NB296_297.out _;(with_reducible repeat (first | refine blk_drewN ?_ _ | refine blk_drew ?_ | refine blk_alloc ?_ _));refine blk_far ?_ NB296_297.out _;(with_reducible repeat (first | refine blk_drewN ?_ _ | refine blk_drew ?_ | refine blk_alloc ?_ _));refine blk_far ?_ NB296_297.out _;(with_reducible repeat (first | refine blk_drewN ?_ _ | refine blk_drew ?_ | refine blk_alloc ?_ _));refine blk_far ?_ NB296_297.out _;(with_reducible repeat (first | refine blk_drewN ?_ _ | refine blk_drew ?_ | refine blk_alloc ?_ _));refine blk_put (cs:=#[.int .i64 ((rd_T58 l0 x5_1).f0),.int .i64 ((rd_T58 l0 x5_1).f1),.float .f64 ((rd_T58 l0 x5_1).f2),.int .i64 ((rd_T58 l0 x5_1).f3),.float .f64 ((rd_T58 l0 x5_1).f4),.int .i64 0]) ?_ 5 _ rfl;(with_reducible repeat (first | refine blk_drewN ?_ _ | refine blk_drew ?_ | refine blk_alloc ?_ _));refine blk_put (cs:=#[.int .i64 ((rd_T58 l0 x5_1).f0),.int .i64 ((rd_T58 l0 x5_1).f1),.float .f64 ((rd_T58 l0 x5_1).f2),.int .i64 ((rd_T58 l0 x5_1).f3),.float .f64 0,.int .i64 0]) ?_ 4 _ rfl;(with_reducible repeat (first | refine blk_drewN ?_ _ | refine blk_drew ?_ | refine blk_alloc ?_ _));refine blk_put (cs:=#[.int .i64 ((rd_T58 l0 x5_1).f0),.int .i64 ((rd_T58 l0 x5_1).f1),.float .f64 ((rd_T58 l0 x5_1).f2),.int .i64 0,.float .f64 0,.int .i64 0]) ?_ 3 _ rfl;(with_reducible repeat (first | refine blk_drewN ?_ _ | refine blk_drew ?_ | refine blk_alloc ?_ _));refine blk_put (cs:=#[.int .i64 ((rd_T58 l0 x5_1).f0),.int .i64 ((rd_T58 l0 x5_1).f1),.float .f64 0,.int .i64 0,.float .f64 0,.int .i64 0]) ?_ 2 _ rfl;(with_reducible repeat (first | refine blk_drewN ?_ _ | refine blk_drew ?_ | refine blk_alloc ?_ _));refine blk_put (cs:=#[.int .i64 ((rd_T58 l0 x5_1).f0),.int .i64 0,.float .f64 0,.int .i64 0,.float .f64 0,.int .i64 0]) ?_ 1 _ rfl;(with_reducible repeat (first | refine blk_drewN ?_ _ | refine blk_drew ?_ | refine blk_alloc ?_ _));refine blk_put (cs:=#[.int .i64 0,.int .i64 0,.float .f64 0,.int .i64 0,.float .f64 0,.int .i64 0]) ?_ 0 _ rfl;(with_reducible repeat (first | refine blk_drewN ?_ _ | refine blk_drew ?_ | refine blk_alloc ?_ _));exact BK296.out⟩,⟨by (with_reducible repeat (first | refine blk_drewN ?_ _ | refine blk_drew ?_ | refine blk_alloc ?_ _));refine blk_put (cs:=#[.int .i64 ((rd_T58 l1 x5_1).f0),.int .i64 ((rd_T58 l1 x5_1).f1),.float .f64 ((rd_T58 l1 x5_1).f2),.int .i64 ((rd_T58 l1 x5_1).f3),.float .f64 ((rd_T58 l1 x5_1).f4),.int .i64 0]) ?_ 5 _ rfl;(with_reducible repeat (first | refine blk_drewN ?_ _ | refine blk_drew ?_ | refine blk_alloc ?_ _));refine blk_put (cs:=#[.int .i64 ((rd_T58 l1 x5_1).f0),.int .i64 ((rd_T58 l1 x5_1).f1),.float .f64 ((rd_T58 l1 x5_1).f2),.int .i64 ((rd_T58 l1 x5_1).f3),.float .f64 0,.int .i64 0]) ?_ 4 _ rfl;(with_reducible repeat (first | refine blk_drewN ?_ _ | refine blk_drew ?_ | refine blk_alloc ?_ _));refine blk_put (cs:=#[.int .i64 ((rd_T58 l1 x5_1).f0),.int .i64 ((rd_T58 l1 x5_1).f1),.float .f64 ((rd_T58 l1 x5_1).f2),.int .i64 0,.float .f64 0,.int .i64 0]) ?_ 3 _ rfl;(with_reducible repeat (first | refine blk_drewN ?_ _ | refine blk_drew ?_ | refine blk_alloc ?_ _));refine blk_put (cs:=#[.int .i64 ((rd_T58 l1 x5_1).f0),.int .i64 ((rd_T58 l1 x5_1).f1),.float .f64 0,.int .i64 0,.float .f64 0,.int .i64 0]) ?_ 2 _ rfl;(with_reducible repeat (first | refine blk_drewN ?_ _ | refine blk_drew ?_ | refine blk_alloc ?_ _));refine blk_put (cs:=#[.int .i64 ((rd_T58 l1 x5_1).f0),.int .i64 0,.float .f64 0,.int .i64 0,.float .f64 0,.int .i64 0]) ?_ 1 _ rfl;(with_reducible repeat (first | refine blk_drewN ?_ _ | refine blk_drew ?_ | refine blk_alloc ?_ _));refine blk_put (cs:=#[.int .i64 0,.int .i64 0,.float .f64 0,.int .i64 0,.float .f64 0,.int .i64 0]) ?_ 0 _ rfl;(with_reducible repeat (first | refine blk_drewN ?_ _ | refine blk_drew ?_ | refine blk_alloc ?_ _));refine blk_far ?_ NB297_296.out _;(with_reducible repeat (first | refine blk_drewN ?_ _ | refine blk_drew ?_ | refine blk_alloc ?_ _));refine blk_far ?_ NB297_296.out _;(with_reducible repeat (first | refine blk_drewN ?_ _ | refine blk_drew ?_ | refine blk_alloc ?_ _));refine blk_far ?_ NB297_296.out _;(with_reducible repeat (first | refine blk_drewN ?_ _ | refine blk_drew ?_ | refine blk_alloc ?_ _));refine blk_far ?_ NB297_296.out _;(with_reducible repeat (first | refine blk_drewN ?_ _ | refine blk_drew ?_ | refine blk_alloc ?_ _));refine blk_far ?_ NB297_296.out _;(with_reducible repeat (first | refine blk_drewN ?_ _ | refine blk_drew ?_ | refine blk_alloc ?_ _));refine blk_far ?_ NB297_296.out _;(with_reducible repeat (first | refine blk_drewN ?_ _ | refine blk_drew ?_ | refine blk_alloc ?_ _));exact BK297.out⟩,⟨by repeat (first | (with_reducible first | exact HB.out | apply below_alloc | apply pw_below_drewN | apply below_drew1 | refine below_set ?_ GE296.out | refine below_set ?_ GE297.out) | exact HB.out)⟩⟩
    rw [if_pos c26] at H
    have c26b0:(((rd_T58 l0 x5_1).f3) == ((rd_T58 l1 x5_1).f3)) = true:=beq_iff_eq.mpr c26
    have c26b1:(((rd_T58 l0 x5_1).f3) != ((rd_T58 l1 x5_1).f3)) = false:=bne_eq_false_iff_eq.mpr c26
    clear c26
    by_cases c27:((rd_T58 l0 x5_1).f5) = ((rd_T58 l1 x5_1).f5)
    rotate_left
    ·rw [if_neg c27] at H
     have c27b0:(((rd_T58 l0 x5_1).f5) == ((rd_T58 l1 x5_1).f5)) = false:=beq_eq_false_iff_ne.mpr c27
     have c27b1:(((rd_T58 l0 x5_1).f5) != ((rd_T58 l1 x5_1).f5)) = true:=bne_iff_ne.mpr c27
     have H':=Aside0.mk H
     clear H
     have hnb37:=NB296_297.out
     have hnc37:=NB297_296.out
     have hcz38_0:w11.cell? ⟨gb296,0,none⟩ = some (.int .i64 0):=(blk_cell BK296.out 0).trans rfl
     have hcz38_1:w11.cell? ⟨gb296,1,none⟩ = some (.int .i64 0):=(blk_cell BK296.out 1).trans rfl
     have hcz38_2:w11.cell? ⟨gb296,2,none⟩ = some (.float .f64 0):=(blk_cell BK296.out 2).trans rfl
     have hcz38_3:w11.cell? ⟨gb296,3,none⟩ = some (.int .i64 0):=(blk_cell BK296.out 3).trans rfl
     have hcz38_4:w11.cell? ⟨gb296,4,none⟩ = some (.float .f64 0):=(blk_cell BK296.out 4).trans rfl
     have hcz38_5:w11.cell? ⟨gb296,5,none⟩ = some (.int .i64 0):=(blk_cell BK296.out 5).trans rfl
     have hfz38_0:=blk_frozen BK296.out 0
     have hfz38_1:=blk_frozen BK296.out 1
     have hfz38_2:=blk_frozen BK296.out 2
     have hfz38_3:=blk_frozen BK296.out 3
     have hfz38_4:=blk_frozen BK296.out 4
     have hfz38_5:=blk_frozen BK296.out 5
     have hcz39_0:w11.cell? ⟨gb297,0,none⟩ = some (.int .i64 0):=(blk_cell BK297.out 0).trans rfl
     have hcz39_1:w11.cell? ⟨gb297,1,none⟩ = some (.int .i64 0):=(blk_cell BK297.out 1).trans rfl
     have hcz39_2:w11.cell? ⟨gb297,2,none⟩ = some (.float .f64 0):=(blk_cell BK297.out 2).trans rfl
     have hcz39_3:w11.cell? ⟨gb297,3,none⟩ = some (.int .i64 0):=(blk_cell BK297.out 3).trans rfl
     have hcz39_4:w11.cell? ⟨gb297,4,none⟩ = some (.float .f64 0):=(blk_cell BK297.out 4).trans rfl
     have hcz39_5:w11.cell? ⟨gb297,5,none⟩ = some (.int .i64 0):=(blk_cell BK297.out 5).trans rfl
     have hfz39_0:=blk_frozen BK297.out 0
     have hfz39_1:=blk_frozen BK297.out 1
     have hfz39_2:=blk_frozen BK297.out 2
     have hfz39_3:=blk_frozen BK297.out 3
     have hfz39_4:=blk_frozen BK297.out 4
     have hfz39_5:=blk_frozen BK297.out 5
     go_wp2
     go_meet
     case rel => exact ⟨_,(true),(by first | rfl | (simp;done) | (simp [*];done)),H',⟨by have:=HK1.out;first | omega | exact Nat.le_refl _⟩,⟨by (with_reducible repeat (first | refine blk_drewN ?_ _ | refine blk_drew ?_ | refine blk_alloc ?_ _));refine blk_far ?_ NB296_297.out _;(with_reducible repeat (first | refine blk_drewN ?_ _ | refine blk_drew ?_ | refine blk_alloc ?_ _));refine blk_far ?_ NB296_297.out _;(with_reducible repeat (first | refine blk_drewN ?_ _ | refine blk_drew ?_ | refine blk_alloc ?_ _));refine blk_far ?_ NB296_297.out _;(with_reducible repeat (first | refine blk_drewN ?_ _ | refine blk_drew ?_ | refine blk_alloc ?_ _));refine blk_far ?_ NB296_297.out _;(with_reducible repeat (first | refine blk_drewN ?_ _ | refine blk_drew ?_ | refine blk_alloc ?_ _));refine blk_far ?_ NB296_297.out _;(with_reducible repeat (first | refine blk_drewN ?_ _ | refine blk_drew ?_ | refine blk_alloc ?_ _));refine blk_far ?_ NB296_297.out _;(with_reducible repeat (first | refine blk_drewN ?_ _ | refine blk_drew ?_ | refine blk_alloc ?_ _));refine blk_put (cs:=#[.int .i64 ((rd_T58 l0 x5_1).f0),.int .i64 ((rd_T58 l0 x5_1).f1),.float .f64 ((rd_T58 l0 x5_1).f2),.int .i64 ((rd_T58 l0 x5_1).f3),.float .f64 ((rd_T58 l0 x5_1).f4),.int .i64 0]) ?_ 5 _ rfl;(with_reducible repeat (first | refine blk_drewN ?_ _ | refine blk_drew ?_ | refine blk_alloc ?_ _));refine blk_put (cs:=#[.int .i64 ((rd_T58 l0 x5_1).f0),.int .i64 ((rd_T58 l0 x5_1).f1),.float .f64 ((rd_T58 l0 x5_1).f2),.int .i64 ((rd_T58 l0 x5_1).f3),.float .f64 0,.int .i64 0]) ?_ 4 _ rfl;(with_reducible repeat (first | refine blk_drewN ?_ _ | refine blk_drew ?_ | refine blk_alloc ?_ _));refine blk_put (cs:=#[.int .i64 ((rd_T58 l0 x5_1).f0),.int .i64 ((rd_T58 l0 x5_1).f1),.float .f64 ((rd_T58 l0 x5_1).f2),.int .i64 0,.float .f64 0,.int .i64 0]) ?_ 3 _ rfl;(with_reducible repeat (first | refine blk_drewN ?_ _ | refine blk_drew ?_ | refine blk_alloc ?_ _));refine blk_put (cs:=#[.int .i64 ((rd_T58 l0 x5_1).f0),.int .i64 ((rd_T58 l0 x5_1).f1),.float .f64 0,.int .i64 0,.float .f64 0,.int .i64 0]) ?_ 2 _ rfl;(with_reducible repeat (first | refine blk_drewN ?_ _ | refine blk_drew ?_ | refine blk_alloc ?_ _));refine blk_put (cs:=#[.int .i64 ((rd_T58 l0 x5_1).f0),.int .i64 0,.float .f64 0,.int .i64 0,.float .f64 0,.int .i64 0]) ?_ 1 _ rfl;(with_reducible repeat (first | refine blk_drewN ?_ _ | refine blk_drew ?_ | refine blk_alloc ?_ _));refine blk_put (cs:=#[.int .i64 0,.int .i64 0,.float .f64 0,.int .i64 0,.float .f64 0,.int .i64 0]) ?_ 0 _ rfl;(with_reducible repeat (first | refine blk_drewN ?_ _ | refine blk_drew ?_ | refine blk_alloc ?_ _));exact BK296.out⟩,⟨by (with_reducible repeat (first | refine blk_drewN ?_ _ | refine blk_drew ?_ | refine blk_alloc ?_ _));refine blk_put (cs:=#[.int .i64 ((rd_T58 l1 x5_1).f0),.int .i64 ((rd_T58 l1 x5_1).f1),.float .f64 ((rd_T58 l1 x5_1).f2),.int .i64 ((rd_T58 l1 x5_1).f3),.float .f64 ((rd_T58 l1 x5_1).f4),.int .i64 0]) ?_ 5 _ rfl;(with_reducible repeat (first | refine blk_drewN ?_ _ | refine blk_drew ?_ | refine blk_alloc ?_ _));refine blk_put (cs:=#[.int .i64 ((rd_T58 l1 x5_1).f0),.int .i64 ((rd_T58 l1 x5_1).f1),.float .f64 ((rd_T58 l1 x5_1).f2),.int .i64 ((rd_T58 l1 x5_1).f3),.float .f64 0,.int .i64 0]) ?_ 4 _ rfl;(with_reducible repeat (first | refine blk_drewN ?_ _ | refine blk_drew ?_ | refine blk_alloc ?_ _));refine blk_put (cs:=#[.int .i64 ((rd_T58 l1 x5_1).f0),.int .i64 ((rd_T58 l1 x5_1).f1),.float .f64 ((rd_T58 l1 x5_1).f2),.int .i64 0,.float .f64 0,.int .i64 0]) ?_ 3 _ rfl;(with_reducible repeat (first | refine blk_drewN ?_ _ | refine blk_drew ?_ | refine blk_alloc ?_ _));refine blk_put (cs:=#[.int .i64 ((rd_T58 l1 x5_1).f0),.int .i64 ((rd_T58 l1 x5_1).f1),.float .f64 0,.int .i64 0,.float .f64 0,.int .i64 0]) ?_ 2 _ rfl;(with_reducible repeat (first | refine blk_drewN ?_ _ | refine blk_drew ?_ | refine blk_alloc ?_ _));refine blk_put (cs:=#[.int .i64 ((rd_T58 l1 x5_1).f0),.int .i64 0,.float .f64 0,.int .i64 0,.float .f64 0,.int .i64 0]) ?_ 1 _ rfl;(with_reducible repeat (first | refine blk_drewN ?_ _ | refine blk_drew ?_ | refine blk_alloc ?_ _));refine blk_put (cs:=#[.int .i64 0,.int .i64 0,.float .f64 0,.int .i64 0,.float .f64 0,.int .i64 0]) ?_ 0 _ rfl;(with_reducible repeat (first | refine blk_drewN ?_ _ | refine blk_drew ?_ | refine blk_alloc ?_ _));refine blk_far ?_ NB297_296.out _;(with_reducible repeat (first | refine blk_drewN ?_ _ | refine blk_drew ?_ | refine blk_alloc ?_ _));refine blk_far ?_ NB297_296.out _;(with_reducible repeat (first | refine blk_drewN ?_ _ | refine blk_drew ?_ | refine blk_alloc ?_ _));refine blk_far ?_ NB297_296.out _;(with_reducible repeat (first | refine blk_drewN ?_ _ | refine blk_drew ?_ | refine blk_alloc ?_ _));refine blk_far ?_ NB297_296.out _;(with_reducible repeat (first | refine blk_drewN ?_ _ | refine blk_drew ?_ | refine blk_alloc ?_ _));refine blk_far ?_ NB297_296.out _;(with_reducible repeat (first | refine blk_drewN ?_ _ | refine blk_drew ?_ | refine blk_alloc ?_ _));refine blk_far ?_ NB297_296.out _;(with_reducible repeat (first | refine blk_drewN ?_ _ | refine blk_drew ?_ | refine blk_alloc ?_ _));exact BK297.out⟩,⟨by repeat (first | (with_reducible first | exact HB.out | apply below_alloc | apply pw_below_drewN | apply below_drew1 | refine below_set ?_ GE296.out | refine below_set ?_ GE297.out) | exact HB.out)⟩⟩
    rw [if_pos c27] at H
    have c27b0:(((rd_T58 l0 x5_1).f5) == ((rd_T58 l1 x5_1).f5)) = true:=beq_iff_eq.mpr c27
    have c27b1:(((rd_T58 l0 x5_1).f5) != ((rd_T58 l1 x5_1).f5)) = false:=bne_eq_false_iff_eq.mpr c27
    clear c27
    replace H:=Option.bind_eq_some_iff.mp H
    obtain ⟨t298,A280,H⟩:=H
    replace H:(if t298 = true then ((beaconref01_Same.f ((rd_T58 l0 x5_1).f4) ((rd_T58 l1 x5_1).f4)).bind fun t299 => (beaconref09_SameEntries.j1 k1 l0 l1 x5_1 (!t299))) else (beaconref09_SameEntries.j1 k1 l0 l1 x5_1 true)) = some r:=H
    have A28:=Aside0.mk A280
    clear A280
    by_cases c29:t298 = true
    ·subst c29
     have H1:((beaconref01_Same.f ((rd_T58 l0 x5_1).f4) ((rd_T58 l1 x5_1).f4)).bind fun t299 => (beaconref09_SameEntries.j1 k1 l0 l1 x5_1 (!t299))) = some r:=by rw [if_pos rfl] at H;exact H
     clear H
     have H:=H1
     clear H1
     replace H:=Option.bind_eq_some_iff.mp H
     obtain ⟨t299,A300,H⟩:=H
     replace H:(beaconref09_SameEntries.j1 k1 l0 l1 x5_1 (!t299)) = some r:=H
     have A30:=Aside0.mk A300
     clear A300
     have H':=Aside0.mk H
     clear H
     have hnb31:=NB296_297.out
     have hnc31:=NB297_296.out
     have hcz32_0:w11.cell? ⟨gb296,0,none⟩ = some (.int .i64 0):=(blk_cell BK296.out 0).trans rfl
     have hcz32_1:w11.cell? ⟨gb296,1,none⟩ = some (.int .i64 0):=(blk_cell BK296.out 1).trans rfl
     have hcz32_2:w11.cell? ⟨gb296,2,none⟩ = some (.float .f64 0):=(blk_cell BK296.out 2).trans rfl
     have hcz32_3:w11.cell? ⟨gb296,3,none⟩ = some (.int .i64 0):=(blk_cell BK296.out 3).trans rfl
     have hcz32_4:w11.cell? ⟨gb296,4,none⟩ = some (.float .f64 0):=(blk_cell BK296.out 4).trans rfl
     have hcz32_5:w11.cell? ⟨gb296,5,none⟩ = some (.int .i64 0):=(blk_cell BK296.out 5).trans rfl
     have hfz32_0:=blk_frozen BK296.out 0
     have hfz32_1:=blk_frozen BK296.out 1
     have hfz32_2:=blk_frozen BK296.out 2
     have hfz32_3:=blk_frozen BK296.out 3
     have hfz32_4:=blk_frozen BK296.out 4
     have hfz32_5:=blk_frozen BK296.out 5
     have hcz33_0:w11.cell? ⟨gb297,0,none⟩ = some (.int .i64 0):=(blk_cell BK297.out 0).trans rfl
     have hcz33_1:w11.cell? ⟨gb297,1,none⟩ = some (.int .i64 0):=(blk_cell BK297.out 1).trans rfl
     have hcz33_2:w11.cell? ⟨gb297,2,none⟩ = some (.float .f64 0):=(blk_cell BK297.out 2).trans rfl
     have hcz33_3:w11.cell? ⟨gb297,3,none⟩ = some (.int .i64 0):=(blk_cell BK297.out 3).trans rfl
     have hcz33_4:w11.cell? ⟨gb297,4,none⟩ = some (.float .f64 0):=(blk_cell BK297.out 4).trans rfl
     have hcz33_5:w11.cell? ⟨gb297,5,none⟩ = some (.int .i64 0):=(blk_cell BK297.out 5).trans rfl
     have hfz33_0:=blk_frozen BK297.out 0
     have hfz33_1:=blk_frozen BK297.out 1
     have hfz33_2:=blk_frozen BK297.out 2
     have hfz33_3:=blk_frozen BK297.out 3
     have hfz33_4:=blk_frozen BK297.out 4
     have hfz33_5:=blk_frozen BK297.out 5
     go_wp2_with (first | (go_at_call 48;(with_reducible refine (beaconref01_Same.calls ((rd_T58 l0 x5_1).f2) ((rd_T58 l1 x5_1).f2) true _ A28.out).mono ?_);rintro e w' ⟨rfl,⟨nd,rfl⟩⟩) | (go_at_call 48;(with_reducible refine (beaconref01_Same.calls ((rd_T58 l0 x5_1).f4) ((rd_T58 l1 x5_1).f4) t299 _ A30.out).mono ?_);rintro e w' ⟨rfl,⟨nd,rfl⟩⟩))
     go_meet
     case rel => exact ⟨_,(!t299),(by first | rfl | (simp;done) | (simp [*];done)),H',⟨by have:=HK1.out;first | omega | exact Nat.le_refl _⟩,⟨by (with_reducible repeat (first | refine blk_drewN ?_ _ | refine blk_drew ?_ | refine blk_alloc ?_ _));refine blk_far ?_ NB296_297.out _;(with_reducible repeat (first | refine blk_drewN ?_ _ | refine blk_drew ?_ | refine blk_alloc ?_ _));refine blk_far ?_ NB296_297.out _;(with_reducible repeat (first | refine blk_drewN ?_ _ | refine blk_drew ?_ | refine blk_alloc ?_ _));refine blk_far ?_ NB296_297.out _;(with_reducible repeat (first | refine blk_drewN ?_ _ | refine blk_drew ?_ | refine blk_alloc ?_ _));refine blk_far ?_ NB296_297.out _;(with_reducible repeat (first | refine blk_drewN ?_ _ | refine blk_drew ?_ | refine blk_alloc ?_ _));refine blk_far ?_ NB296_297.out _;(with_reducible repeat (first | refine blk_drewN ?_ _ | refine blk_drew ?_ | refine blk_alloc ?_ _));refine blk_far ?_ NB296_297.out _;(with_reducible repeat (first | refine blk_drewN ?_ _ | refine blk_drew ?_ | refine blk_alloc ?_ _));refine blk_put (cs:=#[.int .i64 ((rd_T58 l0 x5_1).f0),.int .i64 ((rd_T58 l0 x5_1).f1),.float .f64 ((rd_T58 l0 x5_1).f2),.int .i64 ((rd_T58 l0 x5_1).f3),.float .f64 ((rd_T58 l0 x5_1).f4),.int .i64 0]) ?_ 5 _ rfl;(with_reducible repeat (first | refine blk_drewN ?_ _ | refine blk_drew ?_ | refine blk_alloc ?_ _));refine blk_put (cs:=#[.int .i64 ((rd_T58 l0 x5_1).f0),.int .i64 ((rd_T58 l0 x5_1).f1),.float .f64 ((rd_T58 l0 x5_1).f2),.int .i64 ((rd_T58 l0 x5_1).f3),.float .f64 0,.int .i64 0]) ?_ 4 _ rfl;(with_reducible repeat (first | refine blk_drewN ?_ _ | refine blk_drew ?_ | refine blk_alloc ?_ _));refine blk_put (cs:=#[.int .i64 ((rd_T58 l0 x5_1).f0),.int .i64 ((rd_T58 l0 x5_1).f1),.float .f64 ((rd_T58 l0 x5_1).f2),.int .i64 0,.float .f64 0,.int .i64 0]) ?_ 3 _ rfl;(with_reducible repeat (first | refine blk_drewN ?_ _ | refine blk_drew ?_ | refine blk_alloc ?_ _));refine blk_put (cs:=#[.int .i64 ((rd_T58 l0 x5_1).f0),.int .i64 ((rd_T58 l0 x5_1).f1),.float .f64 0,.int .i64 0,.float .f64 0,.int .i64 0]) ?_ 2 _ rfl;(with_reducible repeat (first | refine blk_drewN ?_ _ | refine blk_drew ?_ | refine blk_alloc ?_ _));refine blk_put (cs:=#[.int .i64 ((rd_T58 l0 x5_1).f0),.int .i64 0,.float .f64 0,.int .i64 0,.float .f64 0,.int .i64 0]) ?_ 1 _ rfl;(with_reducible repeat (first | refine blk_drewN ?_ _ | refine blk_drew ?_ | refine blk_alloc ?_ _));refine blk_put (cs:=#[.int .i64 0,.int .i64 0,.float .f64 0,.int .i64 0,.float .f64 0,.int .i64 0]) ?_ 0 _ rfl;(with_reducible repeat (first | refine blk_drewN ?_ _ | refine blk_drew ?_ | refine blk_alloc ?_ _));exact BK296.out⟩,⟨by (with_reducible repeat (first | refine blk_drewN ?_ _ | refine blk_drew ?_ | refine blk_alloc ?_ _));refine blk_put (cs:=#[.int .i64 ((rd_T58 l1 x5_1).f0),.int .i64 ((rd_T58 l1 x5_1).f1),.float .f64 ((rd_T58 l1 x5_1).f2),.int .i64 ((rd_T58 l1 x5_1).f3),.float .f64 ((rd_T58 l1 x5_1).f4),.int .i64 0]) ?_ 5 _ rfl;(with_reducible repeat (first | refine blk_drewN ?_ _ | refine blk_drew ?_ | refine blk_alloc ?_ _));refine blk_put (cs:=#[.int .i64 ((rd_T58 l1 x5_1).f0),.int .i64 ((rd_T58 l1 x5_1).f1),.float .f64 ((rd_T58 l1 x5_1).f2),.int .i64 ((rd_T58 l1 x5_1).f3),.float .f64 0,.int .i64 0]) ?_ 4 _ rfl;(with_reducible repeat (first | refine blk_drewN ?_ _ | refine blk_drew ?_ | refine blk_alloc ?_ _));refine blk_put (cs:=#[.int .i64 ((rd_T58 l1 x5_1).f0),.int .i64 ((rd_T58 l1 x5_1).f1),.float .f64 ((rd_T58 l1 x5_1).f2),.int .i64 0,.float .f64 0,.int .i64 0]) ?_ 3 _ rfl;(with_reducible repeat (first | refine blk_drewN ?_ _ | refine blk_drew ?_ | refine blk_alloc ?_ _));refine blk_put (cs:=#[.int .i64 ((rd_T58 l1 x5_1).f0),.int .i64 ((rd_T58 l1 x5_1).f1),.float .f64 0,.int .i64 0,.float .f64 0,.int .i64 0]) ?_ 2 _ rfl;(with_reducible repeat (first | refine blk_drewN ?_ _ | refine blk_drew ?_ | refine blk_alloc ?_ _));refine blk_put (cs:=#[.int .i64 ((rd_T58 l1 x5_1).f0),.int .i64 0,.float .f64 0,.int .i64 0,.float .f64 0,.int .i64 0]) ?_ 1 _ rfl;(with_reducible repeat (first | refine blk_drewN ?_ _ | refine blk_drew ?_ | refine blk_alloc ?_ _));refine blk_put (cs:=#[.int .i64 0,.int .i64 0,.float .f64 0,.int .i64 0,.float .f64 0,.int .i64 0]) ?_ 0 _ rfl;(with_reducible repeat (first | refine blk_drewN ?_ _ | refine blk_drew ?_ | refine blk_alloc ?_ _));refine blk_far ?_ NB297_296.out _;(with_reducible repeat (first | refine blk_drewN ?_ _ | refine blk_drew ?_ | refine blk_alloc ?_ _));refine blk_far ?_ NB297_296.out _;(with_reducible repeat (first | refine blk_drewN ?_ _ | refine blk_drew ?_ | refine blk_alloc ?_ _));refine blk_far ?_ NB297_296.out _;(with_reducible repeat (first | refine blk_drewN ?_ _ | refine blk_drew ?_ | refine blk_alloc ?_ _));refine blk_far ?_ NB297_296.out _;(with_reducible repeat (first | refine blk_drewN ?_ _ | refine blk_drew ?_ | refine blk_alloc ?_ _));refine blk_far ?_ NB297_296.out _;(with_reducible repeat (first | refine blk_drewN ?_ _ | refine blk_drew ?_ | refine blk_alloc ?_ _));refine blk_far ?_ NB297_296.out _;(with_reducible repeat (first | refine blk_drewN ?_ _ | refine blk_drew ?_ | refine blk_alloc ?_ _));exact BK297.out⟩,⟨by repeat (first | (with_reducible first | exact HB.out | apply below_alloc | apply pw_below_drewN | apply below_drew1 | refine below_set ?_ GE296.out | refine below_set ?_ GE297.out) | exact HB.out)⟩⟩
    replace c29:=Bool.eq_false_iff.mpr c29
    subst c29
    have H1:(beaconref09_SameEntries.j1 k1 l0 l1 x5_1 true) = some r:=by rw [if_neg (show ¬ (false = true) by decide)] at H;exact H
    clear H
    have H:=H1
    clear H1
    have H':=Aside0.mk H
    clear H
    have hnb34:=NB296_297.out
    have hnc34:=NB297_296.out
    have hcz35_0:w11.cell? ⟨gb296,0,none⟩ = some (.int .i64 0):=(blk_cell BK296.out 0).trans rfl
    have hcz35_1:w11.cell? ⟨gb296,1,none⟩ = some (.int .i64 0):=(blk_cell BK296.out 1).trans rfl
    have hcz35_2:w11.cell? ⟨gb296,2,none⟩ = some (.float .f64 0):=(blk_cell BK296.out 2).trans rfl
    have hcz35_3:w11.cell? ⟨gb296,3,none⟩ = some (.int .i64 0):=(blk_cell BK296.out 3).trans rfl
    have hcz35_4:w11.cell? ⟨gb296,4,none⟩ = some (.float .f64 0):=(blk_cell BK296.out 4).trans rfl
    have hcz35_5:w11.cell? ⟨gb296,5,none⟩ = some (.int .i64 0):=(blk_cell BK296.out 5).trans rfl
    have hfz35_0:=blk_frozen BK296.out 0
    have hfz35_1:=blk_frozen BK296.out 1
    have hfz35_2:=blk_frozen BK296.out 2
    have hfz35_3:=blk_frozen BK296.out 3
    have hfz35_4:=blk_frozen BK296.out 4
    have hfz35_5:=blk_frozen BK296.out 5
    have hcz36_0:w11.cell? ⟨gb297,0,none⟩ = some (.int .i64 0):=(blk_cell BK297.out 0).trans rfl
    have hcz36_1:w11.cell? ⟨gb297,1,none⟩ = some (.int .i64 0):=(blk_cell BK297.out 1).trans rfl
    have hcz36_2:w11.cell? ⟨gb297,2,none⟩ = some (.float .f64 0):=(blk_cell BK297.out 2).trans rfl
    have hcz36_3:w11.cell? ⟨gb297,3,none⟩ = some (.int .i64 0):=(blk_cell BK297.out 3).trans rfl
    have hcz36_4:w11.cell? ⟨gb297,4,none⟩ = some (.float .f64 0):=(blk_cell BK297.out 4).trans rfl
    have hcz36_5:w11.cell? ⟨gb297,5,none⟩ = some (.int .i64 0):=(blk_cell BK297.out 5).trans rfl
    have hfz36_0:=blk_frozen BK297.out 0
    have hfz36_1:=blk_frozen BK297.out 1
    have hfz36_2:=blk_frozen BK297.out 2
    have hfz36_3:=blk_frozen BK297.out 3
    have hfz36_4:=blk_frozen BK297.out 4
    have hfz36_5:=blk_frozen BK297.out 5
    go_wp2_with (first | (go_at_call 48;(with_reducible refine (beaconref01_Same.calls ((rd_T58 l0 x5_1).f2) ((rd_T58 l1 x5_1).f2) false _ A28.out).mono ?_);rintro e w' ⟨rfl,⟨nd,rfl⟩⟩))
    go_meet
    case rel => exact ⟨_,(true),(by first | rfl | (simp;done) | (simp [*];done)),H',⟨by have:=HK1.out;first | omega | exact Nat.le_refl _⟩,⟨by (with_reducible repeat (first | refine blk_drewN ?_ _ | refine blk_drew ?_ | refine blk_alloc ?_ _));refine blk_far ?_ NB296_297.out _;(with_reducible repeat (first | refine blk_drewN ?_ _ | refine blk_drew ?_ | refine blk_alloc ?_ _));refine blk_far ?_ NB296_297.out _;(with_reducible repeat (first | refine blk_drewN ?_ _ | refine blk_drew ?_ | refine blk_alloc ?_ _));refine blk_far ?_ NB296_297.out _;(with_reducible repeat (first | refine blk_drewN ?_ _ | refine blk_drew ?_ | refine blk_alloc ?_ _));refine blk_far ?_ NB296_297.out _;(with_reducible repeat (first | refine blk_drewN ?_ _ | refine blk_drew ?_ | refine blk_alloc ?_ _));refine blk_far ?_ NB296_297.out _;(with_reducible repeat (first | refine blk_drewN ?_ _ | refine blk_drew ?_ | refine blk_alloc ?_ _));refine blk_far ?_ NB296_297.out _;(with_reducible repeat (first | refine blk_drewN ?_ _ | refine blk_drew ?_ | refine blk_alloc ?_ _));refine blk_put (cs:=#[.int .i64 ((rd_T58 l0 x5_1).f0),.int .i64 ((rd_T58 l0 x5_1).f1),.float .f64 ((rd_T58 l0 x5_1).f2),.int .i64 ((rd_T58 l0 x5_1).f3),.float .f64 ((rd_T58 l0 x5_1).f4),.int .i64 0]) ?_ 5 _ rfl;(with_reducible repeat (first | refine blk_drewN ?_ _ | refine blk_drew ?_ | refine blk_alloc ?_ _));refine blk_put (cs:=#[.int .i64 ((rd_T58 l0 x5_1).f0),.int .i64 ((rd_T58 l0 x5_1).f1),.float .f64 ((rd_T58 l0 x5_1).f2),.int .i64 ((rd_T58 l0 x5_1).f3),.float .f64 0,.int .i64 0]) ?_ 4 _ rfl;(with_reducible repeat (first | refine blk_drewN ?_ _ | refine blk_drew ?_ | refine blk_alloc ?_ _));refine blk_put (cs:=#[.int .i64 ((rd_T58 l0 x5_1).f0),.int .i64 ((rd_T58 l0 x5_1).f1),.float .f64 ((rd_T58 l0 x5_1).f2),.int .i64 0,.float .f64 0,.int .i64 0]) ?_ 3 _ rfl;(with_reducible repeat (first | refine blk_drewN ?_ _ | refine blk_drew ?_ | refine blk_alloc ?_ _));refine blk_put (cs:=#[.int .i64 ((rd_T58 l0 x5_1).f0),.int .i64 ((rd_T58 l0 x5_1).f1),.float .f64 0,.int .i64 0,.float .f64 0,.int .i64 0]) ?_ 2 _ rfl;(with_reducible repeat (first | refine blk_drewN ?_ _ | refine blk_drew ?_ | refine blk_alloc ?_ _));refine blk_put (cs:=#[.int .i64 ((rd_T58 l0 x5_1).f0),.int .i64 0,.float .f64 0,.int .i64 0,.float .f64 0,.int .i64 0]) ?_ 1 _ rfl;(with_reducible repeat (first | refine blk_drewN ?_ _ | refine blk_drew ?_ | refine blk_alloc ?_ _));refine blk_put (cs:=#[.int .i64 0,.int .i64 0,.float .f64 0,.int .i64 0,.float .f64 0,.int .i64 0]) ?_ 0 _ rfl;(with_reducible repeat (first | refine blk_drewN ?_ _ | refine blk_drew ?_ | refine blk_alloc ?_ _));exact BK296.out⟩,⟨by (with_reducible repeat (first | refine blk_drewN ?_ _ | refine blk_drew ?_ | refine blk_alloc ?_ _));refine blk_put (cs:=#[.int .i64 ((rd_T58 l1 x5_1).f0),.int .i64 ((rd_T58 l1 x5_1).f1),.float .f64 ((rd_T58 l1 x5_1).f2),.int .i64 ((rd_T58 l1 x5_1).f3),.float .f64 ((rd_T58 l1 x5_1).f4),.int .i64 0]) ?_ 5 _ rfl;(with_reducible repeat (first | refine blk_drewN ?_ _ | refine blk_drew ?_ | refine blk_alloc ?_ _));refine blk_put (cs:=#[.int .i64 ((rd_T58 l1 x5_1).f0),.int .i64 ((rd_T58 l1 x5_1).f1),.float .f64 ((rd_T58 l1 x5_1).f2),.int .i64 ((rd_T58 l1 x5_1).f3),.float .f64 0,.int .i64 0]) ?_ 4 _ rfl;(with_reducible repeat (first | refine blk_drewN ?_ _ | refine blk_drew ?_ | refine blk_alloc ?_ _));refine blk_put (cs:=#[.int .i64 ((rd_T58 l1 x5_1).f0),.int .i64 ((rd_T58 l1 x5_1).f1),.float .f64 ((rd_T58 l1 x5_1).f2),.int .i64 0,.float .f64 0,.int .i64 0]) ?_ 3 _ rfl;(with_reducible repeat (first | refine blk_drewN ?_ _ | refine blk_drew ?_ | refine blk_alloc ?_ _));refine blk_put (cs:=#[.int .i64 ((rd_T58 l1 x5_1).f0),.int .i64 ((rd_T58 l1 x5_1).f1),.float .f64 0,.int .i64 0,.float .f64 0,.int .i64 0]) ?_ 2 _ rfl;(with_reducible repeat (first | refine blk_drewN ?_ _ | refine blk_drew ?_ | refine blk_alloc ?_ _));refine blk_put (cs:=#[.int .i64 ((rd_T58 l1 x5_1).f0),.int .i64 0,.float .f64 0,.int .i64 0,.float .f64 0,.int .i64 0]) ?_ 1 _ rfl;(with_reducible repeat (first | refine blk_drewN ?_ _ | refine blk_drew ?_ | refine blk_alloc ?_ _));refine blk_put (cs:=#[.int .i64 0,.int .i64 0,.float .f64 0,.int .i64 0,.float .f64 0,.int .i64 0]) ?_ 0 _ rfl;(with_reducible repeat (first | refine blk_drewN ?_ _ | refine blk_drew ?_ | refine blk_alloc ?_ _));refine blk_far ?_ NB297_296.out _;(with_reducible repeat (first | refine blk_drewN ?_ _ | refine blk_drew ?_ | refine blk_alloc ?_ _));refine blk_far ?_ NB297_296.out _;(with_reducible repeat (first | refine blk_drewN ?_ _ | refine blk_drew ?_ | refine blk_alloc ?_ _));refine blk_far ?_ NB297_296.out _;(with_reducible repeat (first | refine blk_drewN ?_ _ | refine blk_drew ?_ | refine blk_alloc ?_ _));refine blk_far ?_ NB297_296.out _;(with_reducible repeat (first | refine blk_drewN ?_ _ | refine blk_drew ?_ | refine blk_alloc ?_ _));refine blk_far ?_ NB297_296.out _;(with_reducible repeat (first | refine blk_drewN ?_ _ | refine blk_drew ?_ | refine blk_alloc ?_ _));refine blk_far ?_ NB297_296.out _;(with_reducible repeat (first | refine blk_drewN ?_ _ | refine blk_drew ?_ | refine blk_alloc ?_ _));exact BK297.out⟩,⟨by repeat (first | (with_reducible first | exact HB.out | apply below_alloc | apply pw_below_drewN | apply below_drew1 | refine below_set ?_ GE296.out | refine below_set ?_ GE297.out) | exact HB.out)⟩⟩
   case rest =>
    clear HC7
    obtain ⟨kq,x68_6,rfl,HA,HJ6,BK296,BK297,HB⟩:=hcut
    cases kq with
    | zero => exact absurd HA.out (by simp [beaconref09_SameEntries.j1])
    | succ kj6 =>
     have H:=HA.out
     clear HA
     simp only [beaconref09_SameEntries.j1] at H
     by_cases c49:x68_6 = true
     ·subst c49
      have H1:(some false) = some r:=by rw [if_pos rfl] at H;exact H
      clear H
      have H:=H1
      clear H1
      obtain rfl:=Option.some.inj H
      go_wp2
      go_ret
      exact ⟨by first | rfl | (simp [errW_none,errW_some] <;> rfl) | (simp [*,errW_none,errW_some] <;> rfl),by repeat (first | (with_reducible first | exact HB.out | apply below_alloc | apply pw_below_drewN | apply below_drew1 | refine below_set ?_ GE296.out | refine below_set ?_ GE297.out) | exact HB.out)⟩
     replace c49:=Bool.eq_false_iff.mpr c49
     subst c49
     have H1:(beaconref09_SameEntries.l0 kj6 l0 l1 (wrap64 (x5_1 + 1))) = some r:=by rw [if_neg (show ¬ (false = true) by decide)] at H;exact H
     clear H
     have H:=H1
     clear H1
     have H':=Aside0.mk H
     clear H
     go_wp2
     go_roundg kj6
     case measure => have:=HK1.out;have:=HJ6.out;omega
     case rel => exact ⟨(wrap64 (x5_1 + 1)),(by first | rfl | (simp;done) | (simp [*];done)),H',⟨by have:=HK1.out;have:=HJ6.out;omega⟩,⟨by repeat (first | (with_reducible first | exact HB.out | apply below_alloc | apply pw_below_drewN | apply below_drew1 | refine below_set ?_ GE296.out | refine below_set ?_ GE297.out) | exact HB.out)⟩⟩
end Go.Proofs.Ytjcnmpkaiopihaa.PA
