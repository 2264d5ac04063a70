/- paths.Nexts: the first hop to each router, as the document has it. Conditions: weights and the limit are words. -/
import Derived.Test.YtmdkcecbklgihaaCcHy
namespace Go.Proofs.Ytmdkcecbklgihaa.PA
open Go.RowKit Go.Proofs.YtmdkcecbklgihaaW.PrintWords Go.Proofs.YtmdkcecbklgihaaW.PrintLast Go.Proofs.YtmdkcecbklgihaaW.PrintMore
open Classical
set_option linter.unusedVariables false
set_option linter.unusedSimpArgs false
theorem out_start (n : Nat) (HOP : Nat → Int) : (Obj.cells (nums .i64 ((List.range n).map fun t => if t < 0 then HOP t else 0)).toArray 3 (0,0)) = (Obj.cells (madeCells #[Value.int IntKind.i64 0] n) 3) := by
  congr 1
  apply Array.ext'
  apply List.ext_getElem
  · simp [nums,madeCells]
  intro i h1 h2
  simp [nums,madeCells,Nat.mod_one]
theorem ints_row {w : World} {base b n : Nat} {xs : List Int} (hb : base ≤ b) (h : w.heap[b]? = some (.cells (nums .i64 xs).toArray 3 (0,0))) (hl : xs.length = n) (hn : n ≤ 256) : Kd.R (Kd.int .i64) 3 w base (fun _ => True) (.slice (some ⟨b,0,none⟩) n n) xs := by
  refine Kd.R_of_own ?_ (fun _ _ => trivial)
  rw [hl]
  refine ⟨by simp [encs,hl],Or.inr ⟨b,n,(nums .i64 xs).toArray,rfl,hb,h,Nat.le_refl _,by unfold maxLen;omega,by simp [nums,hl],?_⟩⟩
  rw [← hl,Nat.mul_one]
  show List.take xs.length (nums .i64 xs) = _
  exact List.take_of_length_le (by simp [nums])
theorem out_at (n j : Nat) (hj : j < n) (HOP : Nat → Int) : (nums .i64 ((List.range n).map fun t => if t < j then HOP t else 0)).toArray[j]? = some (.int .i64 0) := by
  simp [nums,hj]
theorem out_step (n j : Nat) (hj : j < n) (HOP : Nat → Int) : (nums .i64 ((List.range n).map fun t => if t < j then HOP t else 0)).toArray.setIfInBounds j (.int .i64 (HOP j)) = (nums .i64 ((List.range n).map fun t => if t < j + 1 then HOP t else 0)).toArray := by
  apply Array.ext'
  apply List.ext_getElem
  · simp [nums]
  intro i h1 h2
  simp only [nums,Array.toList_setIfInBounds,List.getElem_set,List.getElem_map,List.getElem_range]
  split
  · rename_i h3
    subst h3
    rw [if_pos (by omega)]
  rename_i h3
  by_cases h4 : i < j
  · rw [if_pos h4,if_pos (by omega)]
  rw [if_neg h4,if_neg (by omega)]
noncomputable def paths_Nexts.f (l0_0 : List S40) (l0_1 : List S74) (a1 : Nat) (a2 : Int) : Option (List Int × Int) := if Fits l0_1 ∧ a1 < 18446744073709551616 then some (nextsSpec l0_0 l0_1 a1 a2) else none
set_option maxHeartbeats 2000000 in
set_option maxRecDepth 100000 in
theorem paths_Nexts.calls (A0_0 : Option Addr) (c0_0 : Nat) (l0_0 : List (S40)) (A0_1 : Option Addr) (c0_1 : Nat) (l0_1 : List (S74)) (a1 : Nat) (a2 : Int) (r1 : List Int) (r2 : Int) (w : World) (hr0_0 : Kd.C k40 w A0_0 l0_0.length l0_0) (hc0_0 : l0_0.length ≤ c0_0) (hr0_1 : Kd.C k74 w A0_1 l0_1.length l0_1) (hc0_1 : l0_1.length ≤ c0_1) (h : paths_Nexts.f l0_0 l0_1 a1 a2 = some (r1,r2)) :
    Calls Try.prog 11 #[.agg #[.slice A0_0 l0_0.length c0_0,.slice A0_1 l0_1.length c0_1],.float .f64 a1,.int .i64 a2] w fun e w' => ∃ v0_ : Value,e = .returned (.tuple #[v0_,.int .i64 r2]) ∧ Kd.R (Kd.int .i64) 3 w' w.heap.size (fun _ => True) v0_ r1 ∧ Below w.heap.size w w' := by
  unfold paths_Nexts.f at h
  by_cases hF : Fits l0_1 ∧ a1 < 18446744073709551616
  rotate_left
  · rw [if_neg hF] at h
    cases h
  rw [if_pos hF] at h
  obtain ⟨K,hK⟩ := graph_tells (nodes := l0_0) hF.1
  have hL := (limit_all a1 hF.2).2.1
  have hC : graph_Check.f K l0_0 l0_1 = some (ckSpec l0_0 l0_1) := hK K (Nat.le_refl _)
  have SP := Aside0.mk (Option.some.inj h)
  have FI := Aside0.mk hF
  have R0 := Aside0.mk hr0_0
  have R1 := Aside0.mk hr0_1
  have LL := Aside0.mk hL
  have CC := Aside0.mk hC
  clear hK hC hL h hF hr0_0 hr0_1
  have hu25 := Try.underlying25
  have hu27 := Try.underlying27
  go_enter Try.func11,Try.ntmps11
  go_wp2_with fail
  have hb2 : Below w.heap.size w ((w.alloc (Obj.cells #[Value.slice A0_0 l0_0.length c0_0,Value.slice A0_1 l0_1.length c0_1] 25)).alloc (Obj.cells #[Value.int IntKind.i64 a2] 3)) := below_alloc (below_alloc (Below.refl _ _) _) _
  refine (made_calls K (lE a1) (ckSpec l0_0 l0_1) A0_0 c0_0 l0_0 A0_1 c0_1 l0_1 a1 (some ⟨w.heap.size + 1,0,none⟩) 1 [a2] _ (Kd.C_below R0.out hb2) hc0_0 (Kd.C_below R1.out hb2) hc0_1 (by simpa using one_id (w.alloc (Obj.cells #[Value.slice A0_0 l0_0.length c0_0,Value.slice A0_1 l0_1.length c0_1] 25)) a2) LL.out CC.out (fun h0 => by
    have G := ckSpec_zero _ _ h0
    exact ⟨G.n256,G.l4096,G.nodup,G.ends⟩)).mono ?_
  rintro x1 w1 ⟨hb1,ho⟩
  have HB1 : Aside0 (Below w.heap.size w w1) := ⟨below_then hb2 hb2.size hb1⟩
  have SZ : Aside0 (w.heap.size ≤ ((w.alloc (Obj.cells #[Value.slice A0_0 l0_0.length c0_0,Value.slice A0_1 l0_1.length c0_1] 25)).alloc (Obj.cells #[Value.int IntKind.i64 a2] 3)).heap.size) := ⟨hb2.size⟩
  have BX : Aside0 (w1.heap[w.heap.size]? = some (.cells #[.slice A0_0 l0_0.length c0_0,.slice A0_1 l0_1.length c0_1] 25 (0,0))) := ⟨blk_below (blk_below (heap_alloc_new w _) (below_alloc (Below.refl _ _) _)) hb1⟩
  clear hb2 hb1
  rcases ho with ⟨h1,rfl⟩ | ⟨h1,⟨h2,rfl⟩ | ⟨h2,h3,rfl⟩ | ⟨h2,h3,g,rfl,h4,h5⟩⟩
  · have heb : (lE a1 == 0) = false := by simpa using h1
    have heb1 : (lE a1 != 0) = true := by simpa using h1
    obtain ⟨rfl,rfl⟩ := Prod.mk.inj ((nextsSpec_no (ask_lim h1) h1).symm.trans SP.out)
    go_wp2_with fail
    go_ret2
    exact ⟨_,rfl,Kd.R_nil _ _ _ _ _,HB1.out⟩
  · have heb : (ckSpec l0_0 l0_1 == 0) = false := by simpa using h2
    have heb1 : (ckSpec l0_0 l0_1 != 0) = true := by simpa using h2
    obtain ⟨rfl,rfl⟩ := Prod.mk.inj ((nextsSpec_no (ask_ck h1 h2) h2).symm.trans SP.out)
    go_wp2_with fail
    go_ret2
    exact ⟨_,rfl,Kd.R_nil _ _ _ _ _,HB1.out⟩
  · obtain ⟨id,hid,hpl⟩ := h3
    obtain rfl : id = a2 := by simpa using hid
    obtain ⟨rfl,rfl⟩ := Prod.mk.inj ((nextsSpec_no (ask_none h1 h2 hpl) (by decide)).symm.trans SP.out)
    go_wp2_with fail
    go_ret2
    exact ⟨_,rfl,Kd.R_nil _ _ _ _ _,HB1.out⟩
  have hpl := h3 a2 (by simp)
  obtain ⟨rfl,rfl⟩ := Prod.mk.inj ((nextsSpec_ok (ask_ok h1 h2 hpl)).symm.trans SP.out)
  have NA := Aside0.mk h5
  have GG : Aside0 (w.heap.size ≤ g) := ⟨by have := SZ.out;omega⟩
  obtain ⟨B0,d0,B1,d1,mb,B3,d3,k1,k2,k3,k4,k5,k6⟩ := h5
  have n3 : w1.cell? ⟨g,3,none⟩ = some (.map (some mb)) := (blk_cell k1 3).trans rfl
  have lk : ∀ W_,Below w1.heap.size w1 W_ → (Instr.lookup 63 (.map (some mb)) (.int .i64 a2) false).run Try.prog W_ = .ok (.int .i64 (plc l0_0 a2 : Int)) W_ := fun W_ hW_ => by
    have h9 := run_look1 (P := Try.prog) (t := 63) (et := 3) (key_int Try.underlying3) Try.underlying63 (k6.below hW_) a2 (.int .i64 0) (by kernel_rfl)
    rw [mget_places,if_pos hpl] at h9
    exact h9
  have LK := Aside0.mk lk
  have N3 := Aside0.mk k1
  obtain ⟨T,-,-⟩ := askSpec_zero FI.out.2 (ask_ok (id := a2) h1 h2 hpl)
  have TT := Aside0.mk T
  have hn := T.good.n256
  have b0 : w1.cell? ⟨w.heap.size,0,none⟩ = some (.slice A0_0 l0_0.length c0_0) := (blk_cell BX.out 0).trans rfl
  have hsz1 := blk_lt BX.out
  have hmk := run_make_row' (P := Try.prog) 27 3 (.int .i64 0) 8 Try.underlying27 info3 rfl .i64 .i64 l0_0.length (by omega) (by omega)
  have hu63 := Try.underlying63
  have hu66 := Try.underlying66
  have hu22 := Try.underlying22
  clear k1 k2 k3 k4 k5 k6 h3 h4 lk n3 T
  go_wp2_with fail
  obtain ⟨n,hnn⟩ : ∃ n,n = l0_0.length := ⟨_,rfl⟩
  obtain ⟨HOP,hHOP⟩ : ∃ HOP : Nat → Int,∀ t,HOP t = hopOf l0_0 (mqOf a1) ((adjQ wqOf l0_0 l0_1).getD (plc l0_0 a2) []) (dQ l0_0 l0_1 (mqOf a1) t) (plc l0_0 a2) t := ⟨_,fun _ => rfl⟩
  have HH := Aside0.mk hHOP
  have NN := Aside0.mk hnn
  clear hHOP hmk
  rw [← hnn] at hn b0 ⊢
  have O0 : Aside0 (Below w1.heap.size w1 (w1.alloc (Obj.cells (madeCells #[Value.int IntKind.i64 0] n) 3)) ∧ (w1.alloc (Obj.cells (madeCells #[Value.int IntKind.i64 0] n) 3)).heap[w1.heap.size]? = some (.cells (nums .i64 ((List.range n).map fun t => if t < 0 then HOP t else 0)).toArray 3 (0,0))) :=
    ⟨below_alloc (Below.refl _ _) _,(heap_alloc_new w1 _).trans (by rw [out_start])⟩
  clear hnn
  go_loopw [30] (fun vi wr => ∃ (j : Nat),vi = .int .i64 (j : Int) ∧ j ≤ n ∧ Aside0 (Below w1.heap.size w1 wr ∧ wr.heap[w1.heap.size]? = some (.cells (nums .i64 ((List.range n).map fun t => if t < j then HOP t else 0)).toArray 3 (0,0)))) (fun vi _ => n - (intOf vi).toNat)
  case atStart => exact ⟨0,rfl,Nat.zero_le _,O0⟩
  case round =>
    obtain ⟨j,rfl,hj,HO⟩ := hrel
    by_cases hjl : j < n
    rotate_left
    · have hjn : j = n := by omega
      subst hjn
      go_wp2_with fail
      go_ret2
      refine ⟨_,rfl,?_,below_then HB1.out HB1.out.size HO.out.1⟩
      have e1 : (List.map (fun t => hopOf l0_0 (mqOf a1) (List.getD (adjQ wqOf l0_0 l0_1) (plc l0_0 a2) []) (dQ l0_0 l0_1 (mqOf a1) t) (plc l0_0 a2) t) (List.range l0_0.length)) = (List.range j).map fun t => if t < j then HOP t else 0 := by
        rw [← NN.out]
        apply List.map_congr_left
        intro t ht
        rw [if_pos (List.mem_range.1 ht),HH.out]
      rw [e1]
      exact ints_row HB1.out.size HO.out.2 (by simp) hn
    have hjz : (j : Int) < (n : Int) := by omega
    have n3 : wr.cell? ⟨g,3,none⟩ = some (.map (some mb)) := (HO.out.1.cell (blk_lt N3.out)).trans ((blk_cell N3.out 3).trans rfl)
    have HNET : Aside0 (NetAt wr.drew g l0_0 l0_1 a1 (adjB l0_0 l0_1)) := ⟨NA.out.below (HO.out.1.trans (below_drew (Below.refl _ _)))⟩
    have lk0 := LK.out wr.drew (HO.out.1.trans (below_drew (Below.refl _ _)))
    have HJ : Aside0 (j < l0_0.length) := ⟨by rw [← NN.out];exact hjl⟩
    have HOD : Aside0 (Below w1.heap.size w1 wr.drew ∧ wr.drew.heap[w1.heap.size]? = some (.cells (nums .i64 ((List.range n).map fun t => if t < j then HOP t else 0)).toArray 3 (0,0))) := ⟨HO.out.1.trans (below_drew (Below.refl _ _)),HO.out.2⟩
    have hlen : ((List.range n).map fun t => if t < j then HOP t else 0).length = n := by simp
    go_wp2_with fail
    go_region_with (first
      | (go_at_call 33
         refine (dists_net TT.out.good FI.out.1 TT.out.lim TT.out.low TT.out.high HJ.out _ HNET.out).mono ?_
         rintro e w3 ⟨b,he,hb1,hb2,hb3⟩
         rw [← NN.out] at he
         subst he
         have NET3 := Aside0.mk (HNET.out.below hb3)
         have O3 := Aside0.mk (And.intro (below_then HOD.out.1 HOD.out.1.size hb3) (blk_below HOD.out.2 hb3))
         have n3b : w3.cell? ⟨g,3,none⟩ = some (.map (some mb)) := (O3.out.1.cell (blk_lt N3.out)).trans ((blk_cell N3.out 3).trans rfl)
         have lk3 := LK.out w3 O3.out.1
         have D3 := Aside0.mk hb2
         clear hb1 hb2 hb3)
      | (go_at_call 32
         have C32 := next_net TT.out.good FI.out.1 TT.out.lim TT.out.low TT.out.high TT.out.there HJ.out _ NET3.out D3.out
         rw [← NN.out] at C32
         refine C32.mono ?_
         clear C32
         rintro e w4 ⟨he,hb4⟩
         rw [← HH.out j] at he
         subst he
         have O4 := Aside0.mk (And.intro (below_then O3.out.1 O3.out.1.size hb4) (blk_below O3.out.2 hb4))
         have o4 := blk_cell O4.out.2 j
         have o4f := blk_frozen O4.out.2 j
         rw [out_at n j hjl HOP] at o4
         clear hb4))
    all_goals (
      have H5 : Aside0 (Below w1.heap.size w1 (w4.setCell ⟨w1.heap.size,j,none⟩ (.int .i64 (HOP j))) ∧ (w4.setCell ⟨w1.heap.size,j,none⟩ (.int .i64 (HOP j))).heap[w1.heap.size]? = some (.cells (nums .i64 ((List.range n).map fun t => if t < j + 1 then HOP t else 0)).toArray 3 (0,0))) :=
        ⟨Below.setCell O4.out.1 (Nat.le_refl _) _,blk_put O4.out.2 j _ (out_step n j hjl HOP)⟩
      go_wp2_with fail
      go_roundw
      case rel => exact ⟨j + 1,by go_num,hjl,H5⟩
      case measure => simp [intOf];omega)
end Go.Proofs.Ytmdkcecbklgihaa.PA
