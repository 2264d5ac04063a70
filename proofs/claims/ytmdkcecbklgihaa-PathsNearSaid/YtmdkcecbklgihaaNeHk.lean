/- paths.Near: who is nearer than a radius, as the document has it. Conditions: weights and the limit are words. -/
import Derived.Test.YtmdkcecbklgihaaCHy
namespace Go.Proofs.Ytmdkcecbklgihaa.PA
open Go.RowKit Go.Proofs.YtmdkcecbklgihaaW.PrintWords Go.Proofs.YtmdkcecbklgihaaW.PrintLast Go.Proofs.YtmdkcecbklgihaaW.PrintMore
open Classical
set_option linter.unusedVariables false
set_option linter.unusedSimpArgs false
theorem dQ_len' {nodes : List S40} {links : List S74} (G : Good nodes links) (hF : Fits links) {M s : Nat} (h4 : 4 ≤ M) (hM : M ≤ 4294967296) (hs : s < nodes.length) : (dQ nodes links M s).length = nodes.length := (dQ_tells G hF h4 hM hs).len
noncomputable def nearTo (nodes : List S40) (M : Nat) (q : List Nat) (rad j : Nat) : List Int := ((List.range j).filter fun i => FloatKind.f64.format.order (encM M (q.getD i 0)) rad == some .lt).map fun i => (nodes.getD i z40).f0
theorem nearTo_succ (nodes : List S40) (M : Nat) (q : List Nat) (rad j : Nat) : nearTo nodes M q rad (j + 1) = if (FloatKind.f64.format.order (encM M (q.getD j 0)) rad == some .lt) = true then nearTo nodes M q rad j ++ [(nodes.getD j z40).f0] else nearTo nodes M q rad j := by
  unfold nearTo
  rw [List.range_succ,List.filter_append,List.map_append]
  by_cases h : (FloatKind.f64.format.order (encM M (q.getD j 0)) rad == some .lt) = true
  · rw [if_pos h,List.filter_cons,if_pos h]
    rfl
  · rw [if_neg h,List.filter_cons,if_neg h]
    simp
theorem nearTo_len (nodes : List S40) (M : Nat) (q : List Nat) (rad j : Nat) : (nearTo nodes M q rad j).length ≤ j := by
  unfold nearTo
  rw [List.length_map]
  exact Nat.le_trans (List.length_filter_le _ _) (by simp)
noncomputable def nearSpec (nodes : List S40) (links : List S74) (mx : Nat) (id : Int) (rad : Nat) : List Int × Int :=
  if askSpec nodes links mx id = 0 then (if math_IsNaN.f rad = some true then ([],10) else if 9223372036854775808 ≤ rad then ([],12) else (nearTo nodes (mqOf mx) (dQ nodes links (mqOf mx) (plc nodes id)) rad nodes.length,0)) else ([],askSpec nodes links mx id)
theorem nearSpec_no {nodes : List S40} {links : List S74} {mx rad : Nat} {id e : Int} (h : askSpec nodes links mx id = e) (he : e ≠ 0) : nearSpec nodes links mx id rad = ([],e) := by
  unfold nearSpec
  rw [h,if_neg he]
theorem nearSpec_nan {nodes : List S40} {links : List S74} {mx rad : Nat} {id : Int} (h : askSpec nodes links mx id = 0) (h2 : math_IsNaN.f rad = some true) : nearSpec nodes links mx id rad = ([],10) := by
  unfold nearSpec
  rw [if_pos h,if_pos h2]
theorem nearSpec_sign {nodes : List S40} {links : List S74} {mx rad : Nat} {id : Int} (h : askSpec nodes links mx id = 0) (h2 : math_IsNaN.f rad = some false) (h3 : 9223372036854775808 ≤ rad) : nearSpec nodes links mx id rad = ([],12) := by
  unfold nearSpec
  rw [if_pos h,if_neg (by rw [h2];decide),if_pos h3]
theorem nearSpec_ok {nodes : List S40} {links : List S74} {mx rad : Nat} {id : Int} (h : askSpec nodes links mx id = 0) (h2 : math_IsNaN.f rad = some false) (h3 : ¬ 9223372036854775808 ≤ rad) : nearSpec nodes links mx id rad = (nearTo nodes (mqOf mx) (dQ nodes links (mqOf mx) (plc nodes id)) rad nodes.length,0) := by
  unfold nearSpec
  rw [if_pos h,if_neg (by rw [h2];decide),if_neg h3]
noncomputable def paths_Near.f (l0_0 : List S40) (l0_1 : List S74) (a1 : Nat) (a2 : Int) (a3 : Nat) : Option (List Int × Int) := if Fits l0_1 ∧ a1 < 18446744073709551616 ∧ a3 < 18446744073709551616 then some (nearSpec l0_0 l0_1 a1 a2 a3) else none
set_option maxHeartbeats 2000000 in
set_option maxRecDepth 100000 in
theorem paths_Near.calls (A0_0 : Option Addr) (c0_0 : Nat) (l0_0 : List (S40)) (A0_1 : Option Addr) (c0_1 : Nat) (l0_1 : List (S74)) (a1 : Nat) (a2 : Int) (a3 : Nat) (r1 : List Int) (r2 : Int) (w : World) (hr0_0 : Kd.C k40 w A0_0 l0_0.length l0_0) (hc0_0 : l0_0.length ≤ c0_0) (hr0_1 : Kd.C k74 w A0_1 l0_1.length l0_1) (hc0_1 : l0_1.length ≤ c0_1) (h : paths_Near.f l0_0 l0_1 a1 a2 a3 = some (r1,r2)) :
    Calls Try.prog 25 #[.agg #[.slice A0_0 l0_0.length c0_0,.slice A0_1 l0_1.length c0_1],.float .f64 a1,.int .i64 a2,.float .f64 a3] w fun e w' => ∃ v0_ : Value,e = .returned (.tuple #[v0_,.int .i64 r2]) ∧ Kd.R (Kd.int .i64) 3 w' w.heap.size (fun _ => True) v0_ r1 ∧ Below w.heap.size w w' := by
  unfold paths_Near.f at h
  by_cases hF : Fits l0_1 ∧ a1 < 18446744073709551616 ∧ a3 < 18446744073709551616
  · rw [if_pos hF] at h
    obtain ⟨K,hK⟩ := graph_tells (nodes := l0_0) hF.1
    have hL := (limit_all a1 hF.2.1).2.1
    have hC : graph_Check.f K l0_0 l0_1 = some (ckSpec l0_0 l0_1) := hK K (Nat.le_refl _)
    have SP := Aside0.mk (Option.some.inj h)
    have FI := Aside0.mk hF
    have R0 := Aside0.mk hr0_0
    have R1 := Aside0.mk hr0_1
    have LL := Aside0.mk hL
    have CC := Aside0.mk hC
    clear hK hC hL h hF hr0_0 hr0_1
    have hu25 := Try.underlying25
    have hu27 := Try.underlying27
    go_enter Try.func25,Try.ntmps25
    go_wp2_with fail
    have hb2 : Below w.heap.size w ((w.alloc (Obj.cells #[Value.slice A0_0 l0_0.length c0_0,Value.slice A0_1 l0_1.length c0_1] 25)).alloc (Obj.cells #[Value.int IntKind.i64 a2] 3)) := below_alloc (below_alloc (Below.refl _ _) _) _
    refine (made_calls K (lE a1) (ckSpec l0_0 l0_1) A0_0 c0_0 l0_0 A0_1 c0_1 l0_1 a1 (some ⟨w.heap.size + 1,0,none⟩) 1 [a2] _ (Kd.C_below R0.out hb2) hc0_0 (Kd.C_below R1.out hb2) hc0_1 (by simpa using one_id (w.alloc (Obj.cells #[Value.slice A0_0 l0_0.length c0_0,Value.slice A0_1 l0_1.length c0_1] 25)) a2) LL.out CC.out (fun h0 => by
      have G := ckSpec_zero _ _ h0
      exact ⟨G.n256,G.l4096,G.nodup,G.ends⟩)).mono ?_
    rintro x1 w1 ⟨hb1,ho⟩
    have HB1 : Aside0 (Below w.heap.size w w1) := ⟨below_then hb2 hb2.size hb1⟩
    have SZ : Aside0 (w.heap.size ≤ ((w.alloc (Obj.cells #[Value.slice A0_0 l0_0.length c0_0,Value.slice A0_1 l0_1.length c0_1] 25)).alloc (Obj.cells #[Value.int IntKind.i64 a2] 3)).heap.size) := ⟨hb2.size⟩
    have BX : Aside0 (w1.heap[w.heap.size]? = some (.cells #[.slice A0_0 l0_0.length c0_0,.slice A0_1 l0_1.length c0_1] 25 (0,0))) := ⟨blk_below (blk_below (heap_alloc_new w _) (below_alloc (Below.refl _ _) _)) hb1⟩
    clear hb2 hb1
    rcases ho with ⟨h1,rfl⟩ | ⟨h1,⟨h2,rfl⟩ | ⟨h2,h3,rfl⟩ | ⟨h2,h3,g,rfl,h4,h5⟩⟩
    · have heb : (lE a1 == 0) = false := by simpa using h1
      have heb1 : (lE a1 != 0) = true := by simpa using h1
      obtain ⟨rfl,rfl⟩ := Prod.mk.inj ((nearSpec_no (ask_lim h1) h1).symm.trans SP.out)
      go_wp2_with fail
      go_ret2
      exact ⟨_,rfl,Kd.R_nil _ _ _ _ _,HB1.out⟩
    · have heb : (ckSpec l0_0 l0_1 == 0) = false := by simpa using h2
      have heb1 : (ckSpec l0_0 l0_1 != 0) = true := by simpa using h2
      obtain ⟨rfl,rfl⟩ := Prod.mk.inj ((nearSpec_no (ask_ck h1 h2) h2).symm.trans SP.out)
      go_wp2_with fail
      go_ret2
      exact ⟨_,rfl,Kd.R_nil _ _ _ _ _,HB1.out⟩
    · obtain ⟨id,hid,hpl⟩ := h3
      obtain rfl : id = a2 := by simpa using hid
      obtain ⟨rfl,rfl⟩ := Prod.mk.inj ((nearSpec_no (ask_none h1 h2 hpl) (by decide)).symm.trans SP.out)
      go_wp2_with fail
      go_ret2
      exact ⟨_,rfl,Kd.R_nil _ _ _ _ _,HB1.out⟩
    · have hpl := h3 a2 (by simp)
      have NA := Aside0.mk h5
      obtain ⟨B0,d0,B1,d1,mb,B3,d3,k1,k2,k3,k4,k5,k6⟩ := h5
      have n3 : w1.cell? ⟨g,3,none⟩ = some (.map (some mb)) := (blk_cell k1 3).trans rfl
      have lk : ∀ W_,Below w1.heap.size w1 W_ → (Instr.lookup 63 (.map (some mb)) (.int .i64 a2) false).run Try.prog W_ = .ok (.int .i64 (plc l0_0 a2 : Int)) W_ := fun W_ hW_ => by
        have h9 := run_look1 (P := Try.prog) (t := 63) (et := 3) (key_int Try.underlying3) Try.underlying63 (k6.below hW_) a2 (.int .i64 0) (by kernel_rfl)
        rw [mget_places,if_pos hpl] at h9
        exact h9
      have LK := Aside0.mk lk
      have N3 := Aside0.mk k1
      have HASK := Aside0.mk (ask_ok (id := a2) h1 h2 hpl)
      obtain ⟨T,-,-⟩ := askSpec_zero FI.out.2.1 HASK.out
      have TT := Aside0.mk T
      have hn := T.good.n256
      have hu63 := Try.underlying63
      have hu66 := Try.underlying66
      have hu22 := Try.underlying22
      clear k1 k2 k3 k4 k5 k6 h3 h4 lk n3 T
      rcases nan_bool a3 with hna | hna
      · obtain ⟨rfl,rfl⟩ := Prod.mk.inj ((nearSpec_nan HASK.out hna).symm.trans SP.out)
        go_wp2_with fail
        refine (math_IsNaN.calls a3 true _ hna).mono ?_
        rintro e w2 ⟨rfl,hb2⟩
        have HB2 : Aside0 (Below w.heap.size w w2) := ⟨below_then HB1.out HB1.out.size hb2.below⟩
        clear hb2
        go_wp2_with fail
        go_ret2
        exact ⟨_,rfl,Kd.R_nil _ _ _ _ _,HB2.out⟩
      · have hsg := sign_same a3 FI.out.2.2
        rw [hsg.2] at hsg
        go_wp2_with fail
        refine (math_IsNaN.calls a3 false _ hna).mono ?_
        rintro e w2 ⟨rfl,hb2⟩
        have HB2 : Aside0 (Below w1.heap.size w1 w2) := ⟨hb2.below⟩
        clear hb2
        go_wp2_with fail
        refine (math_Signbit.calls a3 _ _ hsg.1).mono ?_
        rintro e w3 ⟨rfl,hb3⟩
        have HB3 : Aside0 (Below w1.heap.size w1 w3) := ⟨below_then HB2.out HB2.out.size hb3.below⟩
        clear hb3
        by_cases hs : 9223372036854775808 ≤ a3
        · obtain ⟨rfl,rfl⟩ := Prod.mk.inj ((nearSpec_sign HASK.out hna hs).symm.trans SP.out)
          rw [decide_eq_true hs]
          go_wp2_with fail
          go_ret2
          exact ⟨_,rfl,Kd.R_nil _ _ _ _ _,below_then HB1.out HB1.out.size HB3.out⟩
        · obtain ⟨rfl,rfl⟩ := Prod.mk.inj ((nearSpec_ok HASK.out hna hs).symm.trans SP.out)
          rw [decide_eq_false hs]
          have n3b : w3.cell? ⟨g,3,none⟩ = some (.map (some mb)) := (HB3.out.cell (blk_lt N3.out)).trans ((blk_cell N3.out 3).trans rfl)
          have lk3 := LK.out w3 HB3.out
          have NET3 := Aside0.mk (NA.out.below HB3.out)
          go_wp2_with fail
          clear lk3 n3b
          refine (dists_net TT.out.good FI.out.1 TT.out.lim TT.out.low TT.out.high hpl _ NET3.out).mono ?_
          rintro e w4 ⟨b,rfl,hb1,hb2,hb3⟩
          have HB4 : Aside0 (Below w1.heap.size w1 w4) := ⟨below_then HB3.out HB3.out.size hb3⟩
          have DD := Aside0.mk hb2
          clear hb1 hb2 hb3
          go_wp2_with fail
          obtain ⟨M,hM⟩ : ∃ M,mqOf a1 = M := ⟨_,rfl⟩
          obtain ⟨q,hq⟩ : ∃ q,dQ l0_0 l0_1 M (plc l0_0 a2) = q := ⟨_,rfl⟩
          have hql : q.length = l0_0.length := by
            rw [← hq,← hM]
            exact dQ_len' TT.out.good FI.out.1 TT.out.low TT.out.high TT.out.there
          rw [hM,hq] at DD
          have MQ := Aside0.mk (And.intro hM hq)
          have BX4 : Aside0 (w4.heap[w.heap.size]? = some (.cells #[.slice A0_0 l0_0.length c0_0,.slice A0_1 l0_1.length c0_1] 25 (0,0))) := ⟨blk_below BX.out HB4.out⟩
          have BW4 : Aside0 (Below w.heap.size w w4) := ⟨below_then HB1.out HB1.out.size HB4.out⟩
          clear hM hq
          go_loopw [12,42] (fun vo vi wr => ∃ (j : Nat),vi = .int .i64 (j : Int) ∧ j ≤ l0_0.length ∧ Aside0 (Kd.R (Kd.int .i64) 3 wr w4.heap.size (fun _ => True) vo (nearTo l0_0 M q a3 j) ∧ Below w4.heap.size w4 wr)) (fun _ vi _ => l0_0.length - (intOf vi).toNat)
          case atStart => exact ⟨0,rfl,Nat.zero_le _,⟨Kd.R_nil _ _ _ _ _,Below.refl _ _⟩⟩
          case round =>
            obtain ⟨j,rfl,hj,HO⟩ := hrel
            by_cases hjl : j < l0_0.length
            · have hjz : (j : Int) < (l0_0.length : Int) := by omega
              have hdw : wr.heap[b]? = some (.cells (dcells (encM M) q).toArray 26 (0,0)) := blk_below DD.out HO.out.2
              have dq : wr.cell? ⟨b,j,none⟩ = some (.float .f64 (encM M (q.getD j 0))) := (blk_cell hdw j).trans (dcells_at _ q j (by rw [hql];exact hjl))
              obtain ⟨an,e0,ha0,ha1,ha2⟩ := at_T40 R0.out (j : Int) (by omega) hjz
              subst e0
              have hrd2 : rd_T40 l0_0 (j : Int) = l0_0.getD j z40 := by
                unfold rd_T40
                rw [Int.toNat_natCast]
              obtain ⟨id,hid⟩ : ∃ id,(l0_0.getD j z40).f0 = id := ⟨_,rfl⟩
              rw [hrd2,Int.toNat_natCast,hid] at ha0
              have hbw : Below w.heap.size w wr := below_then BW4.out BW4.out.size HO.out.2
              have a0' := (hbw.cell (World.block_lt_of_cell? w _ ha0)).trans ha0
              have b0 : wr.cell? ⟨w.heap.size,0,none⟩ = some (.slice (some an) l0_0.length c0_0) := (blk_cell (blk_below BX4.out HO.out.2) 0).trans rfl
              have hsucc := nearTo_succ l0_0 M q a3 j
              have hlen := nearTo_len l0_0 M q a3 j
              rw [hid] at hsucc
              obtain ⟨qj,hqj⟩ : ∃ qj,q.getD j 0 = qj := ⟨_,rfl⟩
              rw [hqj] at hsucc dq
              clear hqj
              have SU := Aside0.mk hsucc
              have LN := Aside0.mk hlen
              clear hdw ha0 ha1 ha2 hrd2 hid hbw hsucc hlen
              by_cases hc : (FloatKind.f64.format.order (encM M qj) a3 == some .lt) = true
              · have SU2 := Aside0.mk (SU.out.trans (if_pos hc))
                go_wp2_with ((with_reducible refine gate_builtin (b := .append) (xs := #[.tmp 50,.tmp 57]) rfl ?_);at_builtin;refine Kd.R_append (Kd.int .i64) (w0 := w4) w4.heap.size rfl (.tmp 50) (.tmp 57) 27 3 (.int .i64 0) 8 rfl Try.underlying27 info3 rfl (by decide) (by omega) u12 (nearTo l0_0 M q a3 j) id [.int .i64 id] (fun _ => True) (fun _ => False) rfl rfl ?aP (fun _ hk => hk.elim) ?aF ?aO ?aB ?aS ?aL ?_;(case aP => exact rfl);(case aB => exact HO.out.2);(case aF => exact (fun _ _ => trivial));(case aO => exact HO.out.1);(case aS => exact HO.out.2.size);(case aL => have := LN.out;omega);intro v8 w8 ho hb8 hg hat;rw [← SU2.out] at ho;have HO8 := Aside0.mk (And.intro ho hb8);clear ho hb8 hg hat)
                go_roundw
                case rel => exact ⟨j + 1,by go_num,hjl,HO8⟩
                case measure => simp [intOf];omega
              · have SU2 := Aside0.mk (SU.out.trans (if_neg hc))
                have hc2 : (FloatKind.f64.format.order (encM M qj) a3 == some .lt) = false := by simpa using hc
                go_wp2_with fail
                go_roundw
                case rel => exact ⟨j + 1,by go_num,hjl,⟨by rw [SU2.out];exact HO.out.1,HO.out.2⟩⟩
                case measure => simp [intOf];omega
            · have hjn : j = l0_0.length := by omega
              subst hjn
              go_wp2_with fail
              go_ret2
              exact ⟨_,rfl,by rw [MQ.out.1,MQ.out.2];exact Kd.R_lower HO.out.1 (below_then HB1.out HB1.out.size HB4.out).size,below_then BW4.out BW4.out.size HO.out.2⟩
  · rw [if_neg hF] at h
    cases h
end Go.Proofs.Ytmdkcecbklgihaa.PA
