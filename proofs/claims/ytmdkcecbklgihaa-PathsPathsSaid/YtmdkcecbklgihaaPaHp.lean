/- paths.Path: the way between two routers, as the document has it. Conditions: weights and the limit are words. -/
import Derived.Test.YtmdkcecbklgihaaPaGp
namespace Go.Proofs.Ytmdkcecbklgihaa.PA
open Go.RowKit Go.Proofs.YtmdkcecbklgihaaW.PrintWords Go.Proofs.YtmdkcecbklgihaaW.PrintLast Go.Proofs.YtmdkcecbklgihaaW.PrintMore
open Classical
set_option linter.unusedVariables false
set_option linter.unusedSimpArgs false
theorem trip {α β γ : Type} {a a' : α} {b b' : β} {c c' : γ} (h : (a,b,c) = (a',b',c')) : a = a' ∧ b = b' ∧ c = c' := by
  obtain ⟨h1,h2⟩ := Prod.mk.inj h
  exact ⟨h1,(Prod.mk.inj h2).1,(Prod.mk.inj h2).2⟩
theorem two_ids (W : World) (a b : Int) : Kd.C (Kd.int .i64) (W.alloc (.cells #[.int .i64 a,.int .i64 b] 3)) (some ⟨W.heap.size,0,none⟩) [a,b].length [a,b] :=
  (Kd.R_reads' (Kd.R_of_own (ok := fun _ => True) (own_lit W 0 3 .i64 [a,b] (Nat.zero_le _) (by simp)) (fun _ _ => trivial))).2.2
theorem ask2_lim {nodes : List S40} {links : List S74} {mx : Nat} {a b : Int} (h : lE mx ≠ 0) : ask2 nodes links mx a b = lE mx := by
  unfold ask2
  rw [ask_lim h,if_neg h]
theorem ask2_ck {nodes : List S40} {links : List S74} {mx : Nat} {a b : Int} (h0 : lE mx = 0) (h : ckSpec nodes links ≠ 0) : ask2 nodes links mx a b = ckSpec nodes links := by
  unfold ask2
  rw [ask_ck h0 h,if_neg h]
theorem ask2_none {nodes : List S40} {links : List S74} {mx : Nat} {a b id : Int} (h0 : lE mx = 0) (h : ckSpec nodes links = 0) (hid : id ∈ [a,b]) (h2 : nodes.length ≤ plc nodes id) : ask2 nodes links mx a b = 4 := by
  unfold ask2
  by_cases ha : plc nodes a < nodes.length
  · rw [ask_ok h0 h ha,if_pos rfl]
    simp only [List.mem_cons,List.not_mem_nil,or_false] at hid
    rcases hid with rfl | rfl
    · omega
    · exact ask_none h0 h h2
  · rw [ask_none h0 h (by omega),if_neg (by decide)]
theorem ask2_ok {nodes : List S40} {links : List S74} {mx : Nat} {a b : Int} (h0 : lE mx = 0) (h : ckSpec nodes links = 0) (h2 : plc nodes a < nodes.length) (h3 : plc nodes b < nodes.length) : ask2 nodes links mx a b = 0 := by
  unfold ask2
  rw [ask_ok h0 h h2,if_pos rfl,ask_ok h0 h h3]
noncomputable def paths_Path.f (l0_0 : List S40) (l0_1 : List S74) (a1 : Nat) (a2 : Int) (a3 : Int) : Option (List Int × Nat × Int) := if Fits l0_1 ∧ a1 < 18446744073709551616 then some (pathSpec l0_0 l0_1 a1 a2 a3) else none
set_option maxHeartbeats 2500000 in
set_option maxRecDepth 100000 in
theorem paths_Path.calls (A0_0 : Option Addr) (c0_0 : Nat) (l0_0 : List (S40)) (A0_1 : Option Addr) (c0_1 : Nat) (l0_1 : List (S74)) (a1 : Nat) (a2 : Int) (a3 : Int) (r1 : List Int) (r2 : Nat) (r3 : Int) (w : World) (hr0_0 : Kd.C k40 w A0_0 l0_0.length l0_0) (hc0_0 : l0_0.length ≤ c0_0) (hr0_1 : Kd.C k74 w A0_1 l0_1.length l0_1) (hc0_1 : l0_1.length ≤ c0_1) (h : paths_Path.f l0_0 l0_1 a1 a2 a3 = some (r1,r2,r3)) :
    Calls Try.prog 21 #[.agg #[.slice A0_0 l0_0.length c0_0,.slice A0_1 l0_1.length c0_1],.float .f64 a1,.int .i64 a2,.int .i64 a3] w fun e w' => ∃ v0_ : Value,e = .returned (.tuple #[v0_,.float .f64 r2,.int .i64 r3]) ∧ Kd.R (Kd.int .i64) 3 w' w.heap.size (fun _ => True) v0_ r1 ∧ Below w.heap.size w w' := by
  unfold paths_Path.f at h
  by_cases hF : Fits l0_1 ∧ a1 < 18446744073709551616
  · rw [if_pos hF] at h
    obtain ⟨K,hK⟩ := graph_tells (nodes := l0_0) hF.1
    have hL := (limit_all a1 hF.2).2.1
    have hC : graph_Check.f K l0_0 l0_1 = some (ckSpec l0_0 l0_1) := hK K (Nat.le_refl _)
    have SP := Aside0.mk (Option.some.inj h)
    have FI := Aside0.mk hF
    have R0 := Aside0.mk hr0_0
    have R1 := Aside0.mk hr0_1
    have LL := Aside0.mk hL
    have CC := Aside0.mk hC
    clear hK hC hL h hF hr0_0 hr0_1
    have hu25 := Try.underlying25
    have hu27 := Try.underlying27
    go_enter Try.func21,Try.ntmps21
    go_wp2_with fail
    have hb2 : Below w.heap.size w ((w.alloc (Obj.cells #[Value.slice A0_0 l0_0.length c0_0,Value.slice A0_1 l0_1.length c0_1] 25)).alloc (Obj.cells #[Value.int IntKind.i64 a2,Value.int IntKind.i64 a3] 3)) := below_alloc (below_alloc (Below.refl _ _) _) _
    refine (made_calls K (lE a1) (ckSpec l0_0 l0_1) A0_0 c0_0 l0_0 A0_1 c0_1 l0_1 a1 (some ⟨w.heap.size + 1,0,none⟩) 2 [a2,a3] _ (Kd.C_below R0.out hb2) hc0_0 (Kd.C_below R1.out hb2) hc0_1 (by simpa using two_ids (w.alloc (Obj.cells #[Value.slice A0_0 l0_0.length c0_0,Value.slice A0_1 l0_1.length c0_1] 25)) a2 a3) LL.out CC.out (fun h0 => by
      have G := ckSpec_zero _ _ h0
      exact ⟨G.n256,G.l4096,G.nodup,G.ends⟩)).mono ?_
    rintro x1 w1 ⟨hb1,ho⟩
    have HB1 : Aside0 (Below w.heap.size w w1) := ⟨below_then hb2 hb2.size hb1⟩
    have SZ : Aside0 (w.heap.size ≤ ((w.alloc (Obj.cells #[Value.slice A0_0 l0_0.length c0_0,Value.slice A0_1 l0_1.length c0_1] 25)).alloc (Obj.cells #[Value.int IntKind.i64 a2,Value.int IntKind.i64 a3] 3)).heap.size) := ⟨hb2.size⟩
    have BX : Aside0 (w1.heap[w.heap.size]? = some (.cells #[.slice A0_0 l0_0.length c0_0,.slice A0_1 l0_1.length c0_1] 25 (0,0))) := ⟨blk_below (blk_below (heap_alloc_new w _) (below_alloc (Below.refl _ _) _)) hb1⟩
    clear hb2 hb1
    rcases ho with ⟨h1,rfl⟩ | ⟨h1,⟨h2,rfl⟩ | ⟨h2,h3,rfl⟩ | ⟨h2,h3,g,rfl,h4,h5⟩⟩
    · have heb : (lE a1 == 0) = false := by simpa using h1
      have heb1 : (lE a1 != 0) = true := by simpa using h1
      obtain ⟨rfl,rfl,rfl⟩ := trip ((pathSpec_no (ask2_lim h1) h1).symm.trans SP.out)
      go_wp2_with fail
      go_ret3
      exact ⟨_,rfl,Kd.R_nil _ _ _ _ _,HB1.out⟩
    · have heb : (ckSpec l0_0 l0_1 == 0) = false := by simpa using h2
      have heb1 : (ckSpec l0_0 l0_1 != 0) = true := by simpa using h2
      obtain ⟨rfl,rfl,rfl⟩ := trip ((pathSpec_no (ask2_ck h1 h2) h2).symm.trans SP.out)
      go_wp2_with fail
      go_ret3
      exact ⟨_,rfl,Kd.R_nil _ _ _ _ _,HB1.out⟩
    · obtain ⟨id,hid,hpl⟩ := h3
      obtain ⟨rfl,rfl,rfl⟩ := trip ((pathSpec_no (ask2_none h1 h2 hid hpl) (by decide)).symm.trans SP.out)
      go_wp2_with fail
      go_ret3
      exact ⟨_,rfl,Kd.R_nil _ _ _ _ _,HB1.out⟩
    · have hpl := h3 a2 (by simp)
      have hpl3 := h3 a3 (by simp)
      have NA := Aside0.mk h5
      obtain ⟨B0,d0,B1,d1,mb,B3,d3,k1,k2,k3,k4,k5,k6⟩ := h5
      have n3 : w1.cell? ⟨g,3,none⟩ = some (.map (some mb)) := (blk_cell k1 3).trans rfl
      have lk : ∀ W_ id,plc l0_0 id < l0_0.length → Below w1.heap.size w1 W_ → (Instr.lookup 63 (.map (some mb)) (.int .i64 id) false).run Try.prog W_ = .ok (.int .i64 (plc l0_0 id : Int)) W_ := fun W_ id hpl hW_ => by
        have h9 := run_look1 (P := Try.prog) (t := 63) (et := 3) (key_int Try.underlying3) Try.underlying63 (k6.below hW_) id (.int .i64 0) (by kernel_rfl)
        rw [mget_places,if_pos hpl] at h9
        exact h9
      have LK := Aside0.mk lk
      have N3 := Aside0.mk k1
      have HASK := Aside0.mk (ask2_ok h1 h2 hpl hpl3)
      obtain ⟨T,-,-⟩ := askSpec_zero FI.out.2 (ask_ok (id := a3) h1 h2 hpl3)
      have TT := Aside0.mk T
      have hn := T.good.n256
      have hu63 := Try.underlying63
      have hu66 := Try.underlying66
      have hu34 := Try.underlying34
      have n3 : w1.cell? ⟨g,3,none⟩ = some (.map (some mb)) := (blk_cell k1 3).trans rfl
      have lk3 := lk w1 a3 hpl3 (Below.refl _ _)
      clear k1 k2 k3 k4 k5 k6 h3 h4 lk T
      go_wp2_with fail
      clear n3 lk3
      refine (dists_net TT.out.good FI.out.1 TT.out.lim TT.out.low TT.out.high hpl3 _ NA.out).mono ?_
      rintro e w4 ⟨b,rfl,hb1,hb2,hb3⟩
      have HB4 : Aside0 (Below w1.heap.size w1 w4) := ⟨hb3⟩
      have DD := Aside0.mk hb2
      clear hb1 hb2 hb3
      obtain ⟨M,hM⟩ : ∃ M,mqOf a1 = M := ⟨_,rfl⟩
      obtain ⟨q,hq⟩ : ∃ q,dQ l0_0 l0_1 M (plc l0_0 a3) = q := ⟨_,rfl⟩
      have hql : q.length = l0_0.length := by
        rw [← hq,← hM]
        exact dQ_len TT.out.good FI.out.1 TT.out.low TT.out.high TT.out.there
      have hqM : ∀ p,q.getD p 0 ≤ M := by
        rw [← hq,← hM]
        exact dQ_le TT.out.good FI.out.1 TT.out.low TT.out.high TT.out.there
      have hMh : M ≤ 4294967296 := by rw [← hM];exact TT.out.high
      rw [hM,hq] at DD
      have MQ := Aside0.mk (And.intro hM hq)
      clear hM hq
      have n3b : w4.cell? ⟨g,3,none⟩ = some (.map (some mb)) := (HB4.out.cell (blk_lt N3.out)).trans ((blk_cell N3.out 3).trans rfl)
      have lkb := LK.out w4 a2 hpl HB4.out
      have dq : w4.cell? ⟨b,plc l0_0 a2,none⟩ = some (.float .f64 (encM M (q.getD (plc l0_0 a2) 0))) := (blk_cell DD.out _).trans (dcells_at _ q _ (by rw [hql];exact hpl))
      have hplz : (plc l0_0 a2 : Int) < (l0_0.length : Int) := by omega
      have INF := Aside0.mk (isInf_enc M (q.getD (plc l0_0 a2) 0) hMh (hqM _))
      obtain ⟨qa,hqa⟩ : ∃ qa,q.getD (plc l0_0 a2) 0 = qa := ⟨_,rfl⟩
      have hqaM := hqM (plc l0_0 a2)
      rw [hqa] at dq INF hqaM
      have QA := Aside0.mk hqa
      clear hqa
      go_wp2_with fail
      refine (math_IsInf.calls _ 1 _ _ INF.out).mono ?_
      rintro e w5 ⟨rfl,hb5⟩
      have HB5 : Aside0 (Below w1.heap.size w1 w5) := ⟨below_then HB4.out HB4.out.size hb5.below⟩
      have D5 := Aside0.mk (blk_below DD.out hb5.below)
      clear hb5 dq lkb n3b
      by_cases hfar : M ≤ qa
      · have hsp := pathSpec_far HASK.out (by rw [MQ.out.1,MQ.out.2,QA.out];exact hfar)
        obtain ⟨rfl,rfl,rfl⟩ := trip (hsp.symm.trans SP.out)
        rw [decide_eq_true hfar]
        obtain rfl : qa = M := by omega
        rw [encM_top]
        go_wp2_with fail
        go_ret3
        exact ⟨_,rfl,Kd.R_nil _ _ _ _ _,below_then HB1.out HB1.out.size HB5.out⟩
      · have hsp := pathSpec_ok HASK.out (by rw [MQ.out.1,MQ.out.2,QA.out];exact hfar)
        rw [MQ.out.1,MQ.out.2,QA.out] at hsp
        obtain ⟨rfl,rfl,rfl⟩ := trip (hsp.symm.trans SP.out)
        rw [decide_eq_false hfar,encM_lt M qa (by omega)]
        go_wp2_with fail
        have hlim : bq M = a1 := by rw [← MQ.out.1];exact TT.out.lim
        have hlow : 4 ≤ M := by rw [← MQ.out.1];exact TT.out.low
        have D5' : Aside0 (w5.heap[b]? = some (.cells (dcells (encM M) (dQ l0_0 l0_1 M (plc l0_0 a3))).toArray 26 (0,0))) := ⟨by rw [MQ.out.2];exact D5.out⟩
        obtain ⟨RES,hRES⟩ : ∃ RES,walkOn l0_0 l0_1 M q a3 qa a2 [a2] = RES := ⟨_,rfl⟩
        have RR := Aside0.mk hRES
        have R5 : Aside0 (Kd.R (Kd.int .i64) 3 (w5.alloc (Obj.cells #[Value.int IntKind.i64 a2] 3)) w5.heap.size (fun _ => True) (.slice (some ⟨w5.heap.size,0,none⟩) 1 1) [a2]) := ⟨Kd.R_of_own (own_lit w5 w5.heap.size 3 .i64 [a2] (Nat.le_refl _) (by simp)) (fun _ _ => trivial)⟩
        have LIM := Aside0.mk (And.intro hlim (And.intro hlow hMh))
        have HPL := Aside0.mk (And.intro hpl hpl3)
        have QE := Aside0.mk (And.intro QA.out (by omega : qa < M))
        clear hRES hlim hlow hsp
        go_loopg [2,15] qa (fun kq vf vl wr => ∃ (id : Int) (L : List Int),vf = .int .i64 id ∧ Aside0 (plc l0_0 id < l0_0.length ∧ q.getD (plc l0_0 id) 0 ≤ kq ∧ q.getD (plc l0_0 id) 0 < M ∧ walkOn l0_0 l0_1 M q a3 kq id L = RES ∧ L.length + kq ≤ qa + 1) ∧ Aside0 (Kd.R (Kd.int .i64) 3 wr w5.heap.size (fun _ => True) vl L ∧ Below w5.heap.size w5 wr))
        case atStart => exact ⟨a2,[a2],rfl,⟨HPL.out.1,by rw [QE.out.1];exact Nat.le_refl _,by rw [QE.out.1];exact QE.out.2,RR.out,by simp;omega⟩,⟨R5.out,below_alloc (Below.refl _ _) _⟩⟩
        case round =>
          obtain ⟨id,L,rfl,HI,HO⟩ := hrel
          by_cases he : id = a3
          · have heb : (id == a3) = true := by simpa using he
            have heb1 : (id != a3) = false := by simpa using he
            have hres : L = RES := by
              rw [← HI.out.2.2.2.1]
              cases gk with
              | zero => rfl
              | succ k =>
                show L = (if id = a3 then L else _)
                rw [if_pos he]
            go_wp2_with fail
            go_ret3
            exact ⟨_,rfl,by rw [RR.out,← hres];exact Kd.R_lower HO.out.1 (below_then HB1.out HB1.out.size HB5.out).size,below_then (below_then HB1.out HB1.out.size HB5.out) (below_then HB1.out HB1.out.size HB5.out).size HO.out.2⟩
          · have heb : (id == a3) = false := by simpa using he
            have heb1 : (id != a3) = true := by simpa using he
            have hne : plc l0_0 id ≠ plc l0_0 a3 := by
              intro h
              apply he
              rw [← plc_at HI.out.1,h,plc_at HPL.out.2]
            obtain ⟨e,e1,e2,e3,e4,e5,e6,e7⟩ := hop_tells TT.out.good FI.out.1 LIM.out.2.1 LIM.out.2.2 HPL.out.2 HI.out.1 hne (by rw [MQ.out.2];exact HI.out.2.2.1)
            rw [MQ.out.2] at e2 e3 e6 e7
            obtain ⟨hp,hhp⟩ : ∃ hp,hopTo l0_0 l0_1 M q (plc l0_0 a3) id = hp := ⟨_,rfl⟩
            rw [hhp] at e6 e7
            have HOP : Aside0 (plc l0_0 hp < l0_0.length ∧ q.getD (plc l0_0 hp) 0 + 1 ≤ q.getD (plc l0_0 id) 0 ∧ q.getD (plc l0_0 hp) 0 < M) := ⟨by rw [e7];exact e4,by rw [e7];omega,by rw [e7];exact e2⟩
            have HH := Aside0.mk hhp
            have HJ := Aside0.mk hne
            obtain ⟨k1,rfl⟩ : ∃ k1,gk = k1 + 1 := ⟨gk - 1,by have := HI.out.2.1;have := HOP.out.2.1;omega⟩
            have WK : Aside0 (walkOn l0_0 l0_1 M q a3 k1 hp (L ++ [hp]) = RES ∧ (L ++ [hp]).length + k1 ≤ qa + 1 ∧ L.length ≤ 4294967297) := ⟨by
              have h9 := HI.out.2.2.2.1
              have h10 : (if id = a3 then L else walkOn l0_0 l0_1 M q a3 k1 (hopTo l0_0 l0_1 M q (plc l0_0 a3) id) (L ++ [hopTo l0_0 l0_1 M q (plc l0_0 a3) id])) = RES := h9
              rwa [if_neg he,hhp] at h10,by have := HI.out.2.2.2.2;simp only [List.length_append,List.length_singleton];omega,by have := HI.out.2.2.2.2;omega⟩
            clear e1 e2 e3 e4 e5 e6 e7 hhp hne
            have HBW : Aside0 (Below w1.heap.size w1 wr.drew) := ⟨below_then HB5.out HB5.out.size (HO.out.2.trans (below_drew (Below.refl _ _)))⟩
            have n3c : wr.cell? ⟨g,3,none⟩ = some (.map (some mb)) := (HBW.out.cell (blk_lt N3.out)).trans ((blk_cell N3.out 3).trans rfl)
            have lk0 := LK.out wr.drew id HI.out.1 HBW.out
            have lk1 := LK.out wr.drew a3 HPL.out.2 HBW.out
            have HNET : Aside0 (NetAt wr.drew g l0_0 l0_1 a1 (adjB l0_0 l0_1)) := ⟨NA.out.below HBW.out⟩
            have HDD : Aside0 (wr.drew.heap[b]? = some (.cells (dcells (encM M) (dQ l0_0 l0_1 M (plc l0_0 a3))).toArray 26 (0,0))) := ⟨blk_below D5'.out (HO.out.2.trans (below_drew (Below.refl _ _)))⟩
            have HOD : Aside0 (Kd.R (Kd.int .i64) 3 wr.drew w5.heap.size (fun _ => True) u15 L ∧ Below w5.heap.size w5 wr.drew) := ⟨Kd.R_drew HO.out.1,HO.out.2.trans (below_drew (Below.refl _ _))⟩
            go_wp2_with fail
            go_region_with (go_at_call 32
                            have C32 := next_net TT.out.good FI.out.1 LIM.out.1 LIM.out.2.1 LIM.out.2.2 HI.out.1 HPL.out.2 _ HNET.out HDD.out
                            refine C32.mono ?_
                            clear C32
                            rintro e w8 ⟨he8,hb8⟩
                            rw [MQ.out.2] at he8
                            replace he8 := he8.trans (by rw [show hopOf l0_0 M ((adjQ wqOf l0_0 l0_1).getD (plc l0_0 id) []) q (plc l0_0 id) (plc l0_0 a3) = hp from HH.out])
                            subst he8
                            have HO8 : Aside0 (Kd.R (Kd.int .i64) 3 w8 w5.heap.size (fun _ => True) u15 L ∧ Below w5.heap.size w5 w8) := ⟨Kd.R_below HOD.out.1 hb8,below_then HOD.out.2 HOD.out.2.size hb8⟩
                            clear hb8)
            all_goals (
              go_wp2_with ((with_reducible refine gate_builtin (b := .append) (xs := #[.tmp 68,.tmp 70]) rfl ?_);at_builtin;refine Kd.R_append (Kd.int .i64) (w0 := w5) w5.heap.size rfl (.tmp 68) (.tmp 70) 27 3 (.int .i64 0) 8 rfl Try.underlying27 info3 rfl (by decide) (by omega) u15 L hp [.int .i64 hp] (fun _ => True) (fun _ => False) rfl rfl ?aP (fun _ hk => hk.elim) ?aF ?aO ?aB ?aS ?aL ?_;(case aP => exact rfl);(case aB => exact HO8.out.2);(case aF => exact (fun _ _ => trivial));(case aO => exact HO8.out.1);(case aS => exact HO8.out.2.size);(case aL => have := WK.out.2.2;omega);intro v9 w9 ho hb9 hg hat;have HO9 := Aside0.mk (And.intro ho hb9);clear ho hb9 hg hat)
              go_roundg k1
              case measure => omega
              case rel => exact ⟨hp,L ++ [hp],rfl,⟨HOP.out.1,by have := HI.out.2.1;have := HOP.out.2.1;omega,HOP.out.2.2,WK.out.1,WK.out.2.1⟩,HO9⟩)
  · rw [if_neg hF] at h
    cases h
end Go.Proofs.Ytmdkcecbklgihaa.PA
