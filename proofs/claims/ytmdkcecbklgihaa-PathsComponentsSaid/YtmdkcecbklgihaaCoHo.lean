/- paths.Wide: the greatest distance, as the document has it. Conditions: weights and the limit are words. -/
import Derived.Test.YtmdkcecbklgihaaCoGj
import Derived.Test.YtmdkcecbklgihaaCcHy
namespace Go.Proofs.Ytmdkcecbklgihaa.PA
open Go.RowKit Go.Proofs.YtmdkcecbklgihaaW.PrintWords Go.Proofs.YtmdkcecbklgihaaW.PrintLast Go.Proofs.YtmdkcecbklgihaaW.PrintMore
open Classical
set_option linter.unusedVariables false
set_option linter.unusedSimpArgs false
theorem max2_calls (a0 a1 r : Nat) (w : World) (h : (if (FloatKind.f64.format.order a0 a1 == some .gt) = true then a0 else a1) = r) : Calls Try.prog 47 #[.float .f64 a0,.float .f64 a1] w fun e w' => e = .returned (.float .f64 r) ∧ Drawn0 w w' := by
  by_cases c3 : (FloatKind.f64.format.order a0 a1 == some .gt) = true
  · rw [if_pos c3] at h
    subst h
    go_enter Try.func47,Try.ntmps47
    go_wp2
    go_ret
    exact ⟨rfl,Drawn0.refl _⟩
  rw [if_neg c3] at h
  have c4 : (FloatKind.f64.format.order a0 a1 == some .gt) = false := by simpa using c3
  subst h
  go_enter Try.func47,Try.ntmps47
  go_wp2
  go_ret
  exact ⟨rfl,Drawn0.refl _⟩
def wideStep (M w d : Nat) : Nat := if d < M then max w d else w
noncomputable def wideTo (nodes : List S40) (links : List S74) (M j : Nat) : Nat := (List.range j).foldl (fun w t => (dQ nodes links M t).foldl (wideStep M) w) 0
theorem wideTo_succ (nodes : List S40) (links : List S74) (M j : Nat) : wideTo nodes links M (j + 1) = (dQ nodes links M j).foldl (wideStep M) (wideTo nodes links M j) := by
  unfold wideTo
  rw [List.range_succ,List.foldl_append]
  rfl
theorem wide_lt {M : Nat} (q : List Nat) : ∀ (w : Nat),w < M → q.foldl (wideStep M) w < M := by
  induction q with
  | nil => intro w h;exact h
  | cons d q ih =>
    intro w h
    refine ih _ ?_
    unfold wideStep
    split <;> omega
theorem wideTo_lt {nodes : List S40} {links : List S74} {M : Nat} (hM : 0 < M) : ∀ j,wideTo nodes links M j < M
  | 0 => hM
  | j + 1 => by
    rw [wideTo_succ]
    exact wide_lt _ _ (wideTo_lt hM j)
theorem take_foldl (M : Nat) (q : List Nat) (w c : Nat) (h : c < q.length) : (q.take (c + 1)).foldl (wideStep M) w = wideStep M ((q.take c).foldl (wideStep M) w) (q.getD c 0) := by
  rw [List.take_add_one,List.getElem?_eq_getElem h,List.foldl_append]
  simp [List.getD_eq_getElem?_getD,h]
noncomputable def wideSpec (nodes : List S40) (links : List S74) (mx : Nat) : Nat × Int := if lE mx = 0 then (if ckSpec nodes links = 0 then (bq (wideTo nodes links (mqOf mx) nodes.length),0) else (0,ckSpec nodes links)) else (0,lE mx)
theorem wideSpec_lim {nodes : List S40} {links : List S74} {mx : Nat} (h : lE mx ≠ 0) : wideSpec nodes links mx = (0,lE mx) := by
  unfold wideSpec
  rw [if_neg h]
theorem wideSpec_ck {nodes : List S40} {links : List S74} {mx : Nat} (h0 : lE mx = 0) (h : ckSpec nodes links ≠ 0) : wideSpec nodes links mx = (0,ckSpec nodes links) := by
  unfold wideSpec
  rw [if_pos h0,if_neg h]
theorem wideSpec_ok {nodes : List S40} {links : List S74} {mx : Nat} (h0 : lE mx = 0) (h : ckSpec nodes links = 0) : wideSpec nodes links mx = (bq (wideTo nodes links (mqOf mx) nodes.length),0) := by
  unfold wideSpec
  rw [if_pos h0,if_pos h]
theorem no_ids (W : World) : Kd.C (Kd.int .i64) W none ([] : List Int).length [] := (Kd.R_reads' (Kd.R_nil (Kd.int .i64) 3 W 0 (fun _ => True))).2.2
noncomputable def paths_Wide.f (l0_0 : List S40) (l0_1 : List S74) (a1 : Nat) : Option (Nat × Int) := if Fits l0_1 ∧ a1 < 18446744073709551616 then some (wideSpec l0_0 l0_1 a1) else none
set_option maxHeartbeats 1500000 in
set_option maxRecDepth 100000 in
theorem paths_Wide.calls (A0_0 : Option Addr) (c0_0 : Nat) (l0_0 : List (S40)) (A0_1 : Option Addr) (c0_1 : Nat) (l0_1 : List (S74)) (a1 : Nat) (r1 : Nat) (r2 : Int) (w : World) (hr0_0 : Kd.C k40 w A0_0 l0_0.length l0_0) (hc0_0 : l0_0.length ≤ c0_0) (hr0_1 : Kd.C k74 w A0_1 l0_1.length l0_1) (hc0_1 : l0_1.length ≤ c0_1) (h : paths_Wide.f l0_0 l0_1 a1 = some (r1,r2)) :
    Calls Try.prog 29 #[.agg #[.slice A0_0 l0_0.length c0_0,.slice A0_1 l0_1.length c0_1],.float .f64 a1] w fun e w' => e = .returned (.tuple #[.float .f64 r1,.int .i64 r2]) ∧ Below w.heap.size w w' := by
  unfold paths_Wide.f at h
  by_cases hF : Fits l0_1 ∧ a1 < 18446744073709551616
  rotate_left
  · rw [if_neg hF] at h
    cases h
  rw [if_pos hF] at h
  obtain ⟨K,hK⟩ := graph_tells (nodes := l0_0) hF.1
  have hL := (limit_all a1 hF.2).2.1
  have hC : graph_Check.f K l0_0 l0_1 = some (ckSpec l0_0 l0_1) := hK K (Nat.le_refl _)
  have SP := Aside0.mk (Option.some.inj h)
  have FI := Aside0.mk hF
  have R0 := Aside0.mk hr0_0
  have R1 := Aside0.mk hr0_1
  have LL := Aside0.mk hL
  have CC := Aside0.mk hC
  clear hK hC hL h hF hr0_0 hr0_1
  have hu25 := Try.underlying25
  have hu27 := Try.underlying27
  go_enter Try.func29,Try.ntmps29
  go_wp2_with fail
  have hb2 : Below w.heap.size w (w.alloc (Obj.cells #[Value.slice A0_0 l0_0.length c0_0,Value.slice A0_1 l0_1.length c0_1] 25)) := below_alloc (Below.refl _ _) _
  refine (made_calls K (lE a1) (ckSpec l0_0 l0_1) A0_0 c0_0 l0_0 A0_1 c0_1 l0_1 a1 none 0 [] _ (Kd.C_below R0.out hb2) hc0_0 (Kd.C_below R1.out hb2) hc0_1 (no_ids _) LL.out CC.out (fun h0 => by
    have G := ckSpec_zero _ _ h0
    exact ⟨G.n256,G.l4096,G.nodup,G.ends⟩)).mono ?_
  rintro x1 w1 ⟨hb1,ho⟩
  have HB1 : Aside0 (Below w.heap.size w w1) := ⟨below_then hb2 hb2.size hb1⟩
  have BX : Aside0 (w1.heap[w.heap.size]? = some (.cells #[.slice A0_0 l0_0.length c0_0,.slice A0_1 l0_1.length c0_1] 25 (0,0))) := ⟨blk_below (heap_alloc_new w _) hb1⟩
  clear hb2 hb1
  rcases ho with ⟨h1,rfl⟩ | ⟨h1,⟨h2,rfl⟩ | ⟨h2,⟨id,hid,_⟩,rfl⟩ | ⟨h2,h3,g,rfl,h4,h5⟩⟩
  · have heb : (lE a1 == 0) = false := by simpa using h1
    have heb1 : (lE a1 != 0) = true := by simpa using h1
    obtain ⟨rfl,rfl⟩ := Prod.mk.inj ((wideSpec_lim h1).symm.trans SP.out)
    go_wp2_with fail
    go_ret2
    exact ⟨rfl,HB1.out⟩
  · have heb : (ckSpec l0_0 l0_1 == 0) = false := by simpa using h2
    have heb1 : (ckSpec l0_0 l0_1 != 0) = true := by simpa using h2
    obtain ⟨rfl,rfl⟩ := Prod.mk.inj ((wideSpec_ck h1 h2).symm.trans SP.out)
    go_wp2_with fail
    go_ret2
    exact ⟨rfl,HB1.out⟩
  · cases hid
  obtain ⟨rfl,rfl⟩ := Prod.mk.inj ((wideSpec_ok h1 h2).symm.trans SP.out)
  have NA := Aside0.mk h5
  have G := ckSpec_zero _ _ h2
  obtain ⟨k1,k2,k3⟩ := mqOf_tells ((limit_all a1 FI.out.2).2.2 h1)
  obtain ⟨M,hM⟩ : ∃ M,mqOf a1 = M := ⟨_,rfl⟩
  rw [hM] at k1 k2 k3
  have LIM := Aside0.mk (And.intro k1 (And.intro k2 k3))
  have GG := Aside0.mk G
  have MQ := Aside0.mk hM
  have hn := G.n256
  have hu63 := Try.underlying63
  have hu66 := Try.underlying66
  have hu22 := Try.underlying22
  have hu34 := Try.underlying34
  have b0 : w1.cell? ⟨w.heap.size,0,none⟩ = some (.slice A0_0 l0_0.length c0_0) := (blk_cell BX.out 0).trans rfl
  clear k1 k2 k3 h3 h4 h5 hM G
  go_wp2_with fail
  go_loopg [8,24] l0_0.length (fun kq vw vi wr => ∃ (j : Nat),vw = .float .f64 (bq (wideTo l0_0 l0_1 M j)) ∧ vi = .int .i64 (j : Int) ∧ j + kq = l0_0.length ∧ Aside0 (Below w1.heap.size w1 wr))
  case atStart => exact ⟨0,by rw [show wideTo l0_0 l0_1 M 0 = 0 from rfl,bq_zero],rfl,by simp,⟨Below.refl _ _⟩⟩
  case round =>
    obtain ⟨j,rfl,rfl,hj,HO⟩ := hrel
    by_cases hjl : j < l0_0.length
    rotate_left
    · have hjn : j = l0_0.length := by omega
      subst hjn
      go_wp2_with fail
      go_ret2
      exact ⟨by rw [MQ.out];rfl,below_then HB1.out HB1.out.size HO.out⟩
    have hjz : (j : Int) < (l0_0.length : Int) := by omega
    go_wp2_with fail
    refine (dists_net GG.out FI.out.1 LIM.out.1 LIM.out.2.1 LIM.out.2.2 hjl _ (NA.out.below HO.out)).mono ?_
    rintro e w4 ⟨b,rfl,hb1,hb2,hb3⟩
    have HB4 : Aside0 (Below w1.heap.size w1 w4) := ⟨below_then HO.out HO.out.size hb3⟩
    have DD := Aside0.mk hb2
    clear hb1 hb2 hb3
    obtain ⟨q,hq⟩ : ∃ q,dQ l0_0 l0_1 M j = q := ⟨_,rfl⟩
    have hql : q.length = l0_0.length := by
      rw [← hq]
      exact dQ_len GG.out FI.out.1 LIM.out.2.1 LIM.out.2.2 hjl
    have hqM : ∀ p,q.getD p 0 ≤ M := by
      rw [← hq]
      exact dQ_le GG.out FI.out.1 LIM.out.2.1 LIM.out.2.2 hjl
    have hWl : wideTo l0_0 l0_1 M j < M := wideTo_lt (by have := LIM.out.2.1;omega) j
    have hsucc : wideTo l0_0 l0_1 M (j + 1) = q.foldl (wideStep M) (wideTo l0_0 l0_1 M j) := by rw [wideTo_succ,hq]
    have hMh := LIM.out.2.2
    rw [hq] at DD
    obtain ⟨W0,hW0⟩ : ∃ W0,wideTo l0_0 l0_1 M j = W0 := ⟨_,rfl⟩
    rw [hW0] at hWl hsucc ⊢
    have SU := Aside0.mk hsucc
    clear hq hsucc hW0
    go_wp2_with fail
    go_loopw [8,31] (fun vw vi wr => ∃ (c : Nat),vw = .float .f64 (bq ((q.take c).foldl (wideStep M) W0)) ∧ vi = .int .i64 (c : Int) ∧ c ≤ l0_0.length ∧ Aside0 (Below w4.heap.size w4 wr)) (fun _ vi _ => l0_0.length - (intOf vi).toNat)
    case atStart => exact ⟨0,rfl,rfl,Nat.zero_le _,⟨Below.refl _ _⟩⟩
    case round =>
      obtain ⟨c,rfl,rfl,hc,HI⟩ := hrel
      by_cases hcl : c < l0_0.length
      rotate_left
      · have hcn : c = l0_0.length := by omega
        subst hcn
        rw [List.take_of_length_le (by omega : q.length ≤ l0_0.length)]
        go_wp2_with fail
        go_roundg (gk - 1)
        case measure => omega
        case rel => exact ⟨j + 1,by rw [SU.out],by go_num,by omega,Aside0.mk (below_then HB4.out HB4.out.size HI.out)⟩
      have hcz : (c : Int) < (l0_0.length : Int) := by omega
      have hdw : wr.heap[b]? = some (.cells (dcells (encM M) q).toArray 26 (0,0)) := blk_below DD.out HI.out
      have dq : wr.cell? ⟨b,c,none⟩ = some (.float .f64 (encM M (q.getD c 0))) := (blk_cell hdw c).trans (dcells_at _ q c (by rw [hql];exact hcl))
      have htk := take_foldl M q W0 c (by rw [hql];exact hcl)
      have hwl := wide_lt (M := M) (q.take c) W0 hWl
      obtain ⟨wc,hwc⟩ : ∃ wc,(q.take c).foldl (wideStep M) W0 = wc := ⟨_,rfl⟩
      obtain ⟨qc,hqc⟩ : ∃ qc,q.getD c 0 = qc := ⟨_,rfl⟩
      have hqcM := hqM c
      rw [hqc] at dq htk hqcM
      rw [hwc] at htk hwl ⊢
      have TK := Aside0.mk htk
      have INF := Aside0.mk (isInf_enc M qc hMh hqcM)
      clear hdw htk hwc hqc
      by_cases hA : M ≤ qc
      · rw [decide_eq_true hA] at INF
        go_wp2_with fail
        refine (math_IsInf.calls _ 1 _ _ INF.out).mono ?_
        rintro e w6 ⟨rfl,hb6⟩
        have HI6 := Aside0.mk (below_then HI.out HI.out.size hb6.below)
        clear hb6
        go_wp2_with fail
        go_roundw
        case rel => exact ⟨c + 1,by rw [TK.out];unfold wideStep;rw [if_neg (by omega)],by go_num,hcl,HI6⟩
        case measure => simp [intOf];omega
      rw [decide_eq_false hA] at INF
      rw [encM_lt M qc (by omega)] at dq INF
      have hmax : (if (FloatKind.f64.format.order (bq wc) (bq qc) == some .gt) = true then bq wc else bq qc) = bq (max wc qc) := by
        rw [order_bq _ _ (by omega) (by omega)]
        by_cases hg : qc < wc
        · rw [Nat.compare_eq_gt.2 hg,if_pos (by decide),Nat.max_eq_left (by omega)]
        rw [if_neg,Nat.max_eq_right (by omega)]
        intro h
        have := Nat.compare_eq_gt.1 (Option.some.inj (eq_of_beq h))
        omega
      have MX := Aside0.mk hmax
      clear hmax
      go_wp2_with fail
      refine (math_IsInf.calls _ 1 _ _ INF.out).mono ?_
      rintro e w6 ⟨rfl,hb6⟩
      have HI6 := Aside0.mk (below_then HI.out HI.out.size hb6.below)
      clear hb6
      go_wp2_with fail
      refine (max2_calls _ _ _ _ MX.out).mono ?_
      rintro e w7 ⟨rfl,hb7⟩
      have HI7 := Aside0.mk (below_then HI6.out HI6.out.size hb7.below)
      clear hb7
      go_wp2_with fail
      go_roundw
      case rel => exact ⟨c + 1,by rw [TK.out];unfold wideStep;rw [if_pos (by omega)],by go_num,hcl,HI7⟩
      case measure => simp [intOf];omega
end Go.Proofs.Ytmdkcecbklgihaa.PA
