/- (*paths.net).next: the first hop by a net's row and the distances. Conditions: the net's rows are well formed, the distances at most the limit. -/
import Derived.Test.YtmdkcecbklgihaaCcHd
import Derived.Test.YtmdkcecbklgihaaCcFd
import Derived.StillTailTactics
namespace Go.Proofs.Ytmdkcecbklgihaa.PA
open Go.RowKit Go.Proofs.YtmdkcecbklgihaaW.PrintWords Go.Proofs.YtmdkcecbklgihaaW.PrintLast Go.Proofs.YtmdkcecbklgihaaW.PrintMore
set_option linter.unusedVariables false
set_option linter.unusedSimpArgs false
theorem quiet_of2 {P : Program} {f : FuncId} {args : Array Value} {w : World} {n m : Nat} {v : Value}
    (h : Calls P f args (w.drewN (n + m)) fun e w' => e = .returned v ∧ ∃ k,w' = (w.drewN (n + m)).drewN k) : Calls P f args (w.drewN (n + m)) fun e w'' => e = .returned v ∧ ∃ k,w'' = w.drewN (n + k) :=
  h.mono fun _ _ ⟨he,k,hm⟩ => ⟨he,m + k,by rw [hm,World.drewN_drewN,Nat.add_assoc]⟩
def hop (nodes : List S40) (M : Nat) (q : List Nat) (f : Nat) (best : Int) (e : Nat × Nat) : Int :=
  if q.getD e.1 0 < M ∧ e.2 + q.getD e.1 0 = q.getD f 0 ∧ (best = 0 ∨ (nodes.getD e.1 z40).f0 < best) then (nodes.getD e.1 z40).f0 else best
def hopOf (nodes : List S40) (M : Nat) (row : List (Nat × Nat)) (q : List Nat) (f t : Nat) : Int := if f = t ∨ M ≤ q.getD f 0 then 0 else row.foldl (hop nodes M q f) 0
set_option maxHeartbeats 8000000 in
set_option maxRecDepth 100000 in
theorem next_calls (M mx W n f t g b : Nat) (q : List Nat) (nodes : List S40) (links : List S74) (R : Adj) (w : World) (hN : NetAt w g nodes links mx (R.map (rowOf bq))) (hW : Wf R n) (hn : nodes.length = n) (hf : f < n) (ht : t < n) (hn2 : n ≤ 256)
    (hw : ∀ p e,e ∈ R.getD p [] → e.2 ≤ W) (hW2 : W ≤ 4194304) (hM : M ≤ 4294967296) (hql : q.length = n) (hqM : ∀ p,q.getD p 0 ≤ M) (hd : w.heap[b]? = some (.cells (dcells (encM M) q).toArray 26 (0,0))) :
    Calls Try.prog 32 #[.pointer (some ⟨g,0,none⟩),.int .i64 (f : Int),.int .i64 (t : Int),.slice (some ⟨b,0,none⟩) n n] w fun e w' => e = .returned (.int .i64 (hopOf nodes M (R.getD f []) q f t)) ∧ Below w.heap.size w w' := by
  obtain ⟨A0,c0,A1,c1,mb,A3,c3,h1,h2,h3,h4,h5,h6⟩ := hN
  rw [hn] at h1 h2 h3
  have B1 := Aside0.mk h1
  have C2 := Aside0.mk h2
  have C4 := Aside0.mk h4
  have DD := Aside0.mk hd
  have hu34 := Try.underlying34
  have hu79 := Try.underlying79
  have hu66 := Try.underlying66
  have hu22 := Try.underlying22
  have hfz : (f : Int) < (n : Int) := by omega
  have d0 : w.cell? ⟨b,f,none⟩ = some (.float .f64 (encM M (q.getD f 0))) := (blk_cell hd f).trans (dcells_at _ q f (by rw [hql];exact hf))
  have hinf := isInf_enc M (q.getD f 0) hM (hqM f)
  obtain ⟨qf,hqf⟩ : ∃ qf,q.getD f 0 = qf := ⟨_,rfl⟩
  rw [hqf] at d0 hinf
  have INF := Aside0.mk hinf
  have QF := Aside0.mk hqf
  clear h1 h2 h4 h6 hd hinf hqf
  obtain ⟨res,hres⟩ : ∃ res,hopOf nodes M (R.getD f []) q f t = res := ⟨_,rfl⟩
  rw [hres]
  have RES := Aside0.mk hres
  clear hres
  go_enter Try.func32,Try.ntmps32
  by_cases hft : f = t
  · have hftz : ((f : Int) == (t : Int)) = true := by simp [hft]
    go_wp2_with fail
    go_ret
    exact ⟨by rw [← RES.out];unfold hopOf;rw [if_pos (Or.inl hft)];rfl,Below.refl _ _⟩
  have hftz : ((f : Int) == (t : Int)) = false := by
    rw [beq_eq_false_iff_ne]
    omega
  go_wp2_with fail
  refine (math_IsInf.calls _ 1 _ _ INF.out).mono ?_
  rintro e w1 ⟨rfl,hd1⟩
  have HB1 := Aside0.mk hd1.below
  clear hd1
  by_cases hM1 : M ≤ qf
  · have hdm : decide (M ≤ qf) = true := decide_eq_true hM1
    rw [hdm]
    go_wp2_with fail
    go_ret
    exact ⟨by rw [← RES.out];unfold hopOf;rw [if_pos (Or.inr (by rw [QF.out];exact hM1))];rfl,HB1.out⟩
  have hdm : decide (M ≤ qf) = false := decide_eq_false hM1
  rw [hdm]
  obtain ⟨ar,Ar,cr,e0,hr0,hr1,hr2⟩ := at_L81 C4.out (f : Int) (by omega) (by rw [List.length_map,hW.1];omega)
  obtain ⟨row,hrow⟩ : ∃ row,R.getD f [] = row := ⟨_,rfl⟩
  have hrd : rd_L81 (R.map (rowOf bq)) (f : Int) = rowOf bq row := by
    unfold rd_L81
    rw [Int.toNat_natCast,← hrow]
    have hpl : f < R.length := by rw [hW.1];exact hf
    simp [List.getD_eq_getElem?_getD,hpl]
  have hrl : (rowOf bq row).length = row.length := by simp [rowOf]
  rw [hrd,hrl] at hr0 hr1 hr2
  rw [Int.toNat_natCast] at hr0
  subst e0
  have r0' := (HB1.out.cell (World.block_lt_of_cell? w _ hr0)).trans hr0
  have k2' : w1.cell? ⟨g,4,none⟩ = some (.slice (some ar) n c3) := (HB1.out.cell (blk_lt B1.out)).trans ((blk_cell B1.out 4).trans (by rw [List.length_map,hW.1];rfl))
  have HRW := Aside0.mk hrow
  have HR2 := Aside0.mk hr2
  clear hrd hrl hr0 hr1 hr2 hrow d0
  go_wp2_with fail
  go_loopw [9,31] (fun vb vi wr => ∃ (j : Nat),vb = .int .i64 ((row.take j).foldl (hop nodes M q f) 0) ∧ vi = .int .i64 (j : Int) ∧ j ≤ row.length ∧ Aside0 (Below w.heap.size w wr)) (fun vb vi _ => row.length - (intOf vi).toNat)
  case atStart => exact ⟨0,rfl,rfl,Nat.zero_le _,HB1⟩
  case round =>
    obtain ⟨j,rfl,rfl,hj,HB⟩ := hrel
    by_cases hjl : j < row.length
    rotate_left
    · have hjn : j = row.length := by omega
      subst hjn
      rw [List.take_length]
      go_wp2_with fail
      go_ret
      exact ⟨by rw [← RES.out];unfold hopOf;rw [if_neg (by rw [QF.out];intro h;rcases h with h | h <;> contradiction),HRW.out];rfl,HB.out⟩
    have hjz : (j : Int) < (row.length : Int) := by omega
    obtain ⟨e,he⟩ : ∃ e,row[j]? = some e := ⟨row[j],List.getElem?_eq_getElem hjl⟩
    obtain ⟨ra,e0,hc0,hc1⟩ := at_T81 HR2.out (j : Int) (by omega) hjz
    subst e0
    have hrd : rd_T81 (rowOf bq row) (j : Int) = ⟨(e.1 : Int),bq e.2⟩ := by
      unfold rd_T81 rowOf
      rw [Int.toNat_natCast]
      simp [List.getD_eq_getElem?_getD,he]
    rw [hrd] at hc0 hc1
    rw [Int.toNat_natCast] at hc0 hc1
    have c0' := (HB.out.cell (World.block_lt_of_cell? w _ hc0)).trans hc0
    have c1' := (HB.out.cell (World.block_lt_of_cell? w _ hc1)).trans hc1
    have heR : (R.getD f [])[j]? = some e := by rw [HRW.out];exact he
    obtain ⟨hen,hw1⟩ := hW.2 f e (List.mem_of_getElem? heR)
    have hwW := hw f e (List.mem_of_getElem? heR)
    have hsucc : (row.take (j + 1)).foldl (hop nodes M q f) 0 = hop nodes M q f ((row.take j).foldl (hop nodes M q f) 0) e := by
      have : row.take (j + 1) = row.take j ++ [e] := by
        rw [List.take_add_one,he]
        rfl
      rw [this,List.foldl_append]
      rfl
    obtain ⟨bst,hbst⟩ : ∃ bst,(row.take j).foldl (hop nodes M q f) 0 = bst := ⟨_,rfl⟩
    rw [hbst] at hsucc ⊢
    obtain ⟨qe,hqe⟩ : ∃ qe,q.getD e.1 0 = qe := ⟨_,rfl⟩
    have hqeM : qe ≤ M := by rw [← hqe];exact hqM e.1
    obtain ⟨id,hid⟩ : ∃ id,(nodes.getD e.1 z40).f0 = id := ⟨_,rfl⟩
    have hh : hop nodes M q f bst e = if qe < M ∧ e.2 + qe = qf ∧ (bst = 0 ∨ id < bst) then id else bst := by
      unfold hop
      rw [hqe,hid,QF.out]
    rw [hh] at hsucc
    clear hh
    obtain ⟨lb,hlb⟩ : ∃ lb,lb = wr.heap.size := ⟨_,rfl⟩
    obtain ⟨w6,hw6⟩ : ∃ w6,w6 = wr.alloc (.cells #[.int .i64 (e.1 : Int),.float .f64 (bq e.2)] 81) := ⟨_,rfl⟩
    have hmax := Kd.C_max HR2.out
    have hB6 : Below wr.heap.size wr w6 := by rw [hw6];exact below_alloc (Below.refl _ _) _
    have hl6 : w6.heap[lb]? = some (.cells #[.int .i64 (e.1 : Int),.float .f64 (bq e.2)] 81 (0,0)) := by rw [hw6,hlb];exact heap_alloc_new _ _
    have hBw : Below w.heap.size w w6 := below_then HB.out HB.out.size hB6
    have l0 := (blk_cell hl6 0).trans rfl
    have l1 := (blk_cell hl6 1).trans rfl
    have d6 : w6.heap[b]? = some (.cells (dcells (encM M) q).toArray 26 (0,0)) := blk_below DD.out hBw
    have dq : w6.cell? ⟨b,e.1,none⟩ = some (.float .f64 (encM M qe)) := (blk_cell d6 e.1).trans ((dcells_at _ q e.1 (by rw [hql];exact hen)).trans (by rw [hqe]))
    have df : w6.cell? ⟨b,f,none⟩ = some (.float .f64 (encM M qf)) := (blk_cell d6 f).trans ((dcells_at _ q f (by rw [hql];exact hf)).trans (by rw [QF.out]))
    have henz : (e.1 : Int) < (n : Int) := by omega
    obtain ⟨an,e0,ha0,ha1,ha2⟩ := at_T40 C2.out (e.1 : Int) (by omega) henz
    subst e0
    have hrd2 : rd_T40 nodes (e.1 : Int) = nodes.getD e.1 z40 := by
      unfold rd_T40
      rw [Int.toNat_natCast]
    rw [hrd2,Int.toNat_natCast,hid] at ha0
    have a0' := (hBw.cell (World.block_lt_of_cell? w _ ha0)).trans ha0
    have g0' : w6.cell? ⟨g,0,none⟩ = some (.slice (some an) n c0) := (blk_cell (blk_below B1.out hBw) 0).trans rfl
    have BW := Aside0.mk hBw
    have SU := Aside0.mk hsucc
    clear hc0 hc1 hrd heR hbst hqe hid hl6 hB6 d6 ha0 ha1 ha2 hrd2 hsucc hBw he
    go_wp2_with fail
    simp only [← hw6,← hlb]
    clear hw6 hlb
    go_quiet (fail)
    have INFE := Aside0.mk (isInf_enc M qe hM hqeM)
    by_cases hA : M ≤ qe
    · rw [decide_eq_true hA] at INFE
      go_wp2_with fail
      go_quiet ((go_at_call 20;exact quiet_of2 ((math_IsInf.calls _ 1 _ _ INFE.out).mono (fun _ _ h => ⟨h.1,h.2.out⟩))))
      go_wp2_with fail
      go_roundw
      case rel => exact ⟨j + 1,by rw [SU.out,if_neg (by omega)],by go_num,hjl,⟨BW.out.trans (pw_below_drewN (Below.refl _ _) _)⟩⟩
      case measure => simp [intOf];omega
    rw [decide_eq_false hA] at INFE
    have hqf : qf < M := by omega
    rw [encM_lt M qe (by omega)] at dq INFE
    rw [encM_lt M qf hqf] at df
    have hadd := sum_bits e.2 qe (by omega)
    have heq := eq_bits (e.2 + qe) qf (by omega) (by omega)
    obtain ⟨sm,hsm⟩ : ∃ sm,bq (e.2 + qe) = sm := ⟨_,rfl⟩
    rw [hsm] at hadd heq
    have haddr : ∀ W_ : World,(binOp .add 26 (.float .f64 (bq e.2)) (.float .f64 (bq qe))).run Try.prog W_ = .ok (.float .f64 sm) W_ := fun W_ => run_float_arith W_ .add 26 .f64 _ _ _ hadd
    clear hadd hsm
    by_cases hB : e.2 + qe = qf
    · rw [decide_eq_true hB] at heq
      by_cases hC : bst = 0
      · subst hC
        go_wp2_with fail
        go_quiet ((go_at_call 20;exact quiet_of2 ((math_IsInf.calls _ 1 _ _ INFE.out).mono (fun _ _ h => ⟨h.1,h.2.out⟩))))
        go_wp2_with fail
        go_roundw
        case rel => exact ⟨j + 1,by rw [SU.out,if_pos ⟨by omega,hB,Or.inl (by simp)⟩],by go_num,hjl,⟨BW.out.trans (pw_below_drewN (Below.refl _ _) _)⟩⟩
        case measure => simp [intOf];omega
      have hz : (bst == 0) = false := by simpa using hC
      by_cases hD : id < bst
      · have hl : decide (id < bst) = true := decide_eq_true hD
        go_wp2_with fail
        go_quiet ((go_at_call 20;exact quiet_of2 ((math_IsInf.calls _ 1 _ _ INFE.out).mono (fun _ _ h => ⟨h.1,h.2.out⟩))))
        go_wp2_with fail
        go_roundw
        case rel => exact ⟨j + 1,by rw [SU.out,if_pos ⟨by omega,hB,Or.inr hD⟩],by go_num,hjl,⟨BW.out.trans (pw_below_drewN (Below.refl _ _) _)⟩⟩
        case measure => simp [intOf];omega
      have hl : decide (id < bst) = false := decide_eq_false hD
      go_wp2_with fail
      go_quiet ((go_at_call 20;exact quiet_of2 ((math_IsInf.calls _ 1 _ _ INFE.out).mono (fun _ _ h => ⟨h.1,h.2.out⟩))))
      go_wp2_with fail
      go_roundw
      case rel => exact ⟨j + 1,by rw [SU.out,if_neg (fun h => by rcases h.2.2 with h | h <;> omega)],by go_num,hjl,⟨BW.out.trans (pw_below_drewN (Below.refl _ _) _)⟩⟩
      case measure => simp [intOf];omega
    rw [decide_eq_false hB] at heq
    go_wp2_with fail
    go_quiet ((go_at_call 20;exact quiet_of2 ((math_IsInf.calls _ 1 _ _ INFE.out).mono (fun _ _ h => ⟨h.1,h.2.out⟩))))
    go_wp2_with fail
    go_roundw
    case rel => exact ⟨j + 1,by rw [SU.out,if_neg (fun h => hB h.2.1)],by go_num,hjl,⟨BW.out.trans (pw_below_drewN (Below.refl _ _) _)⟩⟩
    case measure => simp [intOf];omega
end Go.Proofs.Ytmdkcecbklgihaa.PA
