/- What a net tells: distances and first hops, in plain terms. Conditions: the graph may be, weights are words, the limit is one. -/
import Derived.Test.YtmdkcecbklgihaaCcHt
import Derived.Test.YtmdkcecbklgihaaCcGf
namespace Go.Proofs.Ytmdkcecbklgihaa.PA
open Go.RowKit Go.Proofs.YtmdkcecbklgihaaW.PrintWords Go.Proofs.YtmdkcecbklgihaaW.PrintLast Go.Proofs.YtmdkcecbklgihaaW.PrintMore
open Classical
set_option linter.unusedVariables false
set_option linter.unusedSimpArgs false
theorem one_id (W : World) (a : Int) : Kd.C (Kd.int .i64) (W.alloc (.cells #[.int .i64 a] 3)) (some ⟨W.heap.size,0,none⟩) [a].length [a] :=
  (Kd.R_reads' (Kd.R_of_own (ok := fun _ => True) (own_lit W 0 3 .i64 [a] (Nat.zero_le _) (by simp)) (fun _ _ => trivial))).2.2
theorem ask_lim {nodes : List S40} {links : List S74} {mx : Nat} {id : Int} (h : lE mx ≠ 0) : askSpec nodes links mx id = lE mx := by
  unfold askSpec
  rw [if_neg h]
theorem ask_ck {nodes : List S40} {links : List S74} {mx : Nat} {id : Int} (h0 : lE mx = 0) (h : ckSpec nodes links ≠ 0) : askSpec nodes links mx id = ckSpec nodes links := by
  unfold askSpec
  rw [if_pos h0,if_neg h]
theorem ask_none {nodes : List S40} {links : List S74} {mx : Nat} {id : Int} (h0 : lE mx = 0) (h : ckSpec nodes links = 0) (h2 : nodes.length ≤ plc nodes id) : askSpec nodes links mx id = 4 := by
  unfold askSpec
  rw [if_pos h0,if_pos h,if_neg (by omega)]
theorem ask_ok {nodes : List S40} {links : List S74} {mx : Nat} {id : Int} (h0 : lE mx = 0) (h : ckSpec nodes links = 0) (h2 : plc nodes id < nodes.length) : askSpec nodes links mx id = 0 := by
  unfold askSpec
  rw [if_pos h0,if_pos h,if_pos h2]
theorem nextsSpec_no {nodes : List S40} {links : List S74} {mx : Nat} {id e : Int} (h : askSpec nodes links mx id = e) (he : e ≠ 0) : nextsSpec nodes links mx id = ([],e) := by
  unfold nextsSpec
  rw [h,if_neg he]
theorem nextsSpec_ok {nodes : List S40} {links : List S74} {mx : Nat} {id : Int} (h : askSpec nodes links mx id = 0) : nextsSpec nodes links mx id = ((List.range nodes.length).map fun t => hopOf nodes (mqOf mx) ((adjQ wqOf nodes links).getD (plc nodes id) []) (dQ nodes links (mqOf mx) t) (plc nodes id) t,0) := by
  unfold nextsSpec
  rw [if_pos h]
theorem dists_net {nodes : List S40} {links : List S74} (G : Good nodes links) (hF : Fits links) {M mx s g : Nat} (hmx : bq M = mx) (h4 : 4 ≤ M) (hM : M ≤ 4294967296) (hs : s < nodes.length) (w : World) (hN : NetAt w g nodes links mx (adjB nodes links)) :
    Calls Try.prog 33 #[.pointer (some ⟨g,0,none⟩),.int .i64 (s : Int)] w fun e w' => ∃ b,e = .returned (.slice (some ⟨b,0,none⟩) nodes.length nodes.length) ∧ w.heap.size ≤ b ∧ w'.heap[b]? = some (.cells (dcells (encM M) (dQ nodes links M s)).toArray 26 (0,0)) ∧ Below w.heap.size w w' := by
  subst hmx
  have P := G.pass hF h4 hM hs
  rw [adjQ_rows wqOf 4194304 nodes links P.ends P.wts] at hN
  refine (dists_calls (encM M) bq M (bq M) 4194304 nodes.length s g nodes links (adjQ wqOf nodes links) w (FL_encM M _ P.pos hM (Nat.le_refl _)) hN (adjQ_wf wqOf 4194304 nodes links P.ends P.wts) rfl hs P.n256 (fun p e he => adjQ_le wqOf 4194304 nodes links P.ends P.wts p e he) hM).mono ?_
  rintro e w' ⟨b,q,rfl,h1,h2,h3,h4'⟩
  have hq : Dst nodes links M s q := h4'
  rw [hq.unique (dQ_tells G hF h4 hM hs) P] at h2
  exact ⟨b,rfl,h1,h2,h3⟩
theorem next_net {nodes : List S40} {links : List S74} (G : Good nodes links) (hF : Fits links) {M mx f t g b : Nat} (hmx : bq M = mx) (h4 : 4 ≤ M) (hM : M ≤ 4294967296) (hf : f < nodes.length) (ht : t < nodes.length) (w : World) (hN : NetAt w g nodes links mx (adjB nodes links))
    (hd : w.heap[b]? = some (.cells (dcells (encM M) (dQ nodes links M t)).toArray 26 (0,0))) :
    Calls Try.prog 32 #[.pointer (some ⟨g,0,none⟩),.int .i64 (f : Int),.int .i64 (t : Int),.slice (some ⟨b,0,none⟩) nodes.length nodes.length] w fun e w' => e = .returned (.int .i64 (hopOf nodes M ((adjQ wqOf nodes links).getD f []) (dQ nodes links M t) f t)) ∧ Below w.heap.size w w' := by
  have P := G.pass hF h4 hM ht
  rw [adjQ_rows wqOf 4194304 nodes links P.ends P.wts] at hN
  have hq := dQ_tells G hF h4 hM ht
  exact next_calls M mx 4194304 nodes.length f t g b _ nodes links (adjQ wqOf nodes links) w hN (adjQ_wf wqOf 4194304 nodes links P.ends P.wts) rfl hf ht P.n256 (fun p e he => adjQ_le wqOf 4194304 nodes links P.ends P.wts p e he) (Nat.le_refl _) hM hq.len hq.le hd
end Go.Proofs.Ytmdkcecbklgihaa.PA
