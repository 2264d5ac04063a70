/- PathsLimits, of numbers and lists alone. No condition. -/
import Derived.Test.YtmdkcecbklgihaaLiGh
import Derived.Test.YtmdkcecbklgihaaLiPAx9
import Derived.Test.YtmdkcecbklgihaaCHy
import Derived.Test.YtmdkcecbklgihaaLiGj
import Derived.Test.YtmdkcecbklgihaaLiStPathsLimits
namespace Go.Proofs.Ytmdkcecbklgihaa.PA
open Go.RowKit Go.Proofs.YtmdkcecbklgihaaW.PrintWords
open Classical
set_option linter.unusedVariables false
set_option linter.unusedSimpArgs false
theorem gt_bits (a b : Nat) (ha : a < 9007199254740992) (hb : b < 9007199254740992) : (FloatKind.f64.format.order (bq a) (bq b) == some .gt) = decide (b < a) := by
  rw [order_bq a b ha hb,Bool.eq_iff_iff]
  simp only [beq_iff_eq,Option.some.injEq,Nat.compare_eq_gt,decide_eq_true_eq]
theorem lt_bits (a b : Nat) (ha : a < 9007199254740992) (hb : b < 9007199254740992) : (FloatKind.f64.format.order (bq a) (bq b) == some .lt) = decide (a < b) := by
  rw [order_bq a b ha hb,Bool.eq_iff_iff]
  simp only [beq_iff_eq,Option.some.injEq,Nat.compare_eq_lt,decide_eq_true_eq]
section
variable {nodes : List S40} {links : List S74} (G : Good nodes links) (hF : Fits links) {M M' s : Nat} (h4 : 4 ≤ M) (hMM : M ≤ M') (hM' : M' ≤ 4294967296) (hs : s < nodes.length)
include G hF h4 hMM hM' hs
theorem limits_l0 : ∀ (m i : Nat),nodes.length - i = m → i ≤ nodes.length →
    Ev (fun k => beaconlaw08_PathsLimits.l0 k (dbits M (dQ nodes links M s)) (dbits M' (dQ nodes links M' s)) (i : Int) (bq M) (bq M')) true := by
  have hn := G.n256
  have hM : M ≤ 4294967296 := by omega
  have h4' : 4 ≤ M' := by omega
  have l1' := dQ_len G hF h4 hM hs
  have l2' := dQ_len G hF h4' hM' hs
  have l1 : (dbits M (dQ nodes links M s)).length = nodes.length := (dbits_len _ _).trans l1'
  have l2 : (dbits M' (dQ nodes links M' s)).length = nodes.length := (dbits_len _ _).trans l2'
  intro m
  induction m with
  | zero =>
    intro i hm hi
    refine Ev.now 1 (fun k hk => ?_)
    obtain ⟨k,rfl⟩ : ∃ m,k = m + 1 := ⟨k - 1,by omega⟩
    show beaconlaw08_PathsLimits.l0 (k + 1) _ _ _ _ _ = _
    rw [beaconlaw08_PathsLimits.l0,if_neg (by omega),awake_true]
    rfl
  | succ m ihm =>
    intro i hm hi
    have hil : i < nodes.length := by omega
    have hle1 := dQ_le G hF h4 hM hs i
    have hle2 := dQ_le G hF h4' hM' hs i
    obtain ⟨m1,m2⟩ := dQ_more G hF h4 hM hs hMM hM' hil
    have d1 := dbits_at M (dQ nodes links M s) i (by omega)
    have d2 := dbits_at M' (dQ nodes links M' s) i (by omega)
    have hj4 : Ev (fun k => beaconlaw08_PathsLimits.j4 k (dbits M (dQ nodes links M s)) (dbits M' (dQ nodes links M' s)) (i : Int) false (bq M) (bq M')) true := by
      refine Ev.step 0 (fun k _ => ?_) (ihm (i + 1) (by omega) (by omega))
      show beaconlaw08_PathsLimits.j4 (k + 1) _ _ _ _ _ _ = _
      rw [beaconlaw08_PathsLimits.j4,if_neg (by decide),wrap_succ i (by omega)]
    have hj3 : Ev (fun k => beaconlaw08_PathsLimits.j3 k (dbits M (dQ nodes links M s)) (dbits M' (dQ nodes links M' s)) (i : Int) false (bq M) (bq M')) true := by
      refine Ev.step 0 (fun k _ => ?_) hj4
      show beaconlaw08_PathsLimits.j3 (k + 1) _ _ _ _ _ _ = _
      rw [beaconlaw08_PathsLimits.j3,if_neg (by decide),if_pos (by omega),if_pos (by omega),d1,isInf_enc M _ hM hle1,Option.bind_some]
      by_cases c1 : M ≤ (dQ nodes links M s).getD i 0
      · rw [if_pos (decide_eq_true c1),if_pos (by omega),d2,isInf_enc M' _ hM' hle2,Option.bind_some]
        by_cases c2 : M' ≤ (dQ nodes links M' s).getD i 0
        · rw [if_pos (decide_eq_true c2)]
        · rw [if_neg (by simpa using c2),encM_lt M' _ (by omega),lt_bits _ _ (by omega) (by omega),decide_eq_false (by omega)]
      · rw [if_neg (by simpa using c1)]
    refine Ev.step 0 (fun k _ => ?_) hj3
    show beaconlaw08_PathsLimits.l0 (k + 1) _ _ _ _ _ = _
    rw [beaconlaw08_PathsLimits.l0,if_pos (by omega),if_pos (by omega),d1,isInf_enc M _ hM hle1,Option.bind_some]
    by_cases c1 : M ≤ (dQ nodes links M s).getD i 0
    · rw [if_pos (decide_eq_true c1)]
    · rw [if_neg (by simpa using c1),if_pos (by omega),d2,m1 (by omega),encM_lt M _ (by omega),encM_lt M' _ (by omega)]
      unfold bne
      rw [eq_bits _ _ (by omega) (by omega),decide_eq_true rfl]
      rfl
end
theorem PathsLimits_pure : beaconlaw08_PathsLimits.Pure := by
  intro nodes links mx mx' id hn hl hm hm' hid
  have hF : Fits links := fun y hy => (hl.2 y hy).2.2.1
  have hd : paths_Dists.f nodes links mx id = some (distsSpec nodes links mx id) := by
    unfold paths_Dists.f
    rw [if_pos ⟨hF,hm⟩]
  have hd' : paths_Dists.f nodes links mx' id = some (distsSpec nodes links mx' id) := by
    unfold paths_Dists.f
    rw [if_pos ⟨hF,hm'⟩]
  by_cases h0 : askSpec nodes links mx id = 0
  · by_cases h1 : askSpec nodes links mx' id = 0
    · obtain ⟨T,t1,t2⟩ := askSpec_zero hm h0
      obtain ⟨T',t1',t2'⟩ := askSpec_zero hm' h1
      obtain ⟨M,hMM⟩ : ∃ M,mqOf mx = M := ⟨_,rfl⟩
      obtain ⟨M',hMM'⟩ : ∃ M,mqOf mx' = M := ⟨_,rfl⟩
      have hlim := T.lim
      have hlow := T.low
      have hhigh := T.high
      have hlim' := T'.lim
      have hlow' := T'.low
      have hhigh' := T'.high
      rw [hMM] at hlim hlow hhigh
      rw [hMM'] at hlim' hlow' hhigh'
      have hpl := T.there
      have l1 : (dbits M (dQ nodes links M (plc nodes id))).length = nodes.length := (dbits_len _ _).trans (dQ_len T.good hF hlow hhigh T.there)
      have l2 : (dbits M' (dQ nodes links M' (plc nodes id))).length = nodes.length := (dbits_len _ _).trans (dQ_len T.good hF hlow' hhigh' T.there)
      have hf : ∀ k,beaconlaw08_PathsLimits.f k nodes links mx mx' id = beaconlaw08_PathsLimits.j0 k (dbits M (dQ nodes links M (plc nodes id))) (dbits M' (dQ nodes links M' (plc nodes id))) (FloatKind.f64.format.order mx mx' == some .gt) nodes links mx mx' := by
        intro k
        unfold beaconlaw08_PathsLimits.f
        rw [hd,hd',Option.bind_some,Option.bind_some,distsSpec_ok h0,distsSpec_ok h1,hMM,hMM']
        show (if (0 : Int) = 0 then (if (0 : Int) = 0 then _ else _) else _) = _
        rw [if_pos rfl,if_pos rfl]
      have hgt : (FloatKind.f64.format.order mx mx' == some .gt) = decide (M' < M) := by
        rw [← hlim,← hlim']
        exact gt_bits M M' (by omega) (by omega)
      by_cases hc : M' < M
      · refine ⟨1,?_⟩
        rw [hf,hgt,decide_eq_true hc,beaconlaw08_PathsLimits.j0,if_pos rfl,if_neg (by rw [l1];omega),if_neg (by rw [l2];omega),hgt,if_pos (decide_eq_true hc),awake_true]
        rfl
      · obtain ⟨K,hK⟩ := limits_l0 T.good hF (s := plc nodes id) hlow (by omega : M ≤ M') hhigh' hpl nodes.length 0 (by omega) (Nat.zero_le _)
        obtain ⟨Kc,hKc⟩ := ref_tells (nodes := nodes) hF
        have hk : beaconlaw08_PathsLimits.l0 (max K Kc) (dbits M (dQ nodes links M (plc nodes id))) (dbits M' (dQ nodes links M' (plc nodes id))) ((0 : Nat) : Int) (bq M) (bq M') = some true := hK _ (by omega)
        have hkc : beaconref07_Check.f (max K Kc + 1) nodes links = some (ckSpec nodes links) := hKc _ (by omega)
        refine ⟨max K Kc + 1 + 1,?_⟩
        rw [hf,hgt,decide_eq_false hc,beaconlaw08_PathsLimits.j0,if_neg (by decide),if_pos (by rw [l1,l2]),hkc,Option.bind_some,t2]
        show beaconlaw08_PathsLimits.j1 (max K Kc + 1) _ _ false _ _ = _
        rw [beaconlaw08_PathsLimits.j1,if_neg (by decide),← hlim,← hlim']
        exact hk
    · refine ⟨1,?_⟩
      unfold beaconlaw08_PathsLimits.f
      rw [hd,hd',Option.bind_some,Option.bind_some,distsSpec_ok h0,distsSpec_no rfl h1]
      show (if (0 : Int) = 0 then (if askSpec nodes links mx' id = 0 then _ else _) else _) = _
      rw [if_pos rfl,if_neg h1]
      show beaconlaw08_PathsLimits.j0 1 _ [] true nodes links mx mx' = _
      rw [beaconlaw08_PathsLimits.j0,if_pos rfl]
      split
      · rfl
      · rfl
  · refine ⟨1,?_⟩
    unfold beaconlaw08_PathsLimits.f
    rw [hd,hd',Option.bind_some,Option.bind_some,distsSpec_no rfl h0]
    show (if askSpec nodes links mx id = 0 then _ else _) = _
    rw [if_neg h0]
    show beaconlaw08_PathsLimits.j0 1 [] _ true nodes links mx mx' = _
    rw [beaconlaw08_PathsLimits.j0,if_pos rfl]
    rfl
end Go.Proofs.Ytmdkcecbklgihaa.PA
