/- PathsComponents, of numbers and lists alone. No condition. -/
import Derived.Test.YtmdkcecbklgihaaCoGh
import Derived.Test.YtmdkcecbklgihaaCoPAx9
import Derived.Test.YtmdkcecbklgihaaCcHy
import Derived.Test.YtmdkcecbklgihaaCoGj
import Derived.Test.YtmdkcecbklgihaaCoGs
import Derived.Test.YtmdkcecbklgihaaCoStPathsComponents
namespace Go.Proofs.Ytmdkcecbklgihaa.PA
open Go.RowKit Go.Proofs.YtmdkcecbklgihaaW.PrintWords
open Classical
set_option linter.unusedVariables false
set_option linter.unusedSimpArgs false
theorem gt_bits' (a b : Nat) (ha : a < 9007199254740992) (hb : b < 9007199254740992) : (FloatKind.f64.format.order (bq a) (bq b) == some .gt) = decide (b < a) := by
  rw [order_bq a b ha hb,Bool.eq_iff_iff]
  simp only [beq_iff_eq,Option.some.injEq,Nat.compare_eq_gt,decide_eq_true_eq]
theorem wide_l1 {nodes : List S40} {links : List S74} {M j : Nat} (hM : M ≤ 4294967296) (hj : j < 256) (q : List Nat) (hq : q.length ≤ 256) (hle : ∀ p,q.getD p 0 ≤ M) (W' : Nat) (r : Nat × Int)
    (hnext : Ev (fun k => beaconref08_Wide.l0 k (bq M) (bq W') ((j + 1 : Nat) : Int) nodes links) r) : ∀ (m c w : Nat),q.length - c = m → c ≤ q.length → w < M → (q.drop c).foldl (wideStep M) w = W' →
    Ev (fun k => beaconref08_Wide.l1 k (bq M) (bq w) (j : Int) (dbits M q) (c : Int) nodes links) r := by
  have hlen := dbits_len M q
  intro m
  induction m with
  | zero =>
    intro c w hm hc hw hf
    obtain rfl : c = q.length := by omega
    rw [List.drop_length] at hf
    obtain rfl : w = W' := hf
    refine Ev.step 0 (fun k _ => ?_) hnext
    show beaconref08_Wide.l1 (k + 1) _ _ _ _ _ _ _ = _
    rw [beaconref08_Wide.l1,if_neg (by rw [hlen];omega),wrap_succ j (by omega)]
  | succ m ihm =>
    intro c w hm hc hw hf
    have hcl : c < q.length := by omega
    have hd : q.drop c = q.getD c 0 :: q.drop (c + 1) := by
      rw [List.drop_eq_getElem_cons hcl]
      simp [List.getD_eq_getElem?_getD,hcl]
    rw [hd,List.foldl_cons] at hf
    have d1 := dbits_at M q c hcl
    have hl := hle c
    have hw2 : wideStep M w (q.getD c 0) < M := by
      unfold wideStep
      split <;> omega
    refine Ev.step 0 (fun k _ => ?_) (ihm (c + 1) (wideStep M w (q.getD c 0)) (by omega) (by omega) hw2 hf)
    show beaconref08_Wide.l1 (k + 1) _ _ _ _ _ _ _ = _
    rw [beaconref08_Wide.l1,if_pos (by rw [hlen];omega),if_pos (by omega),d1,isInf_enc M _ hM hl,Option.bind_some,wrap_succ c (by omega)]
    by_cases c1 : M ≤ q.getD c 0
    · have e1 : wideStep M w (q.getD c 0) = w := if_neg (by omega)
      rw [if_pos (decide_eq_true c1),e1]
    have e1 : wideStep M w (q.getD c 0) = max w (q.getD c 0) := if_pos (by omega)
    rw [e1,if_neg (by simpa using c1),encM_lt M _ (by omega),gt_bits' _ _ (by omega) (by omega)]
    by_cases c2 : w < q.getD c 0
    · rw [if_pos (decide_eq_true c2),Nat.max_eq_right (by omega)]
    rw [if_neg (by simpa using c2),Nat.max_eq_left (by omega)]
theorem wide_l0 {nodes : List S40} {links : List S74} (G : Good nodes links) (hF : Fits links) {M : Nat} (h4 : 4 ≤ M) (hM : M ≤ 4294967296) : ∀ (m j : Nat),nodes.length - j = m → j ≤ nodes.length →
    Ev (fun k => beaconref08_Wide.l0 k (bq M) (bq (wideTo nodes links M j)) (j : Int) nodes links) (bq (wideTo nodes links M nodes.length),0) := by
  have hn := G.n256
  intro m
  induction m with
  | zero =>
    intro j hm hj
    obtain rfl : j = nodes.length := by omega
    refine Ev.now 1 (fun k hk => ?_)
    obtain ⟨k,rfl⟩ : ∃ m,k = m + 1 := ⟨k - 1,by omega⟩
    show beaconref08_Wide.l0 (k + 1) _ _ _ _ _ = _
    rw [beaconref08_Wide.l0,if_neg (by omega)]
  | succ m ihm =>
    intro j hm hj
    have hjl : j < nodes.length := by omega
    have hp := Good.plc_inj G.nd hjl rfl
    have hql := dQ_len G hF h4 hM hjl
    obtain ⟨K1,hK1⟩ := dists_tells G hF h4 hM (nodes.getD j z40).f0 (by rw [hp];exact hjl)
    rw [hp] at hK1
    have h1 := wide_l1 (nodes := nodes) (links := links) (j := j) hM (by omega) (dQ nodes links M j) (by omega) (dQ_le G hF h4 hM hjl) (wideTo nodes links M (j + 1)) _ (ihm (j + 1) (by omega) (by omega)) (dQ nodes links M j).length 0 (wideTo nodes links M j) (by omega) (Nat.zero_le _) (wideTo_lt (by omega) j) (by rw [List.drop_zero,wideTo_succ])
    refine Ev.step K1 (fun k hk => ?_) h1
    have hk2 : beaconref08_dists.f k nodes links (bq M) (nodes.getD j z40).f0 = some (dbits M (dQ nodes links M j)) := hK1 k hk
    show beaconref08_Wide.l0 (k + 1) _ _ _ _ _ = _
    rw [beaconref08_Wide.l0,if_pos (by omega),if_pos (by omega),rd40,hk2,Option.bind_some]
    rfl
theorem Wide_tells {nodes : List S40} {links : List S74} (hF : Fits links) {mx : Nat} (hm : mx < 18446744073709551616) : Ev (fun k => beaconref08_Wide.f k nodes links mx) (wideSpec nodes links mx) := by
  obtain ⟨hl,-,hq⟩ := limit_all mx hm
  obtain ⟨Kc,hKc⟩ := ref_tells (nodes := nodes) hF
  by_cases h0 : lE mx = 0
  · obtain ⟨k1,k2,k3⟩ := mqOf_tells (hq h0)
    by_cases h1 : ckSpec nodes links = 0
    · rw [wideSpec_ok h0 h1]
      obtain ⟨K,hK⟩ := wide_l0 (ckSpec_zero nodes links h1) hF k2 k3 nodes.length 0 (by omega) (Nat.zero_le _)
      refine Ev.now (max Kc (K + 1)) (fun k hk => ?_)
      obtain ⟨k,rfl⟩ : ∃ m,k = m + 1 := ⟨k - 1,by omega⟩
      have hk1 : beaconref07_Check.f (k + 1) nodes links = some (ckSpec nodes links) := hKc (k + 1) (by omega)
      have hk2 : beaconref08_Wide.l0 k (bq (mqOf mx)) (bq (wideTo nodes links (mqOf mx) 0)) ((0 : Nat) : Int) nodes links = _ := hK k (by omega)
      have e0 : wideTo nodes links (mqOf mx) 0 = 0 := rfl
      rw [e0,bq_zero,k1] at hk2
      unfold beaconref08_Wide.f
      rw [hl,Option.bind_some,if_pos h0,hk1,Option.bind_some,h1,beaconref08_Wide.j0,if_pos rfl]
      exact hk2
    rw [wideSpec_ck h0 h1]
    refine Ev.now (max Kc 1) (fun k hk => ?_)
    obtain ⟨k,rfl⟩ : ∃ m,k = m + 1 := ⟨k - 1,by omega⟩
    have hk1 : beaconref07_Check.f (k + 1) nodes links = some (ckSpec nodes links) := hKc (k + 1) (by omega)
    unfold beaconref08_Wide.f
    rw [hl,Option.bind_some,if_pos h0,hk1,Option.bind_some,beaconref08_Wide.j0,if_neg h1]
  rw [wideSpec_lim h0]
  refine Ev.now 1 (fun k hk => ?_)
  obtain ⟨k,rfl⟩ : ∃ m,k = m + 1 := ⟨k - 1,by omega⟩
  unfold beaconref08_Wide.f
  rw [hl,Option.bind_some,if_neg h0,beaconref08_Wide.j0,if_neg h0]
theorem lists_go (L : List (List Int)) (hL : L.length ≤ 4611686018427387903) (hl : ∀ l ∈ L,l.length ≤ 4611686018427387903) : ∀ (m i : Nat),L.length - i = m → i ≤ L.length → Ev (fun k => beaconlaw08_PathsComponents.l0 k L L (i : Int)) true := by
  intro m
  induction m with
  | zero =>
    intro i hm hi
    refine Ev.now 1 (fun k hk => ?_)
    obtain ⟨k,rfl⟩ : ∃ m,k = m + 1 := ⟨k - 1,by omega⟩
    show beaconlaw08_PathsComponents.l0 (k + 1) _ _ _ = _
    rw [beaconlaw08_PathsComponents.l0,if_neg (by omega),awake_true]
    rfl
  | succ m ihm =>
    intro i hm hi
    have hil : i < L.length := by omega
    have hrd : rd_L8 L (i : Int) ∈ L := by
      unfold rd_L8
      rw [Int.toNat_natCast]
      simp [List.getD_eq_getElem?_getD,hil]
    obtain ⟨K,hK⟩ := ints_same (rd_L8 L (i : Int)) (hl _ hrd)
    refine Ev.step K (fun k hk => ?_) (ihm (i + 1) (by omega) (by omega))
    have hk1 : beaconlaw08_ints.f k (rd_L8 L (i : Int)) (rd_L8 L (i : Int)) = some true := hK k hk
    show beaconlaw08_PathsComponents.l0 (k + 1) _ _ _ = _
    rw [beaconlaw08_PathsComponents.l0,if_pos (by omega),if_pos (by omega),if_pos (by omega),hk1,Option.bind_some,if_pos rfl,wrap_succ i (by omega)]
theorem compsSpec_small (nodes : List S40) (links : List S74) : (compsSpec nodes links).1.length ≤ 256 ∧ ∀ l ∈ (compsSpec nodes links).1,l.length ≤ 256 := by
  unfold compsSpec
  by_cases h0 : ckSpec nodes links = 0
  · rw [if_pos h0]
    have hn := (ckSpec_zero nodes links h0).n256
    refine ⟨?_,fun l hl => ?_⟩
    · show (List.map _ _).length ≤ 256
      rw [List.length_map]
      have h9 : (compsTo nodes (adjQ wqOf nodes links) nodes.length nodes.length).length ≤ nodes.length := by
        unfold compsTo
        rw [List.length_map]
        exact Nat.le_trans (List.length_filter_le _ _) (by simp)
      exact Nat.le_trans h9 hn
    obtain ⟨p,hp,rfl⟩ := List.mem_map.1 hl
    unfold compsTo at hp
    obtain ⟨i,hi,rfl⟩ := List.mem_map.1 hp
    unfold idsOf comp
    rw [List.length_map]
    refine Nat.le_trans (List.length_filter_le _ _) ?_
    rw [List.length_range]
    exact hn
  rw [if_neg h0]
  exact ⟨Nat.zero_le _,fun l hl => by cases hl⟩
theorem PathsComponents_pure : beaconlaw08_PathsComponents.Pure := by
  intro nodes links mx hn hl hm
  have hF : Fits links := fun y hy => (hl.2 y hy).2.2.1
  obtain ⟨s1,s2⟩ := compsSpec_small nodes links
  obtain ⟨K1,h1⟩ := Comps_tells (nodes := nodes) hF
  obtain ⟨K2,h2⟩ := Wide_tells (nodes := nodes) hF hm
  obtain ⟨K3,h3⟩ := lists_go (compsSpec nodes links).1 (by omega) (fun l hl => by have := s2 l hl;omega) _ 0 rfl (Nat.zero_le _)
  refine ⟨max K1 (max K2 K3) + 1,?_⟩
  have h1' : beaconref08_Components.f (max K1 (max K2 K3) + 1) nodes links = some (compsSpec nodes links) := h1 _ (by omega)
  have h2' : beaconref08_Wide.f (max K1 (max K2 K3) + 1) nodes links mx = some (wideSpec nodes links mx) := h2 _ (by omega)
  have h3' : beaconlaw08_PathsComponents.l0 (max K1 (max K2 K3)) (compsSpec nodes links).1 (compsSpec nodes links).1 ((0 : Nat) : Int) = some true := h3 _ (by omega)
  unfold beaconlaw08_PathsComponents.f paths_Components.f paths_Wide.f
  rw [if_pos hF,Option.bind_some,h1',Option.bind_some,if_pos ⟨hF,hm⟩,Option.bind_some,h2',Option.bind_some,if_pos rfl,if_pos rfl,if_pos rfl,beaconlaw08_PathsComponents.j0,if_neg (by simp)]
  exact h3'
end Go.Proofs.Ytmdkcecbklgihaa.PA
