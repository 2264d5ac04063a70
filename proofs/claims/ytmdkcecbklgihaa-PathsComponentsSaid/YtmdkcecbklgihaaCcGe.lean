/- May a graph be: the program's check tells what the document's does, and what is known of a graph that may be. Conditions: weights are words. -/
import Derived.Test.YtmdkcecbklgihaaCcGd
import Derived.Test.YtmdkcecbklgihaaCcFc
import Derived.Test.YtmdkcecbklgihaaCcPAx5
import Derived.Test.YtmdkcecbklgihaaCcPAx4
import Derived.Test.YtmdkcecbklgihaaCcPAx2
namespace Go.Proofs.Ytmdkcecbklgihaa.PA
open Go.RowKit Go.Proofs.YtmdkcecbklgihaaW.PrintWords
set_option linter.unusedVariables false
set_option linter.unusedSimpArgs false
def wE (b : Nat) : Int := (beaconref01_Weight.f b).getD 0
theorem bq_W : bq 4194304 = 4697254411347427328 := by decide
theorem bq_L : bq 4294967296 = 4742290407621132288 := by decide
theorem weight_all (b : Nat) (h : b < 18446744073709551616) : beaconref01_Weight.f b = some (wE b) ∧ metric_Weight.f b = some (wE b) ∧ (wE b = 0 → ∃ q,4 ≤ q ∧ q ≤ 4194304 ∧ b = bq q) := by
  obtain ⟨e,he,h0⟩ := bounded_quarters b 4194304 h (by decide)
  rw [bq_W] at he
  have h1 : beaconref01_Weight.f b = some e := by
    unfold beaconref01_Weight.f
    rw [he]
    rfl
  have h2 : wE b = e := by
    unfold wE
    rw [h1]
    rfl
  refine ⟨by rw [h1,h2],?_,by rw [h2];exact h0⟩
  unfold metric_Weight.f
  rw [within_bounded b _ h,he,h2]
  rfl
def lE (b : Nat) : Int := (beaconref01_Limit.f b).getD 0
theorem limit_all (b : Nat) (h : b < 18446744073709551616) : beaconref01_Limit.f b = some (lE b) ∧ metric_Limit.f b = some (lE b) ∧ (lE b = 0 → ∃ q,4 ≤ q ∧ q ≤ 4294967296 ∧ b = bq q) := by
  obtain ⟨e,he,h0⟩ := bounded_quarters b 4294967296 h (by decide)
  rw [bq_L] at he
  have h1 : beaconref01_Limit.f b = some e := by
    unfold beaconref01_Limit.f
    rw [he]
    rfl
  have h2 : lE b = e := by
    unfold lE
    rw [h1]
    rfl
  refine ⟨by rw [h1,h2],?_,by rw [h2];exact h0⟩
  unfold metric_Limit.f
  rw [within_bounded b _ h,he,h2]
  rfl
def Fits (links : List S74) : Prop := ∀ l ∈ links,l.f2 < 18446744073709551616
theorem Fits.at {links : List S74} (h : Fits links) (i : Nat) (hi : i < links.length) : (links.getD i z74).f2 < 18446744073709551616 := by
  refine h _ ?_
  simp [List.getD_eq_getElem?_getD,hi]
def ndBad (nodes : List S40) (i : Nat) : Bool := decide (¬ (1 ≤ (nodes.getD i z40).f0 ∧ (nodes.getD i z40).f0 ≤ 2147483647) ∨ (0 < i ∧ (nodes.getD i z40).f0 ≤ (nodes.getD (i - 1) z40).f0))
def lkBad (nodes : List S40) (links : List S74) (i : Nat) : Bool := decide ((links.getD i z74).f0 ≥ (links.getD i z74).f1 ∨ ¬ plc nodes (links.getD i z74).f0 < nodes.length ∨ ¬ plc nodes (links.getD i z74).f1 < nodes.length ∨
  (0 < i ∧ ((links.getD (i - 1) z74).f0 > (links.getD i z74).f0 ∨ ((links.getD (i - 1) z74).f0 = (links.getD i z74).f0 ∧ (links.getD (i - 1) z74).f1 ≥ (links.getD i z74).f1))))
def lkSpec (nodes : List S40) (links : List S74) : Nat → Nat → Int
  | 0,_ => 0
  | m + 1,i => if lkBad nodes links i = true then 71 else if wE (links.getD i z74).f2 = 0 then lkSpec nodes links m (i + 1) else wE (links.getD i z74).f2
def ndSpec (nodes : List S40) (links : List S74) : Nat → Nat → Int
  | 0,_ => lkSpec nodes links links.length 0
  | m + 1,i => if ndBad nodes i = true then 70 else ndSpec nodes links m (i + 1)
def ckSpec (nodes : List S40) (links : List S74) : Int := if nodes.length > 256 ∨ links.length > 4096 then 2 else ndSpec nodes links nodes.length 0
structure Good (nodes : List S40) (links : List S74) : Prop where
  n256 : nodes.length ≤ 256
  l4096 : links.length ≤ 4096
  nd : ∀ i,i < nodes.length → ndBad nodes i = false
  lk : ∀ i,i < links.length → lkBad nodes links i = false
  wt : ∀ i,i < links.length → wE (links.getD i z74).f2 = 0
theorem lkSpec_zero (nodes : List S40) (links : List S74) : ∀ m i,lkSpec nodes links m i = 0 → ∀ j,i ≤ j → j < i + m → lkBad nodes links j = false ∧ wE (links.getD j z74).f2 = 0
  | 0,i,_,j,h1,h2 => absurd h2 (by omega)
  | m + 1,i,h,j,h1,h2 => by
    unfold lkSpec at h
    by_cases hb : lkBad nodes links i = true
    · rw [if_pos hb] at h
      exact absurd h (by decide)
    rw [if_neg hb] at h
    by_cases hw : wE (links.getD i z74).f2 = 0
    · rw [if_pos hw] at h
      rcases Nat.eq_or_lt_of_le h1 with h3 | h3
      · subst h3
        exact ⟨by simpa using hb,hw⟩
      exact lkSpec_zero nodes links m (i + 1) h j h3 (by omega)
    rw [if_neg hw] at h
    exact absurd h hw
theorem ndSpec_zero (nodes : List S40) (links : List S74) : ∀ m i,ndSpec nodes links m i = 0 → (∀ j,i ≤ j → j < i + m → ndBad nodes j = false) ∧ lkSpec nodes links links.length 0 = 0
  | 0,i,h => ⟨fun j h1 h2 => absurd h2 (by omega),h⟩
  | m + 1,i,h => by
    unfold ndSpec at h
    by_cases hb : ndBad nodes i = true
    · rw [if_pos hb] at h
      exact absurd h (by decide)
    rw [if_neg hb] at h
    obtain ⟨h1,h2⟩ := ndSpec_zero nodes links m (i + 1) h
    refine ⟨fun j h3 h4 => ?_,h2⟩
    rcases Nat.eq_or_lt_of_le h3 with h5 | h5
    · subst h5
      simpa using hb
    exact h1 j h5 (by omega)
theorem ckSpec_zero (nodes : List S40) (links : List S74) (h : ckSpec nodes links = 0) : Good nodes links := by
  unfold ckSpec at h
  by_cases hb : nodes.length > 256 ∨ links.length > 4096
  · rw [if_pos hb] at h
    exact absurd h (by decide)
  rw [if_neg hb] at h
  obtain ⟨h1,h2⟩ := ndSpec_zero nodes links _ _ h
  have h3 := lkSpec_zero nodes links _ _ h2
  exact ⟨by omega,by omega,fun i hi => h1 i (by omega) (by omega),fun i hi => (h3 i (by omega) (by omega)).1,fun i hi => (h3 i (by omega) (by omega)).2⟩
theorem Good.asc {nodes : List S40} (nd : ∀ i,i < nodes.length → ndBad nodes i = false) : ∀ (d i : Nat),i + d + 1 < nodes.length → (nodes.getD i z40).f0 < (nodes.getD (i + d + 1) z40).f0
  | 0,i,h => by
    have := nd (i + 1) h
    unfold ndBad at this
    have h2 := of_decide_eq_false this
    simp only [Nat.add_sub_cancel] at h2
    have h3 : i + 0 + 1 = i + 1 := rfl
    rw [h3]
    omega
  | d + 1,i,h => by
    have h1 := Good.asc nd d i (by omega)
    have h2 := Good.asc nd 0 (i + d + 1) (by omega)
    have h3 : i + (d + 1) + 1 = i + d + 1 + 0 + 1 := by omega
    rw [h3]
    omega
theorem asc_lt {nodes : List S40} (nd : ∀ i,i < nodes.length → ndBad nodes i = false) (i j : Nat) (hij : i < j) (hj : j < nodes.length) : (nodes.getD i z40).f0 < (nodes.getD j z40).f0 := by
  have := Good.asc nd (j - i - 1) i (by omega)
  have h3 : i + (j - i - 1) + 1 = j := by omega
  rwa [h3] at this
theorem halved_spec {nodes : List S40} (nd : ∀ i,i < nodes.length → ndBad nodes i = false) (a : Int) : ∀ (k i j : Nat),j - i ≤ k → i ≤ j → j ≤ nodes.length → (∀ p,p < i → (nodes.getD p z40).f0 < a) → (∀ p,j ≤ p → p < nodes.length → a ≤ (nodes.getD p z40).f0) →
    (∀ p,p < halved nodes a k i j → (nodes.getD p z40).f0 < a) ∧ (∀ p,halved nodes a k i j ≤ p → p < nodes.length → a ≤ (nodes.getD p z40).f0)
  | 0,i,j,h,h1,h2,h3,h4 => by
    obtain rfl : i = j := by omega
    exact ⟨h3,h4⟩
  | k + 1,i,j,h,h1,h2,h3,h4 => by
    by_cases hij : i < j
    · by_cases hc : (nodes.getD ((i + j) / 2) z40).f0 < a
      · rw [halved_up nodes a k i j hij hc]
        refine halved_spec nd a k _ j (by omega) (by omega) h2 (fun p hp => ?_) h4
        rcases Nat.lt_or_ge p ((i + j) / 2) with h5 | h5
        · have := asc_lt nd p ((i + j) / 2) h5 (by omega)
          omega
        obtain rfl : p = (i + j) / 2 := by omega
        exact hc
      rw [halved_down nodes a k i j hij hc]
      refine halved_spec nd a k i _ (by omega) (by omega) (by omega) h3 (fun p hp hpl => ?_)
      rcases Nat.lt_or_ge ((i + j) / 2) p with h5 | h5
      · have := asc_lt nd ((i + j) / 2) p h5 hpl
        omega
      obtain rfl : p = (i + j) / 2 := by omega
      omega
    rw [halved_done nodes a _ i j hij]
    obtain rfl : i = j := by omega
    exact ⟨h3,h4⟩
theorem node_tells {nodes : List S40} (links : List S74) (nd : ∀ i,i < nodes.length → ndBad nodes i = false) (hn : nodes.length ≤ 256) (a : Int) : ∃ r,graph_node.f nodes links a = some (r,decide (plc nodes a < nodes.length)) := by
  unfold graph_node.f
  rw [if_pos (by omega)]
  obtain ⟨h1,h2⟩ := halved_spec nd a nodes.length 0 nodes.length (by omega) (by omega) (Nat.le_refl _) (fun p hp => absurd hp (Nat.not_lt_zero _)) (fun p h1 h2 => absurd h1 (by omega))
  generalize halved nodes a nodes.length 0 nodes.length = r at h1 h2
  refine ⟨(r : Nat),?_⟩
  congr 2
  rw [decide_eq_decide]
  constructor
  · rintro ⟨h3,h4⟩
    rcases Nat.lt_or_ge (plc nodes a) nodes.length with h5 | h5
    · exact h5
    exact absurd h4 (plc_before (by omega) h3)
  intro h3
  have h4 := plc_at h3
  have h5 : r ≤ plc nodes a := by
    rcases Nat.lt_or_ge (plc nodes a) r with h6 | h6
    · have := h1 _ h6
      omega
    exact h6
  have h6 := h2 r (Nat.le_refl _) (by omega)
  refine ⟨by omega,?_⟩
  rcases Nat.eq_or_lt_of_le h5 with h7 | h7
  · rw [h7]
    exact h4
  have := asc_lt nd r _ h7 h3
  omega
theorem order_tells (k : Nat) (hk : 4 ≤ k) (a b c d : Int) (x y : Nat) (u v : Bool) : graph_order.f k a b x u c d y v = some (if cmpI a c = 0 then cmpI b d else cmpI a c) := by
  unfold graph_order.f
  rw [cmpI_tells,Option.bind_some,cmpI_tells,Option.bind_some]
  obtain ⟨m,rfl⟩ : ∃ m,k = m + 3 := ⟨k - 3,by omega⟩
  have e1 : wrap64 ((0 : Int) + 1) = 1 := by unfold wrap64;omega
  have e2 : wrap64 ((1 : Int) + 1) = 2 := by unfold wrap64;omega
  have r0 : rd [cmpI a c,cmpI b d] 0 = cmpI a c := rfl
  have r1 : rd [cmpI a c,cmpI b d] 1 = cmpI b d := rfl
  have hl : (([cmpI a c,cmpI b d] : List Int).length : Int) = 2 := rfl
  unfold cmp_Or_int.f
  rw [hl]
  by_cases h : cmpI a c = 0
  · rw [if_pos h,cmp_Or_int.l0,if_pos (by decide),if_pos (by decide),if_pos (by rw [hl];decide),r0,if_pos h,e1]
    by_cases h2 : cmpI b d = 0
    · rw [cmp_Or_int.l0,if_pos (by decide),if_pos (by decide),if_pos (by rw [hl];decide),r1,if_pos h2,e2,cmp_Or_int.l0,if_neg (by decide),Option.bind_some,h2]
    rw [cmp_Or_int.l0,if_pos (by decide),if_pos (by decide),if_pos (by rw [hl];decide),r1,if_neg h2,Option.bind_some]
  rw [if_neg h,cmp_Or_int.l0,if_pos (by decide),if_pos (by decide),if_pos (by rw [hl];decide),r0,if_neg h,Option.bind_some]
theorem order_ge (a b c d : Int) : decide ((if cmpI a c = 0 then cmpI b d else cmpI a c) ≥ 0) = decide (a > c ∨ (a = c ∧ b ≥ d)) := by
  rw [decide_eq_decide]
  unfold cmpI
  split <;> rename_i h1 <;> (repeat' split at h1) <;> (repeat' split) <;> omega
theorem wrap_pred (i : Nat) (h0 : 0 < i) (h : i < 4611686018427387904) : wrap64 ((i : Int) - 1) = ((i - 1 : Nat) : Int) := by
  unfold wrap64
  omega
theorem Ev.mono {α : Type} {f g : Nat → Option α} {r : α} (N : Nat) (h : ∀ k,N ≤ k → f k = g k) (hg : Ev g r) : Ev f r := by
  obtain ⟨K,hK⟩ := hg
  exact ⟨max K N,fun k hk => by rw [h k (by omega)];exact hK k (by omega)⟩
theorem gl1_go {nodes : List S40} {links : List S74} (hF : Fits links) (nd : ∀ i,i < nodes.length → ndBad nodes i = false) (hn : nodes.length ≤ 256) (hl : links.length ≤ 4096) : ∀ (m i : Nat),links.length - i = m → i ≤ links.length →
    Ev (fun k => graph_Check.l1 k links (links.length : Int) (i : Int) nodes links) (lkSpec nodes links m i) := by
  intro m
  induction m with
  | zero =>
    intro i hm hi
    refine Ev.now 1 (fun k hk => ?_)
    obtain ⟨k,rfl⟩ : ∃ m,k = m + 1 := ⟨k - 1,by omega⟩
    show graph_Check.l1 (k + 1) _ _ _ _ _ = _
    rw [graph_Check.l1,if_neg (by omega)]
    rfl
  | succ m ihm =>
    intro i hm hi
    have hil : i < links.length := by omega
    obtain ⟨r0,hr0⟩ := node_tells links nd hn (links.getD i z74).f0
    obtain ⟨r1,hr1⟩ := node_tells links nd hn (links.getD i z74).f1
    have hj : Ev (fun k => graph_Check.j4 k links (links.length : Int) (i : Int) (lkBad nodes links i) nodes links (links.getD i z74).f0 (links.getD i z74).f1 (links.getD i z74).f2 (links.getD i z74).f3) (lkSpec nodes links (m + 1) i) := by
      unfold lkSpec
      by_cases hb : lkBad nodes links i = true
      · rw [if_pos hb]
        refine Ev.now 1 (fun k hk => ?_)
        obtain ⟨k,rfl⟩ : ∃ m,k = m + 1 := ⟨k - 1,by omega⟩
        show graph_Check.j4 (k + 1) _ _ _ _ _ _ _ _ _ _ = _
        rw [graph_Check.j4,if_pos hb]
      rw [if_neg hb]
      obtain ⟨-,hw,-⟩ := weight_all _ (hF.at i hil)
      by_cases h0 : wE (links.getD i z74).f2 = 0
      · rw [if_pos h0]
        refine Ev.step 0 (fun k hk => ?_) (ihm (i + 1) (by omega) (by omega))
        show graph_Check.j4 (k + 1) _ _ _ _ _ _ _ _ _ _ = _
        rw [graph_Check.j4,if_neg hb,hw,Option.bind_some,if_pos h0,wrap_succ i (by omega)]
      rw [if_neg h0]
      refine Ev.now 1 (fun k hk => ?_)
      obtain ⟨k,rfl⟩ : ∃ m,k = m + 1 := ⟨k - 1,by omega⟩
      show graph_Check.j4 (k + 1) _ _ _ _ _ _ _ _ _ _ = _
      rw [graph_Check.j4,if_neg hb,hw,Option.bind_some,if_neg h0]
    refine Ev.step 4 (fun k hk => ?_) hj
    show graph_Check.l1 (k + 1) _ _ _ _ _ = _
    rw [graph_Check.l1,if_pos (by omega),if_pos (by omega),if_pos (by omega),rd74,hr0,Option.bind_some,hr1,Option.bind_some]
    simp only [decide_eq_true_eq]
    unfold lkBad
    by_cases c0 : plc nodes (links.getD i z74).f0 < nodes.length
    rotate_left
    · rw [if_neg c0,decide_eq_true (Or.inr (Or.inl c0))]
    rw [if_pos c0]
    by_cases c1 : plc nodes (links.getD i z74).f1 < nodes.length
    rotate_left
    · rw [if_neg c1,decide_eq_true (Or.inr (Or.inr (Or.inl c1)))]
    rw [if_pos c1]
    by_cases c2 : (links.getD i z74).f0 ≥ (links.getD i z74).f1
    · rw [if_pos c2,decide_eq_true (Or.inl c2)]
    rw [if_neg c2]
    by_cases c3 : 0 < i
    · rw [if_pos (by omega),wrap_pred i c3 (by omega),if_pos (by omega),if_pos (by omega),rd74,order_tells k hk,Option.bind_some,order_ge]
      congr 1
      rw [decide_eq_decide]
      constructor
      · exact fun h => Or.inr (Or.inr (Or.inr ⟨c3,h⟩))
      intro h
      rcases h with h | h | h | h
      · exact absurd h c2
      · exact absurd c0 h
      · exact absurd c1 h
      exact h.2
    rw [if_neg (by omega)]
    congr 1
    symm
    apply decide_eq_false
    intro h
    rcases h with h | h | h | h
    · exact c2 h
    · exact h c0
    · exact h c1
    exact c3 h.1
theorem gl0_go {nodes : List S40} {links : List S74} (hF : Fits links) (hn : nodes.length ≤ 256) (hl : links.length ≤ 4096) : ∀ (m i : Nat),nodes.length - i = m → i ≤ nodes.length → (∀ j,j < i → ndBad nodes j = false) →
    Ev (fun k => graph_Check.l0 k nodes (nodes.length : Int) (i : Int) nodes links) (ndSpec nodes links m i) := by
  intro m
  induction m with
  | zero =>
    intro i hm hi hpre
    have hg := gl1_go hF (fun j hj => hpre j (by omega)) hn hl links.length 0 (by omega) (Nat.zero_le _)
    refine Ev.step 0 (fun k hk => ?_) hg
    show graph_Check.l0 (k + 1) _ _ _ _ _ = _
    rw [graph_Check.l0,if_neg (by omega)]
    rfl
  | succ m ihm =>
    intro i hm hi hpre
    have hil : i < nodes.length := by omega
    have hj : Ev (fun k => graph_Check.j2 k nodes (nodes.length : Int) (i : Int) (ndBad nodes i) nodes links) (ndSpec nodes links (m + 1) i) := by
      unfold ndSpec
      by_cases hb : ndBad nodes i = true
      · rw [if_pos hb]
        refine Ev.now 1 (fun k hk => ?_)
        obtain ⟨k,rfl⟩ : ∃ m,k = m + 1 := ⟨k - 1,by omega⟩
        show graph_Check.j2 (k + 1) _ _ _ _ _ _ = _
        rw [graph_Check.j2,if_pos hb]
      rw [if_neg hb]
      refine Ev.step 0 (fun k hk => ?_) (ihm (i + 1) (by omega) (by omega) (fun j hj => by
        rcases Nat.lt_or_ge j i with h | h
        · exact hpre j h
        obtain rfl : j = i := by omega
        simpa using hb))
      show graph_Check.j2 (k + 1) _ _ _ _ _ _ = _
      rw [graph_Check.j2,if_neg hb,wrap_succ i (by omega)]
    refine Ev.step 0 (fun k hk => ?_) hj
    show graph_Check.l0 (k + 1) _ _ _ _ _ = _
    rw [graph_Check.l0,if_pos (by omega),if_pos (by omega),if_pos (by omega),rd40]
    unfold ident_CheckId.f ndBad
    by_cases c0 : (nodes.getD i z40).f0 < 1
    · rw [if_pos c0,Option.bind_some,if_neg (by decide),decide_eq_true (Or.inl (by omega))]
    rw [if_neg c0]
    by_cases c1 : (nodes.getD i z40).f0 > 2147483647
    · rw [if_pos c1,Option.bind_some,if_neg (by decide),decide_eq_true (Or.inl (by omega))]
    rw [if_neg c1,Option.bind_some,if_pos rfl]
    by_cases c3 : 0 < i
    · rw [if_pos (by omega),wrap_pred i c3 (by omega),if_pos (by omega),if_pos (by omega),rd40]
      congr 1
      rw [decide_eq_decide]
      constructor
      · exact fun h => Or.inr ⟨c3,h⟩
      intro h
      rcases h with h | h
      · exact absurd ⟨by omega,by omega⟩ h
      exact h.2
    rw [if_neg (by omega)]
    congr 1
    symm
    apply decide_eq_false
    intro h
    rcases h with h | h
    · exact h ⟨by omega,by omega⟩
    exact c3 h.1
theorem graph_tells {nodes : List S40} {links : List S74} (hF : Fits links) : Ev (fun k => graph_Check.f k nodes links) (ckSpec nodes links) := by
  unfold ckSpec
  by_cases h0 : nodes.length > 256
  · rw [if_pos (Or.inl h0)]
    refine Ev.now 1 (fun k hk => ?_)
    obtain ⟨k,rfl⟩ : ∃ m,k = m + 1 := ⟨k - 1,by omega⟩
    unfold graph_Check.f
    rw [if_pos (by omega),graph_Check.j0,if_pos rfl]
  by_cases h1 : links.length > 4096
  · rw [if_pos (Or.inr h1)]
    refine Ev.now 1 (fun k hk => ?_)
    obtain ⟨k,rfl⟩ : ∃ m,k = m + 1 := ⟨k - 1,by omega⟩
    unfold graph_Check.f
    rw [if_neg (by omega),decide_eq_true (by omega),graph_Check.j0,if_pos rfl]
  rw [if_neg (by omega)]
  refine Ev.step 0 (fun k hk => ?_) (gl0_go hF (by omega) (by omega) nodes.length 0 (by omega) (Nat.zero_le _) (fun j hj => absurd hj (Nat.not_lt_zero _)))
  unfold graph_Check.f
  rw [if_neg (by omega),decide_eq_false (by omega),graph_Check.j0,if_neg (by decide)]
  rfl
theorem place7_go (nodes : List S40) (links : List S74) (id : Int) (hn : nodes.length ≤ 256) : ∀ (m i k : Nat),nodes.length - i = m → m < k → i ≤ nodes.length → (∀ j,j < i → (nodes.getD j z40).f0 ≠ id) → beaconref07_Place.l0 k id (i : Int) nodes links = some (if plc nodes id < nodes.length then (plc nodes id : Int) else -1)
  | m,i,0,_,h,_,_ => absurd h (Nat.not_lt_zero _)
  | m,i,k + 1,hm,hk,hi,hpre => by
    unfold beaconref07_Place.l0
    by_cases hin : i < nodes.length
    · rw [if_pos (by omega),if_pos (by omega),rd40]
      by_cases he : (nodes.getD i z40).f0 = id
      · have : plc nodes id = i := by
          rcases Nat.lt_trichotomy (plc nodes id) i with h | h | h
          · exact absurd (plc_at (by omega)) (hpre _ h)
          · exact h
          exact absurd he (plc_before h hin)
        rw [if_pos he,this,if_pos hin]
      rw [if_neg he,wrap_succ i (by omega)]
      exact place7_go nodes links id hn (m - 1) (i + 1) k (by omega) (by omega) (by omega) (fun j hj => by
        rcases Nat.lt_or_ge j i with h | h
        · exact hpre j h
        obtain rfl : j = i := by omega
        exact he)
    rw [if_neg (by omega)]
    have : ¬ plc nodes id < nodes.length := fun h => hpre (plc nodes id) (by omega) (plc_at h)
    rw [if_neg this]
theorem place7_tells (nodes : List S40) (links : List S74) (id : Int) (hn : nodes.length ≤ 256) (k : Nat) (hk : 257 ≤ k) : beaconref07_Place.f k nodes links id = some (if plc nodes id < nodes.length then (plc nodes id : Int) else -1) :=
  place7_go nodes links id hn nodes.length 0 k (by omega) (by omega) (Nat.zero_le _) (fun j hj => absurd hj (Nat.not_lt_zero _))
theorem rl1_go {nodes : List S40} {links : List S74} (hF : Fits links) (hn : nodes.length ≤ 256) (hl : links.length ≤ 4096) : ∀ (m i : Nat),links.length - i = m → i ≤ links.length →
    Ev (fun k => beaconref07_Check.l1 k (i : Int) nodes links) (lkSpec nodes links m i) := by
  intro m
  induction m with
  | zero =>
    intro i hm hi
    refine Ev.now 1 (fun k hk => ?_)
    obtain ⟨k,rfl⟩ : ∃ m,k = m + 1 := ⟨k - 1,by omega⟩
    show beaconref07_Check.l1 (k + 1) _ _ _ = _
    rw [beaconref07_Check.l1,if_neg (by omega)]
    rfl
  | succ m ihm =>
    intro i hm hi
    have hil : i < links.length := by omega
    have dead4 : ∀ (N : Nat),lkBad nodes links i = true → Ev (fun k => beaconref07_Check.j4 k (i : Int) true nodes links (links.getD i z74).f0 (links.getD i z74).f1 (links.getD i z74).f2 (links.getD i z74).f3) (lkSpec nodes links (m + 1) i) := by
      intro N hb
      unfold lkSpec
      rw [if_pos hb]
      refine Ev.now 1 (fun k hk => ?_)
      obtain ⟨k,rfl⟩ : ∃ m,k = m + 1 := ⟨k - 1,by omega⟩
      show beaconref07_Check.j4 (k + 1) _ _ _ _ _ _ _ _ = _
      rw [beaconref07_Check.j4,if_pos rfl]
    have j5 : Ev (fun k => beaconref07_Check.j5 k (i : Int) (lkBad nodes links i) nodes links (links.getD i z74).f0 (links.getD i z74).f1 (links.getD i z74).f2 (links.getD i z74).f3) (lkSpec nodes links (m + 1) i) := by
      unfold lkSpec
      by_cases hb : lkBad nodes links i = true
      · rw [if_pos hb]
        refine Ev.now 1 (fun k hk => ?_)
        obtain ⟨k,rfl⟩ : ∃ m,k = m + 1 := ⟨k - 1,by omega⟩
        show beaconref07_Check.j5 (k + 1) _ _ _ _ _ _ _ _ = _
        rw [beaconref07_Check.j5,if_pos hb]
      rw [if_neg hb]
      obtain ⟨hw,-,-⟩ := weight_all _ (hF.at i hil)
      by_cases h0 : wE (links.getD i z74).f2 = 0
      · rw [if_pos h0]
        refine Ev.step 0 (fun k hk => ?_) (ihm (i + 1) (by omega) (by omega))
        show beaconref07_Check.j5 (k + 1) _ _ _ _ _ _ _ _ = _
        rw [beaconref07_Check.j5,if_neg hb,hw,Option.bind_some,if_pos h0,wrap_succ i (by omega)]
      rw [if_neg h0]
      refine Ev.now 1 (fun k hk => ?_)
      obtain ⟨k,rfl⟩ : ∃ m,k = m + 1 := ⟨k - 1,by omega⟩
      show beaconref07_Check.j5 (k + 1) _ _ _ _ _ _ _ _ = _
      rw [beaconref07_Check.j5,if_neg hb,hw,Option.bind_some,if_neg h0]
    by_cases c2 : (links.getD i z74).f0 ≥ (links.getD i z74).f1
    · refine Ev.step 257 (fun k hk => ?_) (dead4 0 (decide_eq_true (Or.inl c2)))
      show beaconref07_Check.l1 (k + 1) _ _ _ = _
      rw [beaconref07_Check.l1,if_pos (by omega),if_pos (by omega),rd74,if_pos c2]
    by_cases c0 : plc nodes (links.getD i z74).f0 < nodes.length
    · by_cases c1 : plc nodes (links.getD i z74).f1 < nodes.length
      · have j4 : Ev (fun k => beaconref07_Check.j4 k (i : Int) false nodes links (links.getD i z74).f0 (links.getD i z74).f1 (links.getD i z74).f2 (links.getD i z74).f3) (lkSpec nodes links (m + 1) i) := by
          refine Ev.step 0 (fun k hk => ?_) j5
          show beaconref07_Check.j4 (k + 1) _ _ _ _ _ _ _ _ = _
          rw [beaconref07_Check.j4,if_neg (by decide)]
          by_cases c3 : 0 < i
          · rw [if_pos (by omega),wrap_pred i c3 (by omega),if_pos (by omega),if_pos (by omega),rd74]
            by_cases c4 : (links.getD (i - 1) z74).f0 > (links.getD i z74).f0
            · rw [if_pos c4]
              have : lkBad nodes links i = true := decide_eq_true (Or.inr (Or.inr (Or.inr ⟨c3,Or.inl c4⟩)))
              rw [this]
            rw [if_neg c4]
            by_cases c5 : (links.getD (i - 1) z74).f0 = (links.getD i z74).f0
            · rw [if_pos c5]
              congr 1
              unfold lkBad
              rw [decide_eq_decide]
              constructor
              · exact fun h => Or.inr (Or.inr (Or.inr ⟨c3,Or.inr ⟨c5,h⟩⟩))
              intro h
              rcases h with h | h | h | h
              · exact absurd h c2
              · exact absurd c0 h
              · exact absurd c1 h
              rcases h.2 with h | h
              · exact absurd h c4
              exact h.2
            rw [if_neg c5]
            have : lkBad nodes links i = false := by
              apply decide_eq_false
              intro h
              rcases h with h | h | h | h
              · exact c2 h
              · exact h c0
              · exact h c1
              rcases h.2 with h | h
              · exact c4 h
              exact c5 h.1
            rw [this]
          rw [if_neg (by omega)]
          have : lkBad nodes links i = false := by
            apply decide_eq_false
            intro h
            rcases h with h | h | h | h
            · exact c2 h
            · exact h c0
            · exact h c1
            exact c3 h.1
          rw [this]
        refine Ev.step 257 (fun k hk => ?_) j4
        show beaconref07_Check.l1 (k + 1) _ _ _ = _
        rw [beaconref07_Check.l1,if_pos (by omega),if_pos (by omega),rd74,if_neg c2,place7_tells nodes links _ hn k hk,if_pos c0,Option.bind_some,if_neg (by omega),place7_tells nodes links _ hn k hk,if_pos c1,Option.bind_some,decide_eq_false (by omega)]
      refine Ev.step 257 (fun k hk => ?_) (dead4 0 (decide_eq_true (Or.inr (Or.inr (Or.inl c1)))))
      show beaconref07_Check.l1 (k + 1) _ _ _ = _
      rw [beaconref07_Check.l1,if_pos (by omega),if_pos (by omega),rd74,if_neg c2,place7_tells nodes links _ hn k hk,if_pos c0,Option.bind_some,if_neg (by omega),place7_tells nodes links _ hn k hk,if_neg c1,Option.bind_some,decide_eq_true (by decide)]
    refine Ev.step 257 (fun k hk => ?_) (dead4 0 (decide_eq_true (Or.inr (Or.inl c0))))
    show beaconref07_Check.l1 (k + 1) _ _ _ = _
    rw [beaconref07_Check.l1,if_pos (by omega),if_pos (by omega),rd74,if_neg c2,place7_tells nodes links _ hn k hk,if_neg c0,Option.bind_some,if_pos (by decide)]
theorem rl0_go {nodes : List S40} {links : List S74} (hF : Fits links) (hn : nodes.length ≤ 256) (hl : links.length ≤ 4096) : ∀ (m i : Nat),nodes.length - i = m → i ≤ nodes.length →
    Ev (fun k => beaconref07_Check.l0 k (i : Int) nodes links) (ndSpec nodes links m i) := by
  intro m
  induction m with
  | zero =>
    intro i hm hi
    have hg := rl1_go (nodes := nodes) hF hn hl links.length 0 (by omega) (Nat.zero_le _)
    refine Ev.step 0 (fun k hk => ?_) hg
    show beaconref07_Check.l0 (k + 1) _ _ _ = _
    rw [beaconref07_Check.l0,if_neg (by omega)]
    rfl
  | succ m ihm =>
    intro i hm hi
    have hil : i < nodes.length := by omega
    have hj : Ev (fun k => beaconref07_Check.j2 k (i : Int) (ndBad nodes i) nodes links) (ndSpec nodes links (m + 1) i) := by
      unfold ndSpec
      by_cases hb : ndBad nodes i = true
      · rw [if_pos hb]
        refine Ev.now 1 (fun k hk => ?_)
        obtain ⟨k,rfl⟩ : ∃ m,k = m + 1 := ⟨k - 1,by omega⟩
        show beaconref07_Check.j2 (k + 1) _ _ _ _ = _
        rw [beaconref07_Check.j2,if_pos hb]
      rw [if_neg hb]
      refine Ev.step 0 (fun k hk => ?_) (ihm (i + 1) (by omega) (by omega))
      show beaconref07_Check.j2 (k + 1) _ _ _ _ = _
      rw [beaconref07_Check.j2,if_neg hb,wrap_succ i (by omega)]
    refine Ev.step 0 (fun k hk => ?_) hj
    show beaconref07_Check.l0 (k + 1) _ _ _ = _
    rw [beaconref07_Check.l0,if_pos (by omega),if_pos (by omega),rd40]
    unfold beaconref02_CheckId.f ndBad
    by_cases c0 : (nodes.getD i z40).f0 < 1
    · rw [if_pos c0,Option.bind_some,if_neg (by decide),decide_eq_true (Or.inl (by omega))]
    rw [if_neg c0]
    by_cases c1 : (nodes.getD i z40).f0 > 2147483647
    · rw [if_pos c1,Option.bind_some,if_neg (by decide),decide_eq_true (Or.inl (by omega))]
    rw [if_neg c1,Option.bind_some,if_pos rfl]
    by_cases c3 : 0 < i
    · rw [if_pos (by omega),wrap_pred i c3 (by omega),if_pos (by omega),if_pos (by omega),rd40]
      congr 1
      rw [decide_eq_decide]
      constructor
      · exact fun h => Or.inr ⟨c3,h⟩
      intro h
      rcases h with h | h
      · exact absurd ⟨by omega,by omega⟩ h
      exact h.2
    rw [if_neg (by omega)]
    congr 1
    symm
    apply decide_eq_false
    intro h
    rcases h with h | h
    · exact h ⟨by omega,by omega⟩
    exact c3 h.1
theorem ref_tells {nodes : List S40} {links : List S74} (hF : Fits links) : Ev (fun k => beaconref07_Check.f k nodes links) (ckSpec nodes links) := by
  unfold ckSpec
  by_cases h0 : nodes.length > 256
  · rw [if_pos (Or.inl h0)]
    refine Ev.now 1 (fun k hk => ?_)
    obtain ⟨k,rfl⟩ : ∃ m,k = m + 1 := ⟨k - 1,by omega⟩
    unfold beaconref07_Check.f
    rw [if_pos (by omega),beaconref07_Check.j0,if_pos rfl]
  by_cases h1 : links.length > 4096
  · rw [if_pos (Or.inr h1)]
    refine Ev.now 1 (fun k hk => ?_)
    obtain ⟨k,rfl⟩ : ∃ m,k = m + 1 := ⟨k - 1,by omega⟩
    unfold beaconref07_Check.f
    rw [if_neg (by omega),decide_eq_true (by omega),beaconref07_Check.j0,if_pos rfl]
  rw [if_neg (by omega)]
  refine Ev.step 0 (fun k hk => ?_) (rl0_go hF (by omega) (by omega) nodes.length 0 (by omega) (Nat.zero_le _))
  unfold beaconref07_Check.f
  rw [if_neg (by omega),decide_eq_false (by omega),beaconref07_Check.j0,if_neg (by decide)]
  rfl
end Go.Proofs.Ytmdkcecbklgihaa.PA
