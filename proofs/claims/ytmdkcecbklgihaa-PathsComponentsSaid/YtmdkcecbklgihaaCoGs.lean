/- The document's components are those of who reaches whom. Conditions: weights are words. -/
import Derived.Test.YtmdkcecbklgihaaCoGr
import Derived.Test.YtmdkcecbklgihaaCoPAx22
namespace Go.Proofs.Ytmdkcecbklgihaa.PA
open Go.RowKit Go.Proofs.YtmdkcecbklgihaaW.PrintWords
open Classical
set_option linter.unusedVariables false
set_option linter.unusedSimpArgs false
set_option linter.unusedSectionVars false
theorem rd_at (xs : List Int) (i : Nat) : rd xs (i : Int) = xs.getD i 0 := by
  unfold rd
  rw [Int.toNat_natCast]
theorem getD_setI (xs : List Int) (i p : Nat) (x : Int) (hi : i < xs.length) : (xs.set i x).getD p 0 = if p = i then x else xs.getD p 0 := by
  simp only [List.getD_eq_getElem?_getD,List.getElem?_set]
  by_cases h : i = p
  · subst h
    simp [hi]
  rw [if_neg h,if_neg (fun h2 => h h2.symm)]
structure LInv (nodes : List S40) (R : Adj) (x : List Int) : Prop where
  len : x.length = nodes.length
  le : ∀ p,p < nodes.length → x.getD p 0 ≤ idAt nodes p
  some : ∀ p,p < nodes.length → ∃ r,r < nodes.length ∧ Rch R p r ∧ x.getD p 0 = idAt nodes r
def mu (x : List Int) : Nat := (x.map Int.toNat).sum
theorem getD_toNat (x : List Int) (p : Nat) : (x.map Int.toNat).getD p 0 = (x.getD p 0).toNat := by
  simp only [List.getD_eq_getElem?_getD,List.getElem?_map]
  cases x[p]? <;> simp
theorem mu_set (x : List Int) (p : Nat) (v : Int) (hp : p < x.length) : mu (x.set p v) + (x.getD p 0).toNat = mu x + v.toNat := by
  have := sum_set (x.map Int.toNat) p v.toNat (by simpa using hp)
  rw [getD_toNat] at this
  unfold mu
  rw [List.map_set]
  exact this
theorem set_self (x : List Int) (p : Nat) (hp : p < x.length) : x.set p (x.getD p 0) = x := by
  apply List.ext_getElem?
  intro i
  rw [List.getElem?_set]
  by_cases h : p = i
  · subst h
    simp [hp,List.getD_eq_getElem?_getD]
  rw [if_neg h]
section
variable {nodes : List S40} {links : List S74} (G : Good nodes links)
include G
theorem LInv.lower {x : List Int} (h : LInv nodes (adjQ wqOf nodes links) x) {a b : Nat} (ha : a < nodes.length) (hb : b < nodes.length) (hr : Rch (adjQ wqOf nodes links) a b) (hlt : x.getD b 0 < x.getD a 0) : LInv nodes (adjQ wqOf nodes links) (x.set a (x.getD b 0)) ∧ mu (x.set a (x.getD b 0)) < mu x := by
  have hal : a < x.length := by rw [h.len];exact ha
  refine ⟨⟨by rw [List.length_set];exact h.len,fun p hp => ?_,fun p hp => ?_⟩,?_⟩
  · rw [getD_setI x a p _ hal]
    split
    · rename_i he
      subst he
      have := h.le p hp
      omega
    exact h.le p hp
  · rw [getD_setI x a p _ hal]
    split
    · rename_i he
      subst he
      obtain ⟨r,r1,r2,r3⟩ := h.some b hb
      exact ⟨r,r1,hr.trans r2,r3⟩
    exact h.some p hp
  have h1 := mu_set x a (x.getD b 0) hal
  obtain ⟨r,r1,r2,r3⟩ := h.some b hb
  have h2 := (G.id r r1).1
  have h3 : 1 ≤ x.getD b 0 := by rw [r3];exact h2
  omega
def CalmL (nodes : List S40) (x : List Int) (l : S74) : Prop := live nodes l → x.getD (plc nodes l.f0) 0 = x.getD (plc nodes l.f1) 0
theorem live_rch {l : S74} (hl : l ∈ links) (h : live nodes l) : Rch (adjQ wqOf nodes links) (plc nodes l.f0) (plc nodes l.f1) ∧ Rch (adjQ wqOf nodes links) (plc nodes l.f1) (plc nodes l.f0) := by
  have h1 : Rch (adjQ wqOf nodes links) (plc nodes l.f0) (plc nodes l.f1) := (Rch.refl _ _).step (e := (plc nodes l.f1,wqOf l.f2)) ((mem_adjQ wqOf nodes links G.ends _ _).2 ⟨l,hl,h,Or.inl ⟨rfl,rfl⟩⟩)
  exact ⟨h1,h1.symm (sym_adj G)⟩
theorem l2_skip {x : List Int} (hlen : x.length = nodes.length) {i : Nat} (hi : i < links.length) (hc : CalmL nodes x (links.getD i z74)) (flag : Bool) (r : (List (List Int)) × Int) (h : Ev (fun k => beaconref08_Components.l2 k x flag ((i + 1 : Nat) : Int) nodes links) r) : Ev (fun k => beaconref08_Components.l2 k x flag (i : Int) nodes links) r := by
  have hn := G.n256
  have hl4 := G.l4096
  have hmem : links.getD i z74 ∈ links := by simp [List.getD_eq_getElem?_getD,hi]
  obtain ⟨e0,e1⟩ := G.ends _ hmem
  have hj : Ev (fun k => beaconref08_Components.j3 k x flag (i : Int) (plc nodes (links.getD i z74).f0 : Int) (plc nodes (links.getD i z74).f1 : Int) false nodes links) r := by
    refine Ev.step 0 (fun k _ => ?_) h
    show beaconref08_Components.j3 (k + 1) _ _ _ _ _ _ _ _ = _
    rw [beaconref08_Components.j3,if_neg (by decide),wrap_succ i (by omega)]
  refine Ev.step 257 (fun k hk => ?_) hj
  show beaconref08_Components.l2 (k + 1) _ _ _ _ _ = _
  rw [beaconref08_Components.l2,if_pos (by omega),if_pos (by omega),rd74,place_tells nodes links _ hn k hk,if_pos e0,Option.bind_some,place_tells nodes links _ hn k hk,if_pos e1,Option.bind_some]
  by_cases c3 : (links.getD i z74).f3 = true
  · rw [if_pos c3,if_pos (by omega),if_pos (by omega),rd40]
    by_cases ca : (nodes.getD (plc nodes (links.getD i z74).f0) z40).f1 = true
    · rw [if_pos ca,if_pos (by omega),if_pos (by omega),rd40]
      by_cases cb : (nodes.getD (plc nodes (links.getD i z74).f1) z40).f1 = true
      · rw [if_pos cb,if_pos (by omega),if_pos (by omega),rd_at,rd_at,hc ⟨c3,ca,cb⟩,bne_self_eq_false]
      rw [if_neg cb]
    rw [if_neg ca]
  rw [if_neg c3]
theorem l2_turn {x : List Int} (hlen : x.length = nodes.length) {i : Nat} (hi : i < links.length) (hv : live nodes (links.getD i z74)) (hne : x.getD (plc nodes (links.getD i z74).f0) 0 ≠ x.getD (plc nodes (links.getD i z74).f1) 0) (flag : Bool) (r : (List (List Int)) × Int)
    (h : Ev (fun k => beaconref08_Components.l2 k (if x.getD (plc nodes (links.getD i z74).f1) 0 < x.getD (plc nodes (links.getD i z74).f0) 0 then x.set (plc nodes (links.getD i z74).f0) (x.getD (plc nodes (links.getD i z74).f1) 0) else x.set (plc nodes (links.getD i z74).f1) (x.getD (plc nodes (links.getD i z74).f0) 0)) true ((i + 1 : Nat) : Int) nodes links) r) :
    Ev (fun k => beaconref08_Components.l2 k x flag (i : Int) nodes links) r := by
  have hn := G.n256
  have hl4 := G.l4096
  have hmem : links.getD i z74 ∈ links := by simp [List.getD_eq_getElem?_getD,hi]
  obtain ⟨e0,e1⟩ := G.ends _ hmem
  obtain ⟨c3,ca,cb⟩ := hv
  have hj : Ev (fun k => beaconref08_Components.j3 k x flag (i : Int) (plc nodes (links.getD i z74).f0 : Int) (plc nodes (links.getD i z74).f1 : Int) true nodes links) r := by
    refine Ev.step 0 (fun k _ => ?_) h
    show beaconref08_Components.j3 (k + 1) _ _ _ _ _ _ _ _ = _
    rw [beaconref08_Components.j3,if_pos rfl,if_pos (by omega),if_pos (by omega),if_pos (by omega),if_pos (by omega),rd_at,rd_at,wrap_succ i (by omega)]
    have hself : ∀ y : List Int,∀ p v,(y.set p v).set p v = y.set p v := fun y p v => by simp
    by_cases hc : x.getD (plc nodes (links.getD i z74).f1) 0 < x.getD (plc nodes (links.getD i z74).f0) 0
    · rw [if_pos hc,if_pos hc,Int.toNat_natCast,Int.toNat_natCast]
      congr 1
      have h2 := set_self (x.set (plc nodes (links.getD i z74).f0) (x.getD (plc nodes (links.getD i z74).f1) 0)) (plc nodes (links.getD i z74).f1) (by rw [List.length_set];omega)
      rw [getD_setI _ _ _ _ (by omega),if_neg (by intro h;rw [h] at hc;exact absurd hc (Int.lt_irrefl _))] at h2
      exact h2
    rw [if_neg hc,if_neg hc,Int.toNat_natCast,Int.toNat_natCast,set_self x _ (by omega)]
  refine Ev.step 257 (fun k hk => ?_) hj
  show beaconref08_Components.l2 (k + 1) _ _ _ _ _ = _
  rw [beaconref08_Components.l2,if_pos (by omega),if_pos (by omega),rd74,place_tells nodes links _ hn k hk,if_pos e0,Option.bind_some,place_tells nodes links _ hn k hk,if_pos e1,Option.bind_some,if_pos c3,if_pos (by omega),if_pos (by omega),rd40,if_pos ca,if_pos (by omega),if_pos (by omega),rd40,if_pos cb,if_pos (by omega),if_pos (by omega),rd_at,rd_at]
  congr 1
  exact bne_iff_ne.2 hne
theorem l2_pass (r : (List (List Int)) × Int) (S : Nat) (H1 : ∀ x,LInv nodes (adjQ wqOf nodes links) x → mu x < S → Ev (fun k => beaconref08_Components.l1 k x true nodes links) r)
    (H2 : ∀ x,LInv nodes (adjQ wqOf nodes links) x → (∀ l ∈ links,CalmL nodes x l) → Ev (fun k => beaconref08_Components.l3 k x [] 0 nodes links) r) : ∀ (m i : Nat) (x : List Int) (flag : Bool),links.length - i = m → i ≤ links.length → LInv nodes (adjQ wqOf nodes links) x → mu x ≤ S → (flag = true → mu x < S) → (flag = false → ∀ j,j < i → CalmL nodes x (links.getD j z74)) →
    Ev (fun k => beaconref08_Components.l2 k x flag (i : Int) nodes links) r := by
  intro m
  induction m with
  | zero =>
    intro i x flag hm hi hx hS hf hc
    obtain rfl : i = links.length := by omega
    have h1 : Ev (fun k => beaconref08_Components.l1 k x flag nodes links) r := by
      cases flag with
      | true => exact H1 x hx (hf rfl)
      | false =>
        refine Ev.step 0 (fun k _ => ?_) (H2 x hx (fun l hl => by
          obtain ⟨j,hj,rfl⟩ := getD_mem74 hl
          exact hc rfl j hj))
        show beaconref08_Components.l1 (k + 1) _ _ _ _ = _
        rw [beaconref08_Components.l1,if_neg (by decide)]
    refine Ev.step 0 (fun k _ => ?_) h1
    show beaconref08_Components.l2 (k + 1) _ _ _ _ _ = _
    rw [beaconref08_Components.l2,if_neg (by omega)]
  | succ m ihm =>
    intro i x flag hm hi hx hS hf hc
    have hil : i < links.length := by omega
    have hmem : links.getD i z74 ∈ links := by simp [List.getD_eq_getElem?_getD,hil]
    obtain ⟨e0,e1⟩ := G.ends _ hmem
    by_cases hcalm : CalmL nodes x (links.getD i z74)
    · refine l2_skip G hx.len hil hcalm flag r (ihm (i + 1) x flag (by omega) (by omega) hx hS hf (fun hfl j hj => ?_))
      rcases Nat.lt_or_ge j i with h | h
      · exact hc hfl j h
      obtain rfl : j = i := by omega
      exact hcalm
    have hv : live nodes (links.getD i z74) := Classical.byContradiction (fun h => hcalm (fun h2 => absurd h2 h))
    have hne : x.getD (plc nodes (links.getD i z74).f0) 0 ≠ x.getD (plc nodes (links.getD i z74).f1) 0 := fun h => hcalm (fun _ => h)
    obtain ⟨r1,r2⟩ := live_rch G hmem hv
    refine l2_turn G hx.len hil hv hne flag r ?_
    by_cases hlt : x.getD (plc nodes (links.getD i z74).f1) 0 < x.getD (plc nodes (links.getD i z74).f0) 0
    · rw [if_pos hlt]
      obtain ⟨g1,g2⟩ := hx.lower G e0 e1 r1 hlt
      exact ihm (i + 1) _ true (by omega) (by omega) g1 (by omega) (fun _ => by omega) (fun h => by cases h)
    rw [if_neg hlt]
    obtain ⟨g1,g2⟩ := hx.lower G e1 e0 r2 (by omega)
    exact ihm (i + 1) _ true (by omega) (by omega) g1 (by omega) (fun _ => by omega) (fun h => by cases h)
theorem l1_all (r : (List (List Int)) × Int) (H2 : ∀ x,LInv nodes (adjQ wqOf nodes links) x → (∀ l ∈ links,CalmL nodes x l) → Ev (fun k => beaconref08_Components.l3 k x [] 0 nodes links) r) : ∀ (S : Nat) (x : List Int),LInv nodes (adjQ wqOf nodes links) x → mu x ≤ S →
    Ev (fun k => beaconref08_Components.l1 k x true nodes links) r := by
  intro S
  induction S with
  | zero =>
    intro x hx hS
    refine Ev.step 0 (fun k _ => ?_) (l2_pass G r (mu x) (fun x' _ h => absurd h (by omega)) H2 links.length 0 x false (by omega) (Nat.zero_le _) hx (Nat.le_refl _) (fun h => by cases h) (fun _ j hj => absurd hj (Nat.not_lt_zero _)))
    show beaconref08_Components.l1 (k + 1) _ _ _ _ = _
    rw [beaconref08_Components.l1,if_pos rfl]
    rfl
  | succ S ih =>
    intro x hx hS
    refine Ev.step 0 (fun k _ => ?_) (l2_pass G r (mu x) (fun x' hx' h => ih x' hx' (by omega)) H2 links.length 0 x false (by omega) (Nat.zero_le _) hx (Nat.le_refl _) (fun h => by cases h) (fun _ j hj => absurd hj (Nat.not_lt_zero _)))
    show beaconref08_Components.l1 (k + 1) _ _ _ _ = _
    rw [beaconref08_Components.l1,if_pos rfl]
    rfl
section
variable {x : List Int} (hx : LInv nodes (adjQ wqOf nodes links) x) (hc : ∀ l ∈ links,CalmL nodes x l)
include hx hc
theorem calm_rch {i p : Nat} (h : Rch (adjQ wqOf nodes links) i p) : x.getD p 0 = x.getD i 0 := by
  refine h.ind (fun p => x.getD p 0 = x.getD i 0) rfl ?_
  intro r e hr he
  obtain ⟨l,hl,h1,h2⟩ := (mem_adjQ wqOf nodes links G.ends r e).1 he
  have h3 := hc l hl h1
  rcases h2 with ⟨rfl,rfl⟩ | ⟨rfl,rfl⟩
  · rw [← hr]
    exact h3.symm
  rw [← hr]
  exact h3
theorem id_inj {p r : Nat} (hp : p < nodes.length) (hr : r < nodes.length) (h : idAt nodes p = idAt nodes r) : p = r := by
  have h1 := Good.plc_inj G.nd hp (rfl : (nodes.getD p z40).f0 = idAt nodes p)
  have h2 := Good.plc_inj G.nd hr (rfl : (nodes.getD r z40).f0 = idAt nodes r)
  exact h1.symm.trans ((congrArg (plc nodes) h).trans h2)
theorem id_lt {p r : Nat} (hr : r < nodes.length) (h : p < r) : idAt nodes p < idAt nodes r := asc_lt G.nd p r h hr
theorem head_iff {i : Nat} (hi : i < nodes.length) (hu : (nodes.getD i z40).f1 = true) : Head nodes (adjQ wqOf nodes links) i ↔ x.getD i 0 = idAt nodes i := by
  obtain ⟨r,r1,r2,r3⟩ := hx.some i hi
  constructor
  · intro h
    have h1 := hx.le i hi
    rw [r3] at h1
    rcases Nat.lt_trichotomy r i with h2 | h2 | h2
    · exact absurd r2 (h.2 r h2)
    · rw [r3,h2]
    have := id_lt G hx hc r1 h2
    omega
  intro h
  refine ⟨hu,fun p hp hr => ?_⟩
  have h1 := calm_rch G hx hc hr
  have h2 := hx.le p (by omega)
  have h3 := id_lt G hx hc hi hp
  omega
theorem same_iff {i p : Nat} (hi : i < nodes.length) (hp : p < nodes.length) (hh : x.getD i 0 = idAt nodes i) : x.getD p 0 = x.getD i 0 ↔ Rch (adjQ wqOf nodes links) i p := by
  constructor
  · intro h
    obtain ⟨r,r1,r2,r3⟩ := hx.some p hp
    have : r = i := id_inj G hx hc r1 hi (by rw [← r3,h,hh])
    rw [this] at r2
    exact r2.symm (sym_adj G)
  exact calm_rch G hx hc
noncomputable def compTo (nodes : List S40) (R : Adj) (i c : Nat) : List Int := idsOf nodes ((List.range c).filter fun p => decide (Rch R i p))
theorem compTo_succ (R : Adj) (i c : Nat) : compTo nodes R i (c + 1) = if Rch R i c then compTo nodes R i c ++ [idAt nodes c] else compTo nodes R i c := by
  unfold compTo idsOf
  rw [List.range_succ,List.filter_append,List.map_append]
  by_cases h : Rch R i c
  · rw [if_pos h,List.filter_cons,if_pos (decide_eq_true h)]
    rfl
  rw [if_neg h,List.filter_cons,if_neg (by simpa using h)]
  simp
theorem compTo_len (R : Adj) (i c : Nat) : (compTo nodes R i c).length ≤ c := by
  unfold compTo idsOf
  rw [List.length_map]
  exact Nat.le_trans (List.length_filter_le _ _) (by simp)
theorem compsTo_len (R : Adj) (n j : Nat) : (compsTo nodes R n j).length ≤ j := by
  unfold compsTo
  rw [List.length_map]
  exact Nat.le_trans (List.length_filter_le _ _) (by simp)
theorem l4_go {i : Nat} (hi : i < nodes.length) (hu : (nodes.getD i z40).f1 = true) (hh : x.getD i 0 = idAt nodes i) (acc : List (List Int)) (hacc : acc.length ≤ 256) (r : (List (List Int)) × Int)
    (h : Ev (fun k => beaconref08_Components.l3 k x (acc ++ [compTo nodes (adjQ wqOf nodes links) i nodes.length]) ((i + 1 : Nat) : Int) nodes links) r) : ∀ (m c : Nat),nodes.length - c = m → c ≤ nodes.length →
    Ev (fun k => beaconref08_Components.l4 k x acc (i : Int) (compTo nodes (adjQ wqOf nodes links) i c) (c : Int) nodes links) r := by
  have hn := G.n256
  have hlen := hx.len
  intro m
  induction m with
  | zero =>
    intro c hm hcl
    obtain rfl : c = nodes.length := by omega
    refine Ev.step 0 (fun k _ => ?_) h
    show beaconref08_Components.l4 (k + 1) _ _ _ _ _ _ _ = _
    rw [beaconref08_Components.l4,if_neg (by omega),if_pos (by omega),wrap_succ i (by omega)]
  | succ m ihm =>
    intro c hm hcl
    have hcl2 : c < nodes.length := by omega
    have hl := compTo_len G hx hc (adjQ wqOf nodes links) i c
    refine Ev.step 0 (fun k _ => ?_) (ihm (c + 1) (by omega) (by omega))
    show beaconref08_Components.l4 (k + 1) _ _ _ _ _ _ _ = _
    rw [beaconref08_Components.l4,if_pos (by omega),if_pos (by omega),rd40,compTo_succ G hx hc,wrap_succ c (by omega)]
    by_cases hup : (nodes.getD c z40).f1 = true
    · rw [if_pos hup,if_pos (by omega),if_pos (by omega),if_pos (by omega),rd_at,rd_at]
      have hs := same_iff G hx hc hi hcl2 hh
      by_cases hr : Rch (adjQ wqOf nodes links) i c
      · rw [if_pos hr,if_pos (hs.2 hr),if_pos (by omega)]
        rfl
      rw [if_neg hr,if_neg (fun h => hr (hs.1 h))]
    rw [if_neg hup,if_neg (fun hr => hup (up_reach G hi hu hr).2)]
theorem l3_go : ∀ (m i : Nat),nodes.length - i = m → i ≤ nodes.length →
    Ev (fun k => beaconref08_Components.l3 k x ((compsTo nodes (adjQ wqOf nodes links) nodes.length i).map (idsOf nodes)) (i : Int) nodes links) ((compsTo nodes (adjQ wqOf nodes links) nodes.length nodes.length).map (idsOf nodes),0) := by
  have hn := G.n256
  have hlen := hx.len
  intro m
  induction m with
  | zero =>
    intro i hm hi
    obtain rfl : i = nodes.length := by omega
    refine Ev.now 1 (fun k hk => ?_)
    obtain ⟨k,rfl⟩ : ∃ m,k = m + 1 := ⟨k - 1,by omega⟩
    show beaconref08_Components.l3 (k + 1) _ _ _ _ _ = _
    rw [beaconref08_Components.l3,if_neg (by omega)]
  | succ m ihm =>
    intro i hm hi
    have hil : i < nodes.length := by omega
    have ih := ihm (i + 1) (by omega) (by omega)
    rw [compsTo_succ] at ih
    have skip : ¬ Head nodes (adjQ wqOf nodes links) i → Ev (fun k => beaconref08_Components.j5 k x ((compsTo nodes (adjQ wqOf nodes links) nodes.length i).map (idsOf nodes)) (i : Int) true nodes links) ((compsTo nodes (adjQ wqOf nodes links) nodes.length nodes.length).map (idsOf nodes),0) := by
      intro hh
      rw [if_neg hh] at ih
      refine Ev.step 0 (fun k _ => ?_) ih
      show beaconref08_Components.j5 (k + 1) _ _ _ _ _ _ = _
      rw [beaconref08_Components.j5,if_pos rfl,wrap_succ i (by omega)]
    by_cases hup : (nodes.getD i z40).f1 = true
    · have hiff := head_iff G hx hc hil hup
      by_cases hh : Head nodes (adjQ wqOf nodes links) i
      · rw [if_pos hh,List.map_append] at ih
        have h4 := l4_go G hx hc hil hup (hiff.1 hh) _ (by rw [List.length_map];have := compsTo_len G hx hc (adjQ wqOf nodes links) nodes.length i;omega) _ ih nodes.length 0 (by omega) (Nat.zero_le _)
        have h5 : Ev (fun k => beaconref08_Components.j5 k x ((compsTo nodes (adjQ wqOf nodes links) nodes.length i).map (idsOf nodes)) (i : Int) false nodes links) ((compsTo nodes (adjQ wqOf nodes links) nodes.length nodes.length).map (idsOf nodes),0) := by
          refine Ev.step 0 (fun k _ => ?_) h4
          show beaconref08_Components.j5 (k + 1) _ _ _ _ _ _ = _
          rw [beaconref08_Components.j5,if_neg (by decide)]
          rfl
        refine Ev.step 0 (fun k _ => ?_) h5
        show beaconref08_Components.l3 (k + 1) _ _ _ _ _ = _
        rw [beaconref08_Components.l3,if_pos (by omega),if_pos (by omega),rd40,if_pos hup,if_pos (by omega),rd_at,hiff.1 hh]
        congr 1
        exact bne_self_eq_false _
      refine Ev.step 0 (fun k _ => ?_) (skip hh)
      show beaconref08_Components.l3 (k + 1) _ _ _ _ _ = _
      rw [beaconref08_Components.l3,if_pos (by omega),if_pos (by omega),rd40,if_pos hup,if_pos (by omega),rd_at]
      congr 1
      exact bne_iff_ne.2 (fun h => hh (hiff.2 h))
    refine Ev.step 0 (fun k _ => ?_) (skip (fun h => hup h.1))
    show beaconref08_Components.l3 (k + 1) _ _ _ _ _ = _
    rw [beaconref08_Components.l3,if_pos (by omega),if_pos (by omega),rd40,if_neg hup]
end
theorem l0_start : ∀ (m i : Nat),nodes.length - i = m → i ≤ nodes.length →
    Ev (fun k => beaconref08_Components.l0 k ((List.range nodes.length).map fun p => if p < i then idAt nodes p else 0) (i : Int) nodes links) ((compsTo nodes (adjQ wqOf nodes links) nodes.length nodes.length).map (idsOf nodes),0) := by
  have hn := G.n256
  intro m
  induction m with
  | zero =>
    intro i hm hi
    obtain rfl : i = nodes.length := by omega
    have hg : ∀ p,p < nodes.length → ((List.range nodes.length).map fun p => if p < nodes.length then idAt nodes p else 0).getD p 0 = idAt nodes p := by
      intro p hp
      simp [List.getD_eq_getElem?_getD,hp]
    have hx : LInv nodes (adjQ wqOf nodes links) ((List.range nodes.length).map fun p => if p < nodes.length then idAt nodes p else 0) :=
      ⟨by simp,fun p hp => by rw [hg p hp];exact Int.le_refl _,fun p hp => ⟨p,hp,Rch.refl _ _,hg p hp⟩⟩
    refine Ev.step 0 (fun k _ => ?_) (l1_all G _ (fun x hx hc => l3_go G hx hc nodes.length 0 (by omega) (Nat.zero_le _)) _ _ hx (Nat.le_refl _))
    show beaconref08_Components.l0 (k + 1) _ _ _ _ = _
    rw [beaconref08_Components.l0,if_neg (by simp)]
  | succ m ihm =>
    intro i hm hi
    have hil : i < nodes.length := by omega
    refine Ev.step 0 (fun k _ => ?_) (ihm (i + 1) (by omega) (by omega))
    show beaconref08_Components.l0 (k + 1) _ _ _ _ = _
    rw [beaconref08_Components.l0,if_pos (by simp;omega),if_pos (by omega),if_pos (by omega),rd40,wrap_succ i (by omega),Int.toNat_natCast]
    congr 1
    apply List.ext_getElem
    · simp
    intro p h1 h2
    simp only [List.getElem_set,List.getElem_map,List.getElem_range]
    by_cases he : i = p
    · subst he
      rw [if_pos rfl,if_pos (by omega)]
      rfl
    rw [if_neg he]
    by_cases hp : p < i
    · rw [if_pos hp,if_pos (by omega)]
    rw [if_neg hp,if_neg (by omega)]
end
theorem Comps_tells {nodes : List S40} {links : List S74} (hF : Fits links) : Ev (fun k => beaconref08_Components.f k nodes links) (compsSpec nodes links) := by
  obtain ⟨Kc,hKc⟩ := ref_tells (nodes := nodes) hF
  unfold compsSpec
  by_cases h0 : ckSpec nodes links = 0
  · rw [if_pos h0]
    have G := ckSpec_zero nodes links h0
    have hn := G.n256
    obtain ⟨K,hK⟩ := l0_start G nodes.length 0 (by omega) (Nat.zero_le _)
    refine Ev.now (max Kc K) (fun k hk => ?_)
    have h1 : beaconref07_Check.f k nodes links = some (ckSpec nodes links) := hKc k (by omega)
    have h2 := hK k (by omega)
    have e1 : (List.range nodes.length).map (fun p => if p < 0 then idAt nodes p else 0) = List.replicate nodes.length 0 := by
      apply List.ext_getElem
      · simp
      intro p h1 h2
      simp
    unfold beaconref08_Components.f
    rw [h1,Option.bind_some,if_pos h0,if_pos (by omega),Int.toNat_natCast,if_pos (by omega),← e1]
    exact h2
  rw [if_neg h0]
  refine Ev.now Kc (fun k hk => ?_)
  have h1 : beaconref07_Check.f k nodes links = some (ckSpec nodes links) := hKc k hk
  unfold beaconref08_Components.f
  rw [h1,Option.bind_some,if_neg h0]
end Go.Proofs.Ytmdkcecbklgihaa.PA
