/- What the layer of paths tells, in plain terms: distances, first hops. Conditions: weights and the limit are words. -/
import Derived.Test.YtmdkcecbklgihaaCcGe
import Derived.Test.YtmdkcecbklgihaaCcHu
namespace Go.Proofs.Ytmdkcecbklgihaa.PA
open Go.RowKit Go.Proofs.YtmdkcecbklgihaaW.PrintWords
open Classical
set_option linter.unusedVariables false
set_option linter.unusedSimpArgs false
noncomputable def wqOf (b : Nat) : Nat := if h : ∃ q,4 ≤ q ∧ q ≤ 4194304 ∧ b = bq q then h.choose else 0
theorem wqOf_tells {b : Nat} (h : ∃ q,4 ≤ q ∧ q ≤ 4194304 ∧ b = bq q) : bq (wqOf b) = b ∧ 4 ≤ wqOf b ∧ wqOf b ≤ 4194304 := by
  unfold wqOf
  rw [dif_pos h]
  exact ⟨h.choose_spec.2.2.symm,h.choose_spec.1,h.choose_spec.2.1⟩
noncomputable def mqOf (b : Nat) : Nat := if h : ∃ q,4 ≤ q ∧ q ≤ 4294967296 ∧ b = bq q then h.choose else 0
theorem mqOf_tells {b : Nat} (h : ∃ q,4 ≤ q ∧ q ≤ 4294967296 ∧ b = bq q) : bq (mqOf b) = b ∧ 4 ≤ mqOf b ∧ mqOf b ≤ 4294967296 := by
  unfold mqOf
  rw [dif_pos h]
  exact ⟨h.choose_spec.2.2.symm,h.choose_spec.1,h.choose_spec.2.1⟩
theorem getD_mem74 {links : List S74} {l : S74} (h : l ∈ links) : ∃ i,i < links.length ∧ links.getD i z74 = l := by
  obtain ⟨i,hi,rfl⟩ := List.mem_iff_getElem.1 h
  exact ⟨i,hi,by simp [List.getD_eq_getElem?_getD,hi]⟩
theorem Good.weights {nodes : List S40} {links : List S74} (G : Good nodes links) (hF : Fits links) {l : S74} (hl : l ∈ links) : bq (wqOf l.f2) = l.f2 ∧ 4 ≤ wqOf l.f2 ∧ wqOf l.f2 ≤ 4194304 := by
  obtain ⟨i,hi,rfl⟩ := getD_mem74 hl
  exact wqOf_tells ((weight_all _ (hF.at i hi)).2.2 (G.wt i hi))
theorem Good.ends {nodes : List S40} {links : List S74} (G : Good nodes links) : ∀ l ∈ links,plc nodes l.f0 < nodes.length ∧ plc nodes l.f1 < nodes.length := by
  intro l hl
  obtain ⟨i,hi,rfl⟩ := getD_mem74 hl
  have h := of_decide_eq_false (G.lk i hi)
  constructor
  · rcases Nat.lt_or_ge (plc nodes (links.getD i z74).f0) nodes.length with h1 | h1
    · exact h1
    exact absurd (Or.inr (Or.inl (by omega))) h
  rcases Nat.lt_or_ge (plc nodes (links.getD i z74).f1) nodes.length with h1 | h1
  · exact h1
  exact absurd (Or.inr (Or.inr (Or.inl (by omega)))) h
theorem Good.less {nodes : List S40} {links : List S74} (G : Good nodes links) {l : S74} (hl : l ∈ links) : l.f0 < l.f1 := by
  obtain ⟨i,hi,rfl⟩ := getD_mem74 hl
  have h := of_decide_eq_false (G.lk i hi)
  rcases Int.lt_or_le (links.getD i z74).f0 (links.getD i z74).f1 with h1 | h1
  · exact h1
  exact absurd (Or.inl h1) h
theorem Good.nodup {nodes : List S40} {links : List S74} (G : Good nodes links) : (nodes.map (·.f0)).Nodup := by
  unfold List.Nodup
  rw [List.pairwise_iff_getElem]
  intro i j hi hj hij
  simp only [List.length_map] at hi hj
  have := asc_lt G.nd i j hij hj
  simp only [List.getD_eq_getElem?_getD,List.getElem?_eq_getElem hi,List.getElem?_eq_getElem hj,Option.getD_some] at this
  simp only [List.getElem_map]
  omega
theorem Good.id {nodes : List S40} {links : List S74} (G : Good nodes links) (i : Nat) (hi : i < nodes.length) : 1 ≤ (nodes.getD i z40).f0 ∧ (nodes.getD i z40).f0 ≤ 2147483647 := by
  have h := of_decide_eq_false (G.nd i hi)
  omega
theorem Good.pass {nodes : List S40} {links : List S74} (G : Good nodes links) (hF : Fits links) {M s : Nat} (h4 : 4 ≤ M) (hM : M ≤ 4294967296) (hs : s < nodes.length) : Pass wqOf nodes links M 4194304 s :=
  ⟨G.n256,G.l4096,G.ends,fun l hl => ⟨(G.weights hF hl).1,by have := (G.weights hF hl).2.1;omega,(G.weights hF hl).2.2⟩,by omega,hM,Nat.le_refl _,hs⟩
theorem Good.plc_inj {nodes : List S40} {a : Int} {i : Nat} (nd : ∀ i,i < nodes.length → ndBad nodes i = false) (hi : i < nodes.length) (ha : (nodes.getD i z40).f0 = a) : plc nodes a = i := by
  rcases Nat.lt_trichotomy (plc nodes a) i with h | h | h
  · have h1 := asc_lt nd _ i h hi
    rw [plc_at (by omega)] at h1
    omega
  · exact h
  exact absurd ha (plc_before h hi)
def Dst (nodes : List S40) (links : List S74) (M s : Nat) (q : List Nat) : Prop :=
  ((nodes.getD s z40).f1 = true ∧ IsDist (adjQ wqOf nodes links) M s nodes.length q) ∨ ((nodes.getD s z40).f1 = false ∧ q = List.replicate nodes.length M)
theorem Dst.unique {nodes : List S40} {links : List S74} {M s : Nat} {q q' : List Nat} (h : Dst nodes links M s q) (h' : Dst nodes links M s q') (P : Pass wqOf nodes links M 4194304 s) : q = q' := by
  rcases h with ⟨h1,h2⟩ | ⟨h1,h2⟩
  · rcases h' with ⟨h3,h4⟩ | ⟨h3,h4⟩
    · exact h2.unique h4 (adjQ_wf wqOf 4194304 nodes links P.ends P.wts) P.src
    rw [h1] at h3
    cases h3
  rcases h' with ⟨h3,h4⟩ | ⟨h3,h4⟩
  · rw [h1] at h3
    cases h3
  rw [h2,h4]
noncomputable def dQ (nodes : List S40) (links : List S74) (M s : Nat) : List Nat := if h : ∃ q,Dst nodes links M s q then h.choose else []
theorem dQ_tells {nodes : List S40} {links : List S74} (G : Good nodes links) (hF : Fits links) {M s : Nat} (h4 : 4 ≤ M) (hM : M ≤ 4294967296) (hs : s < nodes.length) : Dst nodes links M s (dQ nodes links M s) := by
  obtain ⟨q,-,h⟩ := ref_dists (G.pass hF h4 hM hs) (nodes.getD s z40).f0 (Good.plc_inj G.nd hs rfl)
  have h2 : ∃ q,Dst nodes links M s q := ⟨q,h⟩
  unfold dQ
  rw [dif_pos h2]
  exact h2.choose_spec
theorem dists_tells {nodes : List S40} {links : List S74} (G : Good nodes links) (hF : Fits links) {M : Nat} (h4 : 4 ≤ M) (hM : M ≤ 4294967296) (id : Int) (hid : plc nodes id < nodes.length) :
    Ev (fun k => beaconref08_dists.f k nodes links (bq M) id) (dbits M (dQ nodes links M (plc nodes id))) := by
  obtain ⟨q,h1,h2⟩ := ref_dists (G.pass hF h4 hM hid) id rfl
  rw [← Dst.unique h2 (dQ_tells G hF h4 hM hid) (G.pass hF h4 hM hid)]
  exact h1
theorem Dst.len {nodes : List S40} {links : List S74} {M s : Nat} {q : List Nat} (h : Dst nodes links M s q) : q.length = nodes.length := by
  rcases h with ⟨_,h⟩ | ⟨_,h⟩
  · exact h.len
  rw [h]
  simp
theorem Dst.le {nodes : List S40} {links : List S74} {M s : Nat} {q : List Nat} (h : Dst nodes links M s q) (p : Nat) : q.getD p 0 ≤ M := by
  rcases h with ⟨_,h⟩ | ⟨_,h⟩
  · exact h.le p
  rw [h]
  simp only [List.getD_eq_getElem?_getD,List.getElem?_replicate]
  split <;> simp
theorem Dst.up {nodes : List S40} {links : List S74} {M s : Nat} {q : List Nat} (h : Dst nodes links M s q) (P : Pass wqOf nodes links M 4194304 s) {p : Nat} (hp : p < nodes.length) (hlt : q.getD p 0 < M) : (nodes.getD p z40).f1 = true ∧ (nodes.getD s z40).f1 = true := by
  rcases h with ⟨h1,h⟩ | ⟨h1,h⟩
  · refine ⟨?_,h1⟩
    have hw := h.wk p hp hlt
    generalize q.getD p 0 = t at hw
    cases hw with
    | nil => exact h1
    | cons a b c =>
      obtain ⟨l,hl,hl2,hl3⟩ := (mem_adjQ wqOf nodes links P.ends _ _).1 b
      rcases hl3 with ⟨h4,rfl⟩ | ⟨h4,rfl⟩
      · exact hl2.2.2
      exact hl2.2.1
  exfalso
  rw [h] at hlt
  simp [List.getD_eq_getElem?_getD,hp] at hlt
noncomputable def askSpec (nodes : List S40) (links : List S74) (mx : Nat) (id : Int) : Int :=
  if lE mx = 0 then (if ckSpec nodes links = 0 then (if plc nodes id < nodes.length then 0 else 4) else ckSpec nodes links) else lE mx
theorem asked_tells {nodes : List S40} {links : List S74} (hF : Fits links) {mx : Nat} (hm : mx < 18446744073709551616) (id : Int) : Ev (fun k => beaconref08_asked.f k nodes links mx id) (askSpec nodes links mx id) := by
  obtain ⟨hl,-,-⟩ := limit_all mx hm
  unfold askSpec
  by_cases h0 : lE mx = 0
  · rw [if_pos h0]
    obtain ⟨K,hK⟩ := ref_tells (nodes := nodes) hF
    refine ⟨max K 257,fun k hk => ?_⟩
    show beaconref08_asked.f k nodes links mx id = _
    unfold beaconref08_asked.f
    have hk1 : beaconref07_Check.f k nodes links = some (ckSpec nodes links) := hK k (by omega)
    rw [hl,Option.bind_some,if_pos h0,hk1,Option.bind_some]
    by_cases h1 : ckSpec nodes links = 0
    · rw [if_pos h1,if_pos h1,place_tells nodes links id (ckSpec_zero nodes links h1).n256 k (by omega),Option.bind_some]
      by_cases h2 : plc nodes id < nodes.length
      · rw [if_pos h2,if_pos h2,if_neg (by omega),h1]
      rw [if_neg h2,if_neg h2,if_pos (by decide)]
    rw [if_neg h1,if_neg h1]
  rw [if_neg h0]
  refine Ev.now 0 (fun k hk => ?_)
  unfold beaconref08_asked.f
  rw [hl,Option.bind_some,if_neg h0]
structure Told (nodes : List S40) (links : List S74) (mx : Nat) (id : Int) : Prop where
  good : Good nodes links
  low : 4 ≤ mqOf mx
  high : mqOf mx ≤ 4294967296
  lim : bq (mqOf mx) = mx
  there : plc nodes id < nodes.length
theorem askSpec_zero {nodes : List S40} {links : List S74} {mx : Nat} (hm : mx < 18446744073709551616) {id : Int} (h : askSpec nodes links mx id = 0) : Told nodes links mx id ∧ lE mx = 0 ∧ ckSpec nodes links = 0 := by
  unfold askSpec at h
  by_cases h0 : lE mx = 0
  · rw [if_pos h0] at h
    by_cases h1 : ckSpec nodes links = 0
    · rw [if_pos h1] at h
      by_cases h2 : plc nodes id < nodes.length
      · obtain ⟨k1,k2,k3⟩ := mqOf_tells ((limit_all mx hm).2.2 h0)
        exact ⟨⟨ckSpec_zero nodes links h1,k2,k3,k1,h2⟩,h0,h1⟩
      rw [if_neg h2] at h
      exact absurd h (by decide)
    rw [if_neg h1] at h
    exact absurd h h1
  rw [if_neg h0] at h
  exact absurd h h0
noncomputable def nextsSpec (nodes : List S40) (links : List S74) (mx : Nat) (id : Int) : List Int × Int :=
  if askSpec nodes links mx id = 0 then ((List.range nodes.length).map fun t => hopOf nodes (mqOf mx) ((adjQ wqOf nodes links).getD (plc nodes id) []) (dQ nodes links (mqOf mx) t) (plc nodes id) t,0) else ([],askSpec nodes links mx id)
def minStep (b : Int) (c : Option Int) : Int := match c with
  | none => b
  | some c => if b = 0 ∨ c < b then c else b
theorem minStep_some (b c : Int) : minStep b (some c) = if b = 0 ∨ c < b then c else b := rfl
theorem least (l : List (Option Int)) : ∀ (b : Int),0 ≤ b → (∀ c,some c ∈ l → 1 ≤ c) → 0 ≤ l.foldl minStep b ∧ (l.foldl minStep b = 0 → b = 0 ∧ ∀ c,some c ∉ l) ∧
    (l.foldl minStep b ≠ 0 → (l.foldl minStep b = b ∨ some (l.foldl minStep b) ∈ l) ∧ (b = 0 ∨ l.foldl minStep b ≤ b) ∧ ∀ c,some c ∈ l → l.foldl minStep b ≤ c) := by
  induction l with
  | nil =>
    intro b hb h
    exact ⟨hb,fun h0 => ⟨h0,fun c hc => by cases hc⟩,fun h0 => ⟨Or.inl rfl,Or.inr (Int.le_refl _),fun c hc => by cases hc⟩⟩
  | cons a l ih =>
    intro b hb h
    rw [List.foldl_cons]
    have hpos : ∀ c,some c ∈ l → 1 ≤ c := fun c hc => h c (List.mem_cons_of_mem _ hc)
    cases a with
    | none =>
      show 0 ≤ l.foldl minStep b ∧ _
      obtain ⟨h1,h2,h3⟩ := ih b hb hpos
      refine ⟨h1,fun h0 => ⟨(h2 h0).1,fun c hc => ?_⟩,fun h0 => ⟨(h3 h0).1.imp_right (List.mem_cons_of_mem _),(h3 h0).2.1,fun c hc => ?_⟩⟩
      · rcases List.mem_cons.1 hc with hc | hc
        · cases hc
        exact (h2 h0).2 c hc
      rcases List.mem_cons.1 hc with hc | hc
      · cases hc
      exact (h3 h0).2.2 c hc
    | some a =>
      have ha : 1 ≤ a := h a (List.mem_cons_self ..)
      by_cases hs : b = 0 ∨ a < b
      · have e1 : minStep b (some a) = a := by
          rw [minStep_some,if_pos hs]
        rw [e1]
        obtain ⟨h1,h2,h3⟩ := ih a (by omega) hpos
        refine ⟨h1,fun h0 => absurd (h2 h0).1 (by omega),fun h0 => ⟨?_,?_,fun c hc => ?_⟩⟩
        · rcases (h3 h0).1 with h4 | h4
          · refine Or.inr ?_
            rw [h4]
            exact List.mem_cons_self ..
          exact Or.inr (List.mem_cons_of_mem _ h4)
        · rcases (h3 h0).2.1 with h4 | h4
          · omega
          rcases hs with h5 | h5
          · exact Or.inl h5
          exact Or.inr (by omega)
        rcases List.mem_cons.1 hc with hc | hc
        · rw [Option.some.inj hc]
          rcases (h3 h0).2.1 with h4 | h4
          · omega
          exact h4
        exact (h3 h0).2.2 c hc
      have e1 : minStep b (some a) = b := by
        rw [minStep_some,if_neg hs]
      rw [e1]
      obtain ⟨h1,h2,h3⟩ := ih b hb hpos
      refine ⟨h1,fun h0 => ?_,fun h0 => ⟨(h3 h0).1.imp_right (List.mem_cons_of_mem _),(h3 h0).2.1,fun c hc => ?_⟩⟩
      · have := (h2 h0).1
        exact absurd (Or.inl this) hs
      rcases List.mem_cons.1 hc with hc | hc
      · rw [Option.some.inj hc]
        rcases (h3 h0).2.1 with h4 | h4
        · exact absurd (Or.inl h4) hs
        omega
      exact (h3 h0).2.2 c hc
theorem least_same (l l' : List (Option Int)) (h : ∀ c,some c ∈ l → 1 ≤ c) (hs : ∀ c,some c ∈ l ↔ some c ∈ l') : l.foldl minStep 0 = l'.foldl minStep 0 := by
  obtain ⟨h1,h2,h3⟩ := least l 0 (Int.le_refl _) h
  obtain ⟨k1,k2,k3⟩ := least l' 0 (Int.le_refl _) (fun c hc => h c ((hs c).2 hc))
  by_cases h0 : l.foldl minStep 0 = 0
  · by_cases g0 : l'.foldl minStep 0 = 0
    · rw [h0,g0]
    exfalso
    rcases (k3 g0).1 with h4 | h4
    · exact g0 h4
    exact (h2 h0).2 _ ((hs _).2 h4)
  by_cases g0 : l'.foldl minStep 0 = 0
  · exfalso
    rcases (h3 h0).1 with h4 | h4
    · exact h0 h4
    exact (k2 g0).2 _ ((hs _).1 h4)
  have e1 : l.foldl minStep 0 ≤ l'.foldl minStep 0 := by
    rcases (k3 g0).1 with h4 | h4
    · exact absurd h4 g0
    exact (h3 h0).2.2 _ ((hs _).2 h4)
  have e2 : l'.foldl minStep 0 ≤ l.foldl minStep 0 := by
    rcases (h3 h0).1 with h4 | h4
    · exact absurd h4 h0
    exact (k3 g0).2.2 _ ((hs _).1 h4)
  omega
def candR (nodes : List S40) (M : Nat) (q : List Nat) (f : Nat) (e : Nat × Nat) : Option Int := if q.getD e.1 0 < M ∧ e.2 + q.getD e.1 0 = q.getD f 0 then some (nodes.getD e.1 z40).f0 else none
theorem hop_cand (nodes : List S40) (M : Nat) (q : List Nat) (f : Nat) (row : List (Nat × Nat)) : ∀ (b : Int),row.foldl (hop nodes M q f) b = (row.map (candR nodes M q f)).foldl minStep b := by
  induction row with
  | nil => intro b;rfl
  | cons e row ih =>
    intro b
    rw [List.map_cons,List.foldl_cons,List.foldl_cons,ih]
    congr 1
    unfold hop candR
    by_cases h : q.getD e.1 0 < M ∧ e.2 + q.getD e.1 0 = q.getD f 0
    · rw [if_pos h]
      rw [minStep_some]
      by_cases h2 : b = 0 ∨ (nodes.getD e.1 z40).f0 < b
      · rw [if_pos ⟨h.1,h.2,h2⟩,if_pos h2]
      rw [if_neg (fun h3 => h2 h3.2.2),if_neg h2]
    rw [if_neg h,if_neg (fun h3 => h ⟨h3.1,h3.2.1⟩)]
    rfl
def othr (l : S74) (id : Int) : Int := if l.f0 = id then l.f1 else if l.f1 = id then l.f0 else 0
noncomputable def candL (nodes : List S40) (M : Nat) (q : List Nat) (f : Nat) (id : Int) (l : S74) : Option Int :=
  if othr l id ≠ 0 ∧ l.f3 = true ∧ q.getD (plc nodes (othr l id)) 0 < M ∧ wqOf l.f2 + q.getD (plc nodes (othr l id)) 0 = q.getD f 0 then some (othr l id) else none
theorem cand_same {nodes : List S40} {links : List S74} (G : Good nodes links) (hF : Fits links) {M s : Nat} (h4 : 4 ≤ M) (hM : M ≤ 4294967296) (hs : s < nodes.length) {q : List Nat} (hq : Dst nodes links M s q) {id : Int} (hid : plc nodes id < nodes.length) (hlt : q.getD (plc nodes id) 0 < M) (c : Int) :
    some c ∈ links.map (candL nodes M q (plc nodes id) id) ↔ some c ∈ ((adjQ wqOf nodes links).getD (plc nodes id) []).map (candR nodes M q (plc nodes id)) := by
  have P := G.pass hF h4 hM hs
  simp only [List.mem_map]
  constructor
  · rintro ⟨l,hl,hc⟩
    unfold candL at hc
    by_cases h : othr l id ≠ 0 ∧ l.f3 = true ∧ q.getD (plc nodes (othr l id)) 0 < M ∧ wqOf l.f2 + q.getD (plc nodes (othr l id)) 0 = q.getD (plc nodes id) 0
    rotate_left
    · rw [if_neg h] at hc
      cases hc
    rw [if_pos h] at hc
    obtain ⟨k1,k2,k3,k4⟩ := h
    obtain ⟨e0,e1⟩ := G.ends l hl
    unfold othr at k1 k3 k4 hc
    have hup := (hq.up P hid hlt).1
    by_cases h0 : l.f0 = id
    · rw [if_pos h0] at k1 k3 k4 hc
      refine ⟨(plc nodes l.f1,wqOf l.f2),(mem_adjQ wqOf nodes links G.ends _ _).2 ⟨l,hl,⟨k2,?_,(hq.up P e1 k3).1⟩,Or.inl ⟨by rw [h0],rfl⟩⟩,?_⟩
      · rw [h0]
        exact hup
      unfold candR
      rw [if_pos ⟨k3,k4⟩,plc_at e1]
      exact hc
    rw [if_neg h0] at k1 k3 k4 hc
    by_cases h1 : l.f1 = id
    · rw [if_pos h1] at k1 k3 k4 hc
      refine ⟨(plc nodes l.f0,wqOf l.f2),(mem_adjQ wqOf nodes links G.ends _ _).2 ⟨l,hl,⟨k2,(hq.up P e0 k3).1,?_⟩,Or.inr ⟨by rw [h1],rfl⟩⟩,?_⟩
      · rw [h1]
        exact hup
      unfold candR
      rw [if_pos ⟨k3,k4⟩,plc_at e0]
      exact hc
    rw [if_neg h1] at k1
    exact absurd rfl k1
  rintro ⟨e,he,hc⟩
  unfold candR at hc
  by_cases h : q.getD e.1 0 < M ∧ e.2 + q.getD e.1 0 = q.getD (plc nodes id) 0
  rotate_left
  · rw [if_neg h] at hc
    cases hc
  rw [if_pos h] at hc
  obtain ⟨l,hl,hl2,hl3⟩ := (mem_adjQ wqOf nodes links G.ends _ _).1 he
  obtain ⟨e0,e1⟩ := G.ends l hl
  refine ⟨l,hl,?_⟩
  have hne := G.less hl
  have hid2 := plc_at hid
  rcases hl3 with ⟨h5,rfl⟩ | ⟨h5,rfl⟩
  · have h6 : l.f0 = id := by rw [← plc_at e0,h5,hid2]
    have ho : othr l id = l.f1 := by
      unfold othr
      rw [if_pos h6]
    have hpos : 1 ≤ l.f1 := by
      have := (G.id _ e1).1
      rwa [plc_at e1] at this
    unfold candL
    rw [ho,if_pos ⟨by omega,hl2.1,h⟩]
    rw [plc_at e1] at hc
    exact hc
  have h6 : l.f1 = id := by rw [← plc_at e1,h5,hid2]
  have ho : othr l id = l.f0 := by
    unfold othr
    rw [if_neg (by omega),if_pos h6]
  have hpos : 1 ≤ l.f0 := by
    have := (G.id _ e0).1
    rwa [plc_at e0] at this
  unfold candL
  rw [ho,if_pos ⟨by omega,hl2.1,h⟩]
  rw [plc_at e0] at hc
  exact hc
theorem candL_pos {nodes : List S40} {links : List S74} (G : Good nodes links) {M : Nat} {q : List Nat} {f : Nat} {id : Int} (c : Int) (h : some c ∈ links.map (candL nodes M q f id)) : 1 ≤ c := by
  rw [List.mem_map] at h
  obtain ⟨l,hl,hc⟩ := h
  unfold candL at hc
  obtain ⟨e0,e1⟩ := G.ends l hl
  have p0 := (G.id _ e0).1
  have p1 := (G.id _ e1).1
  rw [plc_at e0] at p0
  rw [plc_at e1] at p1
  split at hc
  · rename_i h1
    have hc := Option.some.inj hc
    rw [← hc]
    have h2 := h1.1
    revert h2
    unfold othr
    split
    · intro _;exact p1
    split
    · intro _;exact p0
    intro h;exact absurd rfl h
  cases hc
theorem hopOf_links {nodes : List S40} {links : List S74} (G : Good nodes links) (hF : Fits links) {M s : Nat} (h4 : 4 ≤ M) (hM : M ≤ 4294967296) (hs : s < nodes.length) {q : List Nat} (hq : Dst nodes links M s q) {id : Int} (hid : plc nodes id < nodes.length) (hne : plc nodes id ≠ s) (hlt : q.getD (plc nodes id) 0 < M) :
    hopOf nodes M ((adjQ wqOf nodes links).getD (plc nodes id) []) q (plc nodes id) s = (links.map (candL nodes M q (plc nodes id) id)).foldl minStep 0 := by
  unfold hopOf
  rw [if_neg (by omega),hop_cand]
  exact (least_same _ _ (candL_pos G) (cand_same G hF h4 hM hs hq hid hlt)).symm
end Go.Proofs.Ytmdkcecbklgihaa.PA
