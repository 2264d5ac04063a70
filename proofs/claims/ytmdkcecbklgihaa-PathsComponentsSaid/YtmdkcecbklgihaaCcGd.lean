/- The document's distances are the least ones: beaconref08.dists comes to an end, and tells them. Conditions: the links' ends are there, weights are quarters, the limit is one. -/
import Derived.Test.YtmdkcecbklgihaaCcGb
import Derived.Test.YtmdkcecbklgihaaCcPAx8
namespace Go.Proofs.Ytmdkcecbklgihaa.PA
open Go.RowKit Go.Proofs.YtmdkcecbklgihaaW.PrintWords
set_option linter.unusedVariables false
set_option linter.unusedSimpArgs false
def Ev {α : Type} (f : Nat → Option α) (r : α) : Prop := ∃ K,∀ k,K ≤ k → f k = some r
theorem Ev.step {α : Type} {f g : Nat → Option α} {r : α} (N : Nat) (h : ∀ k,N ≤ k → f (k + 1) = g k) (hg : Ev g r) : Ev f r := by
  obtain ⟨K,hK⟩ := hg
  refine ⟨max K N + 1,fun k hk => ?_⟩
  obtain ⟨k,rfl⟩ : ∃ m,k = m + 1 := ⟨k - 1,by omega⟩
  rw [h k (by omega)]
  exact hK k (by omega)
theorem Ev.now {α : Type} {f : Nat → Option α} {r : α} (N : Nat) (h : ∀ k,N ≤ k → f k = some r) : Ev f r := ⟨N,h⟩
theorem plc_at {nodes : List S40} {id : Int} (h : plc nodes id < nodes.length) : (nodes.getD (plc nodes id) z40).f0 = id := by
  have := List.findIdx_getElem (xs := nodes) (p := fun x : S40 => x.f0 == id) (w := h)
  rw [List.getD_eq_getElem?_getD,List.getElem?_eq_getElem h]
  exact beq_iff_eq.1 this
theorem plc_before {nodes : List S40} {id : Int} {j : Nat} (h : j < plc nodes id) (hj : j < nodes.length) : (nodes.getD j z40).f0 ≠ id := by
  have := List.not_of_lt_findIdx (xs := nodes) (p := fun x : S40 => x.f0 == id) (i := j) h
  simpa [List.getD_eq_getElem?_getD,hj] using this
theorem rd40 (nodes : List S40) (i : Nat) : rd_T40 nodes (i : Int) = nodes.getD i z40 := by
  unfold rd_T40
  rw [Int.toNat_natCast]
theorem rd74 (links : List S74) (i : Nat) : rd_T74 links (i : Int) = links.getD i z74 := by
  unfold rd_T74
  rw [Int.toNat_natCast]
theorem wrap_succ (i : Nat) (h : i < 4611686018427387904) : wrap64 ((i : Int) + 1) = ((i + 1 : Nat) : Int) := by
  unfold wrap64
  omega
theorem place_go (nodes : List S40) (links : List S74) (id : Int) (hn : nodes.length ≤ 256) : ∀ (m i k : Nat),nodes.length - i = m → m < k → i ≤ nodes.length → (∀ j,j < i → (nodes.getD j z40).f0 ≠ id) → beaconref08_place.l0 k id (i : Int) nodes links = some (if plc nodes id < nodes.length then (plc nodes id : Int) else -1)
  | m,i,0,_,h,_,_ => absurd h (Nat.not_lt_zero _)
  | m,i,k + 1,hm,hk,hi,hpre => by
    unfold beaconref08_place.l0
    by_cases hin : i < nodes.length
    · rw [if_pos (by omega),if_pos (by omega),rd40]
      by_cases he : (nodes.getD i z40).f0 = id
      · have : plc nodes id = i := by
          rcases Nat.lt_trichotomy (plc nodes id) i with h | h | h
          · exact absurd (plc_at (by omega)) (hpre _ h)
          · exact h
          exact absurd he (plc_before h hin)
        rw [if_pos he,this,if_pos hin]
      rw [if_neg he,wrap_succ i (by omega)]
      exact place_go nodes links id hn (m - 1) (i + 1) k (by omega) (by omega) (by omega) (fun j hj => by
        rcases Nat.lt_or_ge j i with h | h
        · exact hpre j h
        obtain rfl : j = i := by omega
        exact he)
    rw [if_neg (by omega)]
    have : ¬ plc nodes id < nodes.length := fun h => hpre (plc nodes id) (by omega) (plc_at h)
    rw [if_neg this]
theorem place_tells (nodes : List S40) (links : List S74) (id : Int) (hn : nodes.length ≤ 256) (k : Nat) (hk : 257 ≤ k) : beaconref08_place.f k nodes links id = some (if plc nodes id < nodes.length then (plc nodes id : Int) else -1) :=
  place_go nodes links id hn nodes.length 0 k (by omega) (by omega) (Nat.zero_le _) (fun j hj => absurd hj (Nat.not_lt_zero _))
structure RInv (R : Adj) (M s n : Nat) (q : List Nat) : Prop where
  len : q.length = n
  src : q.getD s 0 = 0
  le : ∀ p,q.getD p 0 ≤ M
  wk : ∀ p,p < n → q.getD p 0 < M → Walk R M s p (q.getD p 0)
theorem RInv.relax {R : Adj} {M s n p : Nat} {q : List Nat} (hW : Wf R n) (h : RInv R M s n q) (hp : p < n) {e : Nat × Nat} (he : e ∈ R.getD p []) (hlt : min M (e.2 + q.getD p 0) < q.getD e.1 0) : RInv R M s n (q.set e.1 (min M (e.2 + q.getD p 0))) ∧ (q.set e.1 (min M (e.2 + q.getD p 0))).sum < q.sum := by
  obtain ⟨hen,hw1⟩ := hW.2 p e he
  have hel : e.1 < q.length := by rw [h.len];exact hen
  have hle := h.le e.1
  have hmin : min M (e.2 + q.getD p 0) = e.2 + q.getD p 0 := by omega
  rw [hmin] at hlt ⊢
  have hg : ∀ r,(q.set e.1 (e.2 + q.getD p 0)).getD r 0 = if r = e.1 then e.2 + q.getD p 0 else q.getD r 0 := fun r => getD_set q _ _ r hel
  refine ⟨⟨by simp [h.len],?_,fun r => ?_,fun r hr hrM => ?_⟩,?_⟩
  · rw [hg]
    split
    · next h1 =>
      rw [← h1,h.src] at hlt
      omega
    exact h.src
  · rw [hg]
    split
    · omega
    exact h.le r
  · rw [hg] at hrM ⊢
    by_cases h1 : r = e.1
    · rw [if_pos h1,h1]
      exact Walk.cons (h.wk p hp (by omega)) he (by omega)
    rw [if_neg h1] at hrM ⊢
    exact h.wk r hr hrM
  have := sum_set q e.1 (e.2 + q.getD p 0) hel
  omega
theorem RInv.start {R : Adj} {M s n : Nat} (hM : 0 < M) (hs : s < n) : RInv R M s n ((List.replicate n M).set s 0) := by
  have h := Inv.start (enc := id) (R := R) hM hs
  exact ⟨h.len,h.src,h.le,h.wk⟩
theorem add_ref (w d m : Nat) : beaconref01_Add.f w d m = metric_Add.f w d m := rfl
def dbits (M : Nat) (q : List Nat) : List Nat := q.map (encM M)
theorem dbits_len (M : Nat) (q : List Nat) : (dbits M q).length = q.length := by simp [dbits]
theorem dbits_at (M : Nat) (q : List Nat) (a : Nat) (h : a < q.length) : rdOf (0 : Nat) (dbits M q) (a : Int) = encM M (q.getD a 0) := by
  unfold rdOf dbits
  rw [Int.toNat_natCast]
  simp [List.getD_eq_getElem?_getD,h]
theorem dbits_set (M : Nat) (q : List Nat) (a x : Nat) : (dbits M q).set ((a : Int).toNat) (encM M x) = dbits M (q.set a x) := by
  rw [Int.toNat_natCast]
  simp [dbits,List.map_set]
structure Pass (wq : Nat → Nat) (nodes : List S40) (links : List S74) (M W s : Nat) : Prop where
  n256 : nodes.length ≤ 256
  l4096 : links.length ≤ 4096
  ends : ∀ l ∈ links,plc nodes l.f0 < nodes.length ∧ plc nodes l.f1 < nodes.length
  wts : Weights wq W links
  pos : 0 < M
  lim : M ≤ 4294967296
  wlim : W ≤ 4194304
  src : s < nodes.length
def asOf (nodes : List S40) (links : List S74) : List Int := links.map fun l => (plc nodes l.f0 : Int)
def bsOf (nodes : List S40) (links : List S74) : List Int := links.map fun l => (plc nodes l.f1 : Int)
theorem asOf_at (nodes : List S40) (links : List S74) (i : Nat) (h : i < links.length) : rd (asOf nodes links) (i : Int) = (plc nodes (links.getD i z74).f0 : Int) := by
  unfold rd asOf
  rw [Int.toNat_natCast]
  simp [List.getD_eq_getElem?_getD,h]
theorem bsOf_at (nodes : List S40) (links : List S74) (i : Nat) (h : i < links.length) : rd (bsOf nodes links) (i : Int) = (plc nodes (links.getD i z74).f1 : Int) := by
  unfold rd bsOf
  rw [Int.toNat_natCast]
  simp [List.getD_eq_getElem?_getD,h]
def Calm (wq : Nat → Nat) (nodes : List S40) (M : Nat) (q : List Nat) (l : S74) : Prop := live nodes l → q.getD (plc nodes l.f1) 0 ≤ min M (wq l.f2 + q.getD (plc nodes l.f0) 0) ∧ q.getD (plc nodes l.f0) 0 ≤ min M (wq l.f2 + q.getD (plc nodes l.f1) 0)
section
variable {wq : Nat → Nat} {nodes : List S40} {links : List S74} {M W s : Nat}
theorem calm_fix (P : Pass wq nodes links M W s) {q : List Nat} (h : RInv (adjQ wq nodes links) M s nodes.length q) (hc : ∀ l ∈ links,Calm wq nodes M q l) : IsDist (adjQ wq nodes links) M s nodes.length q := by
  refine ⟨h.len,h.src,h.le,h.wk,fun p hp e he => ?_⟩
  obtain ⟨l,hl,h1,h2⟩ := (mem_adjQ wq nodes links P.ends p e).1 he
  obtain ⟨c1,c2⟩ := hc l hl h1
  rcases h2 with ⟨rfl,rfl⟩ | ⟨rfl,rfl⟩
  · exact c1
  exact c2
theorem Pass.at (P : Pass wq nodes links M W s) {i : Nat} (hi : i < links.length) : links.getD i z74 ∈ links := by
  simp [List.getD_eq_getElem?_getD,hi]
theorem add_tells (P : Pass wq nodes links M W s) {l : S74} (hl : l ∈ links) {d : Nat} (hd : d ≤ M) : beaconref01_Add.f l.f2 (encM M d) (bq M) = some (encM M (min M (wq l.f2 + d))) := by
  obtain ⟨h1,h2,h3⟩ := P.wts l hl
  rw [add_ref]
  conv => lhs;rw [← h1]
  exact add_encM M (wq l.f2) d P.lim h2 (Nat.le_trans h3 P.wlim) hd
theorem lt_tells (P : Pass wq nodes links M W s) {a b : Nat} (ha : a ≤ M) (hb : b ≤ M) : ((FloatKind.f64.format.order (encM M a) (encM M b) == some .lt) = true) ↔ a < b := by
  have := (FL_encM M W P.pos P.lim P.wlim).lt a b ha hb
  rw [this]
  exact decide_eq_true_iff
theorem l3_dead (P : Pass wq nodes links M W s) {i : Nat} (hi : i < links.length) (hd : ¬ live nodes (links.getD i z74)) (q : List Nat) (t : Bool) (k : Nat) :
    beaconref08_dists.l3 (k + 2) (bq M) (dbits M q) (asOf nodes links) (bsOf nodes links) t (i : Int) nodes links = beaconref08_dists.l3 k (bq M) (dbits M q) (asOf nodes links) (bsOf nodes links) t ((i + 1 : Nat) : Int) nodes links := by
  have hl4 := P.l4096
  obtain ⟨ha,hb⟩ := P.ends _ (P.at hi)
  have hal : (asOf nodes links).length = links.length := by simp [asOf]
  have hbl : (bsOf nodes links).length = links.length := by simp [bsOf]
  have j4s : ∀ (a b f0 f1 : Int) (f2 : Nat) (f3 : Bool),beaconref08_dists.j4 (k + 1) (bq M) (dbits M q) (asOf nodes links) (bsOf nodes links) t (i : Int) a b true nodes links f0 f1 f2 f3 = beaconref08_dists.l3 k (bq M) (dbits M q) (asOf nodes links) (bsOf nodes links) t ((i + 1 : Nat) : Int) nodes links := by
    intro a b f0 f1 f2 f3
    rw [beaconref08_dists.j4,if_pos rfl,wrap_succ i (by omega)]
  show beaconref08_dists.l3 (k + 1 + 1) _ _ _ _ _ _ _ _ = _
  rw [beaconref08_dists.l3,if_pos (by omega),if_pos (by omega),if_pos (by omega),if_pos (by omega),rd74,asOf_at nodes links i hi,bsOf_at nodes links i hi]
  by_cases h1 : (links.getD i z74).f3 = true
  · rw [if_pos h1,if_pos (by omega),if_pos (by omega),rd40]
    by_cases h2 : (nodes.getD (plc nodes (links.getD i z74).f0) z40).f1 = true
    · rw [if_pos h2,if_pos (by omega),if_pos (by omega),rd40]
      have h3 : (nodes.getD (plc nodes (links.getD i z74).f1) z40).f1 = false := by
        cases h : (nodes.getD (plc nodes (links.getD i z74).f1) z40).f1 with
        | false => rfl
        | true => exact absurd ⟨h1,h2,h⟩ hd
      rw [h3]
      exact j4s _ _ _ _ _ _
    rw [if_neg h2]
    exact j4s _ _ _ _ _ _
  rw [if_neg h1]
  exact j4s _ _ _ _ _ _
theorem l3_live (P : Pass wq nodes links M W s) {i : Nat} (hi : i < links.length) (hd : live nodes (links.getD i z74)) (q : List Nat) (hq : q.length = nodes.length) (hqM : ∀ p,q.getD p 0 ≤ M) (t : Bool) (k : Nat) (q1 : List Nat) (t1 : Bool) (hq1 : q1.length = nodes.length) (hq1M : ∀ p,q1.getD p 0 ≤ M)
    (h1 : (min M (wq (links.getD i z74).f2 + q.getD (plc nodes (links.getD i z74).f0) 0) < q.getD (plc nodes (links.getD i z74).f1) 0 ∧ q1 = q.set (plc nodes (links.getD i z74).f1) (min M (wq (links.getD i z74).f2 + q.getD (plc nodes (links.getD i z74).f0) 0)) ∧ t1 = true) ∨ (¬ min M (wq (links.getD i z74).f2 + q.getD (plc nodes (links.getD i z74).f0) 0) < q.getD (plc nodes (links.getD i z74).f1) 0 ∧ q1 = q ∧ t1 = t))
    (q2 : List Nat) (t2 : Bool)
    (h2 : (min M (wq (links.getD i z74).f2 + q1.getD (plc nodes (links.getD i z74).f1) 0) < q1.getD (plc nodes (links.getD i z74).f0) 0 ∧ q2 = q1.set (plc nodes (links.getD i z74).f0) (min M (wq (links.getD i z74).f2 + q1.getD (plc nodes (links.getD i z74).f1) 0)) ∧ t2 = true) ∨ (¬ min M (wq (links.getD i z74).f2 + q1.getD (plc nodes (links.getD i z74).f1) 0) < q1.getD (plc nodes (links.getD i z74).f0) 0 ∧ q2 = q1 ∧ t2 = t1)) :
    beaconref08_dists.l3 (k + 3) (bq M) (dbits M q) (asOf nodes links) (bsOf nodes links) t (i : Int) nodes links = beaconref08_dists.l3 k (bq M) (dbits M q2) (asOf nodes links) (bsOf nodes links) t2 ((i + 1 : Nat) : Int) nodes links := by
  have hl4 := P.l4096
  have hmem := P.at hi
  obtain ⟨ha,hb⟩ := P.ends _ hmem
  have hal : (asOf nodes links).length = links.length := by simp [asOf]
  have hbl : (bsOf nodes links).length = links.length := by simp [bsOf]
  have hdl := dbits_len M q
  have hdl1 := dbits_len M q1
  obtain ⟨l,hl⟩ : ∃ l,links.getD i z74 = l := ⟨_,rfl⟩
  rw [hl] at hd hmem ha hb h1 h2
  obtain ⟨a,hae⟩ : ∃ a,plc nodes l.f0 = a := ⟨_,rfl⟩
  obtain ⟨b,hbe⟩ : ∃ b,plc nodes l.f1 = b := ⟨_,rfl⟩
  obtain ⟨d1,d2,d3⟩ := hd
  rw [hae] at ha h1 h2 d2
  rw [hbe] at hb h1 h2 d3
  show beaconref08_dists.l3 (k + 1 + 1 + 1) _ _ _ _ _ _ _ _ = _
  rw [beaconref08_dists.l3,if_pos (by omega),if_pos (by omega),if_pos (by omega),if_pos (by omega),rd74,asOf_at nodes links i hi,bsOf_at nodes links i hi,hl,hae,hbe,if_pos d1,if_pos (by omega),if_pos (by omega),rd40,if_pos d2,if_pos (by omega),if_pos (by omega),rd40,d3]
  rw [beaconref08_dists.j4,if_neg (by decide),if_pos (by omega),if_pos (by omega),dbits_at M q a (by omega),add_tells P hmem (hqM a),Option.bind_some,if_pos (by omega),if_pos (by omega),dbits_at M q b (by omega)]
  have step2 : beaconref08_dists.j5 (k + 1) (bq M) (dbits M q1) (asOf nodes links) (bsOf nodes links) t1 (i : Int) (a : Int) (b : Int) nodes links l.f0 l.f1 l.f2 l.f3 = beaconref08_dists.l3 k (bq M) (dbits M q2) (asOf nodes links) (bsOf nodes links) t2 ((i + 1 : Nat) : Int) nodes links := by
    rw [beaconref08_dists.j5,if_pos (by omega),if_pos (by omega),dbits_at M q1 b (by omega),add_tells P hmem (hq1M b),Option.bind_some,if_pos (by omega),if_pos (by omega),dbits_at M q1 a (by omega),wrap_succ i (by omega),dbits_set]
    rcases h2 with ⟨c,rfl,rfl⟩ | ⟨c,rfl,rfl⟩
    · rw [if_pos ((lt_tells P (Nat.min_le_left _ _) (hq1M a)).2 c)]
    rw [if_neg (fun h => c ((lt_tells P (Nat.min_le_left _ _) (hq1M a)).1 h))]
  rw [dbits_set]
  rcases h1 with ⟨c,rfl,rfl⟩ | ⟨c,rfl,rfl⟩
  · rw [if_pos ((lt_tells P (Nat.min_le_left _ _) (hqM b)).2 c)]
    exact step2
  rw [if_neg (fun h => c ((lt_tells P (Nat.min_le_left _ _) (hqM b)).1 h))]
  exact step2
theorem dists_pass (P : Pass wq nodes links M W s) : ∀ (S : Nat) (q : List Nat),RInv (adjQ wq nodes links) M s nodes.length q → q.sum ≤ S →
    ∃ r,IsDist (adjQ wq nodes links) M s nodes.length r ∧ Ev (fun k => beaconref08_dists.l2 k (bq M) (dbits M q) (asOf nodes links) (bsOf nodes links) true nodes links) (dbits M r) := by
  intro S
  induction S using Nat.strongRecOn with
  | _ S ihS =>
    intro q0 hq0 hS0
    have hl4 := P.l4096
    have go : ∀ (m i : Nat) (q : List Nat) (t : Bool),links.length - i = m → i ≤ links.length → RInv (adjQ wq nodes links) M s nodes.length q → q.sum ≤ q0.sum → (t = true → q.sum < q0.sum) → (t = false → ∀ j,j < i → Calm wq nodes M q (links.getD j z74)) →
        ∃ r,IsDist (adjQ wq nodes links) M s nodes.length r ∧ Ev (fun k => beaconref08_dists.l3 k (bq M) (dbits M q) (asOf nodes links) (bsOf nodes links) t (i : Int) nodes links) (dbits M r) := by
      intro m
      induction m with
      | zero =>
        intro i q t hm hi hq hle ht hf
        have hil : ¬ (i : Int) < (links.length : Int) := by omega
        cases t with
        | true =>
          obtain ⟨r,h1,h2⟩ := ihS q.sum (by have := ht rfl;omega) q hq (Nat.le_refl _)
          refine ⟨r,h1,Ev.step 0 (fun k _ => ?_) h2⟩
          show beaconref08_dists.l3 (k + 1) _ _ _ _ _ _ _ _ = _
          rw [beaconref08_dists.l3,if_neg hil]
        | false =>
          refine ⟨q,calm_fix P hq (fun l hl => ?_),Ev.now 2 (fun k hk => ?_)⟩
          · obtain ⟨j,hj,rfl⟩ := List.mem_iff_getElem.1 hl
            have := hf rfl j (by omega)
            simpa [List.getD_eq_getElem?_getD,hj] using this
          obtain ⟨k,rfl⟩ : ∃ m,k = m + 2 := ⟨k - 2,by omega⟩
          show beaconref08_dists.l3 (k + 1 + 1) _ _ _ _ _ _ _ _ = _
          rw [beaconref08_dists.l3,if_neg hil,beaconref08_dists.l2,if_neg (by decide)]
      | succ m ihm =>
        intro i q t hm hi hq hle ht hf
        have hil : i < links.length := by omega
        obtain ⟨l,hl⟩ : ∃ l,links.getD i z74 = l := ⟨_,rfl⟩
        have hmem := P.at hil
        obtain ⟨ha,hb⟩ := P.ends _ hmem
        have hWf := adjQ_wf wq W nodes links P.ends P.wts
        by_cases hlive : live nodes (links.getD i z74)
        ·
          have hA : (plc nodes (links.getD i z74).f1,wq (links.getD i z74).f2) ∈ (adjQ wq nodes links).getD (plc nodes (links.getD i z74).f0) [] := (mem_adjQ wq nodes links P.ends _ _).2 ⟨_,hmem,hlive,Or.inl ⟨rfl,rfl⟩⟩
          have hB : (plc nodes (links.getD i z74).f0,wq (links.getD i z74).f2) ∈ (adjQ wq nodes links).getD (plc nodes (links.getD i z74).f1) [] := (mem_adjQ wq nodes links P.ends _ _).2 ⟨_,hmem,hlive,Or.inr ⟨rfl,rfl⟩⟩
          have one : ∀ (q : List Nat) (t : Bool),RInv (adjQ wq nodes links) M s nodes.length q → q.sum ≤ q0.sum → (t = true → q.sum < q0.sum) → ∀ (p : Nat) (e : Nat × Nat),p < nodes.length → e ∈ (adjQ wq nodes links).getD p [] →
              ∃ q1 t1,RInv (adjQ wq nodes links) M s nodes.length q1 ∧ q1.sum ≤ q0.sum ∧ (t1 = true → q1.sum < q0.sum) ∧ ((min M (e.2 + q.getD p 0) < q.getD e.1 0 ∧ q1 = q.set e.1 (min M (e.2 + q.getD p 0)) ∧ t1 = true) ∨ (¬ min M (e.2 + q.getD p 0) < q.getD e.1 0 ∧ q1 = q ∧ t1 = t)) := by
            intro q t hq hle ht p e hp he
            by_cases hlt : min M (e.2 + q.getD p 0) < q.getD e.1 0
            · obtain ⟨h1,h2⟩ := hq.relax hWf hp he hlt
              exact ⟨_,true,h1,by omega,fun _ => by omega,Or.inl ⟨hlt,rfl,rfl⟩⟩
            exact ⟨q,t,hq,hle,ht,Or.inr ⟨hlt,rfl,rfl⟩⟩
          obtain ⟨q1,t1,i1,s1,f1,r1⟩ := one q t hq hle ht _ _ ha hA
          obtain ⟨q2,t2,i2,s2,f2,r2⟩ := one q1 t1 i1 s1 f1 _ _ hb hB
          have hcalm : t2 = false → ∀ j,j < i + 1 → Calm wq nodes M q2 (links.getD j z74) := by
            intro h2 j hj
            rcases r2 with ⟨_,_,h3⟩ | ⟨n2,rfl,rfl⟩
            · rw [h3] at h2
              cases h2
            rcases r1 with ⟨_,_,h3⟩ | ⟨n1,rfl,rfl⟩
            · rw [h3] at h2
              cases h2
            rcases Nat.lt_or_ge j i with h4 | h4
            · exact hf h2 j h4
            obtain rfl : j = i := by omega
            exact fun _ => ⟨Nat.le_of_not_lt n1,Nat.le_of_not_lt n2⟩
          obtain ⟨r,h1,h2⟩ := ihm (i + 1) q2 t2 (by omega) (by omega) i2 s2 f2 hcalm
          obtain ⟨K,hK⟩ := h2
          refine ⟨r,h1,K + 3,fun k hk => ?_⟩
          obtain ⟨k,rfl⟩ : ∃ m,k = m + 3 := ⟨k - 3,by omega⟩
          show beaconref08_dists.l3 (k + 3) _ _ _ _ _ _ _ _ = _
          rw [l3_live P hil hlive q hq.len hq.le t k q1 t1 i1.len i1.le r1 q2 t2 r2]
          exact hK k (by omega)
        have hcalm : t = false → ∀ j,j < i + 1 → Calm wq nodes M q (links.getD j z74) := by
          intro h2 j hj
          rcases Nat.lt_or_ge j i with h4 | h4
          · exact hf h2 j h4
          obtain rfl : j = i := by omega
          exact fun h => absurd h hlive
        obtain ⟨r,h1,h2⟩ := ihm (i + 1) q t (by omega) (by omega) hq hle ht hcalm
        obtain ⟨K,hK⟩ := h2
        refine ⟨r,h1,K + 2,fun k hk => ?_⟩
        obtain ⟨k,rfl⟩ : ∃ m,k = m + 2 := ⟨k - 2,by omega⟩
        show beaconref08_dists.l3 (k + 2) _ _ _ _ _ _ _ _ = _
        rw [l3_dead P hil hlive q t k]
        exact hK k (by omega)
    obtain ⟨r,h1,h2⟩ := go links.length 0 q0 false (by omega) (Nat.zero_le _) hq0 (Nat.le_refl _) (fun h => by cases h) (fun _ j hj => absurd hj (Nat.not_lt_zero _))
    refine ⟨r,h1,Ev.step 0 (fun k _ => ?_) h2⟩
    show beaconref08_dists.l2 (k + 1) _ _ _ _ _ _ _ = _
    rw [beaconref08_dists.l2,if_pos rfl]
    rfl
theorem take_snoc74 (links : List S74) (i : Nat) (hi : i < links.length) : links.take (i + 1) = links.take i ++ [links.getD i z74] := by
  rw [List.take_add_one,List.getElem?_eq_getElem hi]
  simp [List.getD_eq_getElem?_getD,hi]
theorem l1_go (P : Pass wq nodes links M W s) (d r : List Nat) (h : Ev (fun k => beaconref08_dists.l2 k (bq M) d (asOf nodes links) (bsOf nodes links) true nodes links) r) : ∀ (m i : Nat),links.length - i = m → i ≤ links.length →
    Ev (fun k => beaconref08_dists.l1 k (bq M) d (asOf nodes (links.take i)) (bsOf nodes (links.take i)) (i : Int) nodes links) r := by
  have hl4 := P.l4096
  intro m
  induction m with
  | zero =>
    intro i hm hi
    obtain rfl : i = links.length := by omega
    rw [List.take_length]
    refine Ev.step 0 (fun k _ => ?_) h
    show beaconref08_dists.l1 (k + 1) _ _ _ _ _ _ _ = _
    rw [beaconref08_dists.l1,if_neg (by omega)]
  | succ m ihm =>
    intro i hm hi
    have hil : i < links.length := by omega
    obtain ⟨ha,hb⟩ := P.ends _ (P.at hil)
    refine Ev.step 257 (fun k hk => ?_) (ihm (i + 1) (by omega) (by omega))
    show beaconref08_dists.l1 (k + 1) _ _ _ _ _ _ _ = _
    have hal : (asOf nodes (links.take i)).length = i := by simp [asOf];omega
    have hbl : (bsOf nodes (links.take i)).length = i := by simp [bsOf];omega
    rw [beaconref08_dists.l1,if_pos (by omega),if_pos (by omega),rd74,place_tells nodes links _ P.n256 k hk,if_pos ha,Option.bind_some,if_pos (by omega),place_tells nodes links _ P.n256 k hk,if_pos hb,Option.bind_some,if_pos (by omega),wrap_succ i (by omega)]
    have e1 : asOf nodes (links.take (i + 1)) = asOf nodes (links.take i) ++ [(plc nodes (links.getD i z74).f0 : Int)] := by
      rw [take_snoc74 links i hil]
      simp [asOf]
    have e2 : bsOf nodes (links.take (i + 1)) = bsOf nodes (links.take i) ++ [(plc nodes (links.getD i z74).f1 : Int)] := by
      rw [take_snoc74 links i hil]
      simp [bsOf]
    rw [e1,e2]
theorem l0_go (P : Pass wq nodes links M W s) (id : Int) (r : List Nat) (h : Ev (fun k => beaconref08_dists.l0 k (bq M) id (dbits M (List.replicate nodes.length M)) (nodes.length : Int) nodes links) r) : ∀ (m i : Nat),nodes.length - i = m → i ≤ nodes.length →
    Ev (fun k => beaconref08_dists.l0 k (bq M) id (dbits M (List.replicate i M)) (i : Int) nodes links) r := by
  have hn := P.n256
  intro m
  induction m with
  | zero =>
    intro i hm hi
    obtain rfl : i = nodes.length := by omega
    exact h
  | succ m ihm =>
    intro i hm hi
    refine Ev.step 0 (fun k _ => ?_) (ihm (i + 1) (by omega) (by omega))
    show beaconref08_dists.l0 (k + 1) _ _ _ _ _ _ = _
    have hdl : (dbits M (List.replicate i M)).length = i := by simp [dbits]
    have hinf : math_Inf.f 1 = some 9218868437227405312 := rfl
    rw [beaconref08_dists.l0,if_pos (by omega),hinf,Option.bind_some,if_pos (by omega),wrap_succ i (by omega)]
    have e1 : dbits M (List.replicate (i + 1) M) = dbits M (List.replicate i M) ++ [9218868437227405312] := by
      rw [List.replicate_succ']
      simp [dbits,encM_top]
    rw [e1]
theorem ref_dists (P : Pass wq nodes links M W s) (id : Int) (hid : plc nodes id = s) :
    ∃ q,Ev (fun k => beaconref08_dists.f k nodes links (bq M) id) (dbits M q) ∧ (((nodes.getD s z40).f1 = true ∧ IsDist (adjQ wq nodes links) M s nodes.length q) ∨ ((nodes.getD s z40).f1 = false ∧ q = List.replicate nodes.length M)) := by
  have hs := P.src
  have hlen : (dbits M (List.replicate nodes.length M)).length = nodes.length := by simp [dbits]
  have place : ∀ k,257 ≤ k → beaconref08_place.f k nodes links id = some (s : Int) := by
    intro k hk
    rw [place_tells nodes links id P.n256 k hk,hid,if_pos hs]
  by_cases hup : (nodes.getD s z40).f1 = true
  · have hR : RInv (adjQ wq nodes links) M s nodes.length ((List.replicate nodes.length M).set s 0) := RInv.start P.pos hs
    obtain ⟨q,h1,h2⟩ := dists_pass P _ _ hR (Nat.le_refl _)
    refine ⟨q,?_,Or.inl ⟨hup,h1⟩⟩
    have h3 := l1_go P _ _ h2 links.length 0 (by omega) (Nat.zero_le _)
    refine l0_go P id _ ?_ nodes.length 0 (by omega) (Nat.zero_le _)
    refine Ev.step 257 (fun k hk => ?_) h3
    show beaconref08_dists.l0 (k + 1) _ _ _ _ _ _ = _
    rw [beaconref08_dists.l0,if_neg (by omega),place k hk,Option.bind_some,if_pos (by omega),if_pos (by omega),rd40,if_pos hup,if_pos (by omega)]
    have e1 : (dbits M (List.replicate nodes.length M)).set ((s : Int).toNat) 0 = dbits M ((List.replicate nodes.length M).set s 0) := by
      have h0 : encM M 0 = 0 := by rw [encM_lt M 0 P.pos,bq_zero]
      have := dbits_set M (List.replicate nodes.length M) s 0
      rwa [h0] at this
    rw [e1]
    rfl
  have hdn : (nodes.getD s z40).f1 = false := by simpa using hup
  refine ⟨List.replicate nodes.length M,?_,Or.inr ⟨hdn,rfl⟩⟩
  refine l0_go P id _ ?_ nodes.length 0 (by omega) (Nat.zero_le _)
  refine Ev.now 258 (fun k hk => ?_)
  obtain ⟨k,rfl⟩ : ∃ m,k = m + 1 := ⟨k - 1,by omega⟩
  show beaconref08_dists.l0 (k + 1) _ _ _ _ _ _ = _
  rw [beaconref08_dists.l0,if_neg (by omega),place k (by omega),Option.bind_some,if_pos (by omega),if_pos (by omega),rd40,if_neg hup]
end
end Go.Proofs.Ytmdkcecbklgihaa.PA
