/- PathsSteps, of numbers and lists alone. No condition. -/
import Derived.Test.YtmdkcecbklgihaaSpX
import Derived.Test.YtmdkcecbklgihaaSpGh
import Derived.Test.YtmdkcecbklgihaaSpHp
import Derived.Test.YtmdkcecbklgihaaSpStPathsSteps
namespace Go.Proofs.Ytmdkcecbklgihaa.PA
open Go.RowKit Go.Proofs.YtmdkcecbklgihaaW.PrintWords
open Classical
set_option linter.unusedVariables false
set_option linter.unusedSimpArgs false
set_option linter.unusedSectionVars false
theorem rd_nat (xs : List Int) (i : Nat) : rd xs (i : Int) = xs.getD i 0 := by
  unfold rd
  rw [Int.toNat_natCast]
noncomputable def way (nodes : List S40) (links : List S74) (M : Nat) (q : List Nat) (dest : Int) : Nat → Int → List Int
  | 0,id => [id]
  | k + 1,id => if id = dest then [id] else id :: way nodes links M q dest k (hopTo nodes links M q (plc nodes dest) id)
theorem walkOn_way (nodes : List S40) (links : List S74) (M : Nat) (q : List Nat) (dest : Int) : ∀ (k : Nat) (id : Int) (l : List Int),walkOn nodes links M q dest k id (l ++ [id]) = l ++ way nodes links M q dest k id
  | 0,id,l => rfl
  | k + 1,id,l => by
    show (if id = dest then l ++ [id] else _) = l ++ (if id = dest then [id] else _)
    by_cases he : id = dest
    · rw [if_pos he,if_pos he]
    · rw [if_neg he,if_neg he,walkOn_way nodes links M q dest k _ (l ++ [id]),List.append_assoc]
      rfl
theorem walkOn_one (nodes : List S40) (links : List S74) (M : Nat) (q : List Nat) (dest : Int) (k : Nat) (id : Int) : walkOn nodes links M q dest k id [id] = way nodes links M q dest k id := walkOn_way nodes links M q dest k id []
theorem walkOn_len (nodes : List S40) (links : List S74) (M : Nat) (q : List Nat) (dest : Int) : ∀ (K : Nat) (id : Int) (L : List Int),(walkOn nodes links M q dest K id L).length ≤ L.length + K
  | 0,id,L => Nat.le_refl _
  | K + 1,id,L => by
    show (if id = dest then L else _).length ≤ _
    by_cases he : id = dest
    · rw [if_pos he]
      omega
    · rw [if_neg he]
      refine Nat.le_trans (walkOn_len nodes links M q dest K _ _) ?_
      rw [List.length_append,List.length_singleton]
      omega
theorem links_lt {nodes : List S40} {links : List S74} (lk : ∀ i,i < links.length → lkBad nodes links i = false) : ∀ (d i : Nat),i + d + 1 < links.length →
    (links.getD i z74).f0 < (links.getD (i + d + 1) z74).f0 ∨ ((links.getD i z74).f0 = (links.getD (i + d + 1) z74).f0 ∧ (links.getD i z74).f1 < (links.getD (i + d + 1) z74).f1)
  | 0,i,h => by
    have := of_decide_eq_false (lk (i + 1) h)
    rw [Nat.add_sub_cancel] at this
    rw [show i + 0 + 1 = i + 1 from rfl]
    rcases Int.lt_trichotomy (links.getD i z74).f0 (links.getD (i + 1) z74).f0 with h1 | h1 | h1
    · exact Or.inl h1
    · rcases Int.lt_or_le (links.getD i z74).f1 (links.getD (i + 1) z74).f1 with h2 | h2
      · exact Or.inr ⟨h1,h2⟩
      · exact absurd (Or.inr (Or.inr (Or.inr ⟨by omega,Or.inr ⟨h1,h2⟩⟩))) this
    · exact absurd (Or.inr (Or.inr (Or.inr ⟨by omega,Or.inl h1⟩))) this
  | d + 1,i,h => by
    have h1 := links_lt lk d i (by omega)
    have h2 := links_lt lk 0 (i + d + 1) (by omega)
    rw [show i + d + 1 + 0 + 1 = i + (d + 1) + 1 from by omega] at h2
    omega
theorem link_alone {nodes : List S40} {links : List S74} (lk : ∀ i,i < links.length → lkBad nodes links i = false) {i j : Nat} (hi : i < links.length) (hj : j < links.length) (h0 : (links.getD i z74).f0 = (links.getD j z74).f0) (h1 : (links.getD i z74).f1 = (links.getD j z74).f1) : i = j := by
  rcases Nat.lt_trichotomy i j with h | h | h
  · have := links_lt lk (j - i - 1) i (by omega)
    rw [show i + (j - i - 1) + 1 = j from by omega] at this
    omega
  · exact h
  · have := links_lt lk (i - j - 1) j (by omega)
    rw [show j + (i - j - 1) + 1 = i from by omega] at this
    omega
def joins (l : S74) (a b : Int) : Prop := (l.f0 = a ∧ l.f1 = b) ∨ (l.f0 = b ∧ l.f1 = a)
theorem weight_step (nodes : List S40) (links : List S74) (a b : Int) (i k : Nat) (hi : i < links.length) : ∃ B : Bool,(B = true ↔ ((links.getD i z74).f3 = true ∧ joins (links.getD i z74) a b)) ∧ beaconlaw08_weight.l0 (k + 1) a b (i : Int) nodes links =
    beaconlaw08_weight.j1 k a b (i : Int) B nodes links (links.getD i z74).f0 (links.getD i z74).f1 (links.getD i z74).f2 (links.getD i z74).f3 := by
  rw [beaconlaw08_weight.l0,if_pos (by omega),if_pos (by omega),rd74]
  unfold joins
  by_cases h3 : (links.getD i z74).f3 = true
  · rw [if_pos h3]
    by_cases c0 : (links.getD i z74).f0 = a
    · rw [if_pos c0]
      by_cases c1 : (links.getD i z74).f1 = b
      · rw [if_pos c1]
        exact ⟨true,⟨fun _ => ⟨h3,Or.inl ⟨c0,c1⟩⟩,fun _ => rfl⟩,rfl⟩
      · rw [if_neg c1]
        by_cases c2 : (links.getD i z74).f0 = b
        · rw [if_pos c2]
          refine ⟨_,?_,rfl⟩
          rw [beq_iff_eq]
          exact ⟨fun h => ⟨h3,Or.inr ⟨c2,h⟩⟩,fun h => h.2.elim (fun h => absurd h.2 c1) (fun h => h.2)⟩
        · rw [if_neg c2]
          exact ⟨false,⟨fun h => absurd h (by decide),fun h => (h.2.elim (fun h => c1 h.2) (fun h => c2 h.1)).elim⟩,rfl⟩
    · rw [if_neg c0]
      by_cases c2 : (links.getD i z74).f0 = b
      · rw [if_pos c2]
        refine ⟨_,?_,rfl⟩
        rw [beq_iff_eq]
        exact ⟨fun h => ⟨h3,Or.inr ⟨c2,h⟩⟩,fun h => h.2.elim (fun h => absurd h.1 c0) (fun h => h.2)⟩
      · rw [if_neg c2]
        exact ⟨false,⟨fun h => absurd h (by decide),fun h => (h.2.elim (fun h => c0 h.1) (fun h => c2 h.1)).elim⟩,rfl⟩
  · rw [if_neg h3]
    exact ⟨false,⟨fun h => absurd h (by decide),fun h => (h3 h.1).elim⟩,rfl⟩
theorem weight_go {nodes : List S40} {links : List S74} (G : Good nodes links) {a b : Int} {j : Nat} (hj : j < links.length) (h3 : (links.getD j z74).f3 = true) (hjn : joins (links.getD j z74) a b) : ∀ (m i : Nat),j - i = m → i ≤ j →
    Ev (fun k => beaconlaw08_weight.l0 k a b (i : Int) nodes links) (links.getD j z74).f2 := by
  have hl := G.l4096
  intro m
  induction m with
  | zero =>
    intro i hm hi
    obtain rfl : i = j := by omega
    refine Ev.now 2 (fun k hk => ?_)
    obtain ⟨k,rfl⟩ : ∃ m,k = m + 1 + 1 := ⟨k - 2,by omega⟩
    show beaconlaw08_weight.l0 (k + 1 + 1) _ _ _ _ _ = _
    obtain ⟨B,hB,hw⟩ := weight_step nodes links a b i (k + 1) hj
    rw [hw,beaconlaw08_weight.j1,if_pos (hB.2 ⟨h3,hjn⟩)]
  | succ m ihm =>
    intro i hm hi
    have hil : i < links.length := by omega
    have hno : ¬ ((links.getD i z74).f3 = true ∧ joins (links.getD i z74) a b) := by
      rintro ⟨_,h⟩
      have l1 := G.less (l := links.getD i z74) (by simp [List.getD_eq_getElem?_getD,hil])
      have l2 := G.less (l := links.getD j z74) (by simp [List.getD_eq_getElem?_getD,hj])
      have : i = j := by
        rcases h with ⟨h1,h2⟩ | ⟨h1,h2⟩ <;> rcases hjn with ⟨h5,h6⟩ | ⟨h5,h6⟩
        · exact link_alone G.lk hil hj (by omega) (by omega)
        · omega
        · omega
        · exact link_alone G.lk hil hj (by omega) (by omega)
      omega
    have hj1 : Ev (fun k => beaconlaw08_weight.j1 k a b (i : Int) false nodes links (links.getD i z74).f0 (links.getD i z74).f1 (links.getD i z74).f2 (links.getD i z74).f3) (links.getD j z74).f2 := by
      refine Ev.step 0 (fun k _ => ?_) (ihm (i + 1) (by omega) (by omega))
      show beaconlaw08_weight.j1 (k + 1) _ _ _ _ _ _ _ _ _ _ = _
      rw [beaconlaw08_weight.j1,if_neg (by decide),wrap_succ i (by omega)]
    refine Ev.step 0 (fun k _ => ?_) hj1
    show beaconlaw08_weight.l0 (k + 1) _ _ _ _ _ = _
    obtain ⟨B,hB,hw⟩ := weight_step nodes links a b i k hil
    have hBf : B = false := by
      cases B with
      | false => rfl
      | true => exact absurd (hB.1 rfl) hno
    rw [hw,hBf]
section
variable {nodes : List S40} {links : List S74} (G : Good nodes links) (hF : Fits links) {M : Nat} (h4 : 4 ≤ M) (hM : M ≤ 4294967296) {dest : Int} (hd : plc nodes dest < nodes.length)
include G hF h4 hM hd
theorem way_spec : ∀ (K : Nat) (id : Int),plc nodes id < nodes.length → (dQ nodes links M (plc nodes dest)).getD (plc nodes id) 0 < M → (dQ nodes links M (plc nodes dest)).getD (plc nodes id) 0 ≤ K →
    0 < (way nodes links M (dQ nodes links M (plc nodes dest)) dest K id).length ∧
    (way nodes links M (dQ nodes links M (plc nodes dest)) dest K id).getD 0 0 = id ∧
    (way nodes links M (dQ nodes links M (plc nodes dest)) dest K id).getD ((way nodes links M (dQ nodes links M (plc nodes dest)) dest K id).length - 1) 0 = dest ∧
    (∀ i,i < (way nodes links M (dQ nodes links M (plc nodes dest)) dest K id).length → plc nodes ((way nodes links M (dQ nodes links M (plc nodes dest)) dest K id).getD i 0) < nodes.length ∧
      (dQ nodes links M (plc nodes dest)).getD (plc nodes ((way nodes links M (dQ nodes links M (plc nodes dest)) dest K id).getD i 0)) 0 < M ∧
      (way nodes links M (dQ nodes links M (plc nodes dest)) dest K id).drop i = way nodes links M (dQ nodes links M (plc nodes dest)) dest ((dQ nodes links M (plc nodes dest)).getD (plc nodes ((way nodes links M (dQ nodes links M (plc nodes dest)) dest K id).getD i 0)) 0) ((way nodes links M (dQ nodes links M (plc nodes dest)) dest K id).getD i 0)) ∧
    (∀ i,i + 1 < (way nodes links M (dQ nodes links M (plc nodes dest)) dest K id).length → ∃ e,e ∈ (adjQ wqOf nodes links).getD (plc nodes ((way nodes links M (dQ nodes links M (plc nodes dest)) dest K id).getD i 0)) [] ∧
      e.2 + (dQ nodes links M (plc nodes dest)).getD (plc nodes ((way nodes links M (dQ nodes links M (plc nodes dest)) dest K id).getD (i + 1) 0)) 0 = (dQ nodes links M (plc nodes dest)).getD (plc nodes ((way nodes links M (dQ nodes links M (plc nodes dest)) dest K id).getD i 0)) 0 ∧ 1 ≤ e.2 ∧
      e.1 = plc nodes ((way nodes links M (dQ nodes links M (plc nodes dest)) dest K id).getD (i + 1) 0)) := by
  obtain ⟨q,hq⟩ : ∃ q,dQ nodes links M (plc nodes dest) = q := ⟨_,rfl⟩
  have hop := fun {id : Int} => hop_tells G hF h4 hM hd (id := id)
  have hmore : ∀ (k k' : Nat) (id : Int),plc nodes id < nodes.length → q.getD (plc nodes id) 0 < M → q.getD (plc nodes id) 0 ≤ k → k ≤ k' → way nodes links M q dest k' id = way nodes links M q dest k id := by
    intro k k' id h1 h2 h3 h5
    rw [← walkOn_one,← walkOn_one,← hq]
    rw [← hq] at h2 h3
    exact walkOn_more G hF h4 hM hd rfl (plc_at hd) k k' id [id] h1 h2 h3 h5
  rw [hq] at hop ⊢
  intro K
  induction K with
  | zero =>
    intro id hid hlt hK
    have he : id = dest := by
      rcases Nat.decEq (plc nodes id) (plc nodes dest) with h | h
      · obtain ⟨e,_,_,a3,_,a5,_⟩ := hop hid h hlt
        omega
      · rw [← plc_at hid,h,plc_at hd]
    have hw : way nodes links M q dest 0 id = [id] := rfl
    rw [hw]
    refine ⟨by simp,rfl,he,fun i hi => ?_,fun i hi => absurd hi (by simp)⟩
    obtain rfl : i = 0 := by simpa using hi
    have hq0 : q.getD (plc nodes id) 0 = 0 := by omega
    exact ⟨hid,hlt,by show [id] = way nodes links M q dest (q.getD (plc nodes id) 0) id;rw [hq0];rfl⟩
  | succ K ih =>
    intro id hid hlt hK
    by_cases he : id = dest
    · have hw : ∀ k,way nodes links M q dest k id = [id] := by
        intro k
        cases k with
        | zero => rfl
        | succ k =>
          show (if id = dest then [id] else _) = [id]
          rw [if_pos he]
      rw [hw]
      refine ⟨by simp,rfl,he,fun i hi => ?_,fun i hi => absurd hi (by simp)⟩
      obtain rfl : i = 0 := by simpa using hi
      exact ⟨hid,hlt,(hw _).symm⟩
    · have hne : plc nodes id ≠ plc nodes dest := by
        intro h
        apply he
        rw [← plc_at hid,h,plc_at hd]
      obtain ⟨e,a1,a2,a3,a4,a5,a6,a7⟩ := hop hid hne hlt
      have hw : way nodes links M q dest (K + 1) id = id :: way nodes links M q dest K (hopTo nodes links M q (plc nodes dest) id) := by
        show (if id = dest then [id] else _) = _
        rw [if_neg he]
      obtain ⟨hp,hhp⟩ : ∃ hp,hopTo nodes links M q (plc nodes dest) id = hp := ⟨_,rfl⟩
      rw [hhp] at a6 a7 hw
      have hself := hmore _ (K + 1) id hid hlt (Nat.le_refl _) hK
      obtain ⟨b1,b2,b3,b4,b5⟩ := ih hp (by rw [a7];exact a4) (by rw [a7];exact a2) (by rw [a7];omega)
      obtain ⟨W,hW⟩ : ∃ W,way nodes links M q dest K hp = W := ⟨_,rfl⟩
      rw [hW] at b1 b2 b3 b4 b5 hw
      rw [hw] at hself ⊢
      refine ⟨by simp,rfl,?_,fun i hi => ?_,fun i hi => ?_⟩
      · rw [List.length_cons,Nat.add_sub_cancel]
        obtain ⟨n,hn⟩ : ∃ n,W.length = n + 1 := ⟨W.length - 1,by omega⟩
        rw [hn,List.getD_cons_succ]
        rw [hn,Nat.add_sub_cancel] at b3
        exact b3
      · cases i with
        | zero => exact ⟨hid,hlt,hself⟩
        | succ i =>
          rw [List.getD_cons_succ,List.drop_succ_cons]
          exact b4 i (by rw [List.length_cons] at hi;omega)
      · cases i with
        | zero =>
          refine ⟨e,a1,?_,a5,?_⟩
          · show e.2 + q.getD (plc nodes (W.getD 0 0)) 0 = q.getD (plc nodes id) 0
            rw [b2,a7]
            exact a3
          · show e.1 = plc nodes (W.getD 0 0)
            rw [b2,a7]
        | succ i =>
          rw [List.getD_cons_succ,List.getD_cons_succ]
          exact b5 i (by rw [List.length_cons] at hi;omega)
end
theorem way_less (nodes : List S40) (W : List Int) (q : List Nat) (R : Adj) (h5 : ∀ i,i + 1 < W.length → ∃ e,e ∈ R.getD (plc nodes (W.getD i 0)) [] ∧ e.2 + q.getD (plc nodes (W.getD (i + 1) 0)) 0 = q.getD (plc nodes (W.getD i 0)) 0 ∧ 1 ≤ e.2 ∧ e.1 = plc nodes (W.getD (i + 1) 0)) :
    ∀ (d i : Nat),i + d + 1 < W.length → q.getD (plc nodes (W.getD (i + d + 1) 0)) 0 < q.getD (plc nodes (W.getD i 0)) 0
  | 0,i,h => by
    obtain ⟨e,_,h2,h3,_⟩ := h5 i h
    rw [show i + 0 + 1 = i + 1 from rfl]
    omega
  | d + 1,i,h => by
    have h1 := way_less nodes W q R h5 d i (by omega)
    obtain ⟨e,_,h2,h3,_⟩ := h5 (i + d + 1) (by omega)
    rw [show i + (d + 1) + 1 = i + d + 1 + 1 from by omega]
    omega
def prevQ (nodes : List S40) (q : List Nat) (W : List Int) (qa i : Nat) : Nat := if i = 0 then qa else q.getD (plc nodes (W.getD (i - 1) 0)) 0
section
variable {nodes : List S40} {links : List S74} (G : Good nodes links) (hF : Fits links) {M mx : Nat} (h4 : 4 ≤ M) (hM : M ≤ 4294967296) {a b : Int} (hb : plc nodes b < nodes.length) (hm : mx < 18446744073709551616) (t1 : lE mx = 0) (t2 : ckSpec nodes links = 0) (hMM : mqOf mx = M)
  {W : List Int} {q : List Nat} {qa : Nat} (hq : dQ nodes links M (plc nodes b) = q) (hqa : qa < M) (hlen : W.length ≤ 4294967297) (hw1 : 0 < W.length) (hwa : q.getD (plc nodes (W.getD 0 0)) 0 = qa) (hwb : W.getD (W.length - 1) 0 = b) (hq0 : q.getD (plc nodes b) 0 = 0)
  (hw4 : ∀ i,i < W.length → plc nodes (W.getD i 0) < nodes.length ∧ q.getD (plc nodes (W.getD i 0)) 0 < M ∧ W.drop i = way nodes links M q b (q.getD (plc nodes (W.getD i 0)) 0) (W.getD i 0))
  (hw5 : ∀ i,i + 1 < W.length → ∃ e,e ∈ (adjQ wqOf nodes links).getD (plc nodes (W.getD i 0)) [] ∧ e.2 + q.getD (plc nodes (W.getD (i + 1) 0)) 0 = q.getD (plc nodes (W.getD i 0)) 0 ∧ 1 ≤ e.2 ∧ e.1 = plc nodes (W.getD (i + 1) 0))
include G hF h4 hM hb hm t1 t2 hMM hq hqa hlen hw1 hwa hwb hq0 hw4 hw5
theorem left_le (i : Nat) (hi : i < W.length) : q.getD (plc nodes (W.getD i 0)) 0 ≤ qa := by
  rcases Nat.eq_zero_or_pos i with h | h
  · rw [h,hwa]
    exact Nat.le_refl _
  · have := way_less nodes W q _ hw5 (i - 1) 0 (by omega)
    rw [show 0 + (i - 1) + 1 = i from by omega,hwa] at this
    omega
theorem steps_j4 {i : Nat} (hi : i < W.length) (hnext : Ev (fun k => beaconlaw08_PathsSteps.l0 k mx W (bq qa) (bq (qa - prevQ nodes q W qa (i + 1))) ((i + 1 : Nat) : Int) nodes links a b) true) :
    Ev (fun k => beaconlaw08_PathsSteps.j4 k mx W (bq qa) (bq (qa - q.getD (plc nodes (W.getD i 0)) 0)) (i : Int) nodes links a b) true := by
  obtain ⟨v1,v2,v3⟩ := hw4 i hi
  have hle := left_le G hF h4 hM hb hm t1 t2 hMM hq hqa hlen hw1 hwa hwb hq0 hw4 hw5 i hi
  have hp : paths_Path.f nodes links mx (W.getD i 0) b = some (W.drop i,bq (q.getD (plc nodes (W.getD i 0)) 0),0) := by
    unfold paths_Path.f
    rw [if_pos ⟨hF,hm⟩,pathSpec_ok (ask2_ok t1 t2 v1 hb) (by rw [hMM,hq];omega),hMM,hq,walkOn_one,← v3]
  have hpv : prevQ nodes q W qa (i + 1) = q.getD (plc nodes (W.getD i 0)) 0 := by
    unfold prevQ
    rw [if_neg (by omega),Nat.add_sub_cancel]
  rw [hpv] at hnext
  have hj5 : Ev (fun k => beaconlaw08_PathsSteps.j5 k mx W (bq qa) (bq (qa - q.getD (plc nodes (W.getD i 0)) 0)) (i : Int) false nodes links a b) true := by
    refine Ev.step 0 (fun k _ => ?_) hnext
    show beaconlaw08_PathsSteps.j5 (k + 1) _ _ _ _ _ _ _ _ _ _ = _
    rw [beaconlaw08_PathsSteps.j5,if_neg (by decide),wrap_succ i (by omega)]
  obtain ⟨K,hK⟩ := ints_same (W.drop i) (by rw [List.length_drop];omega)
  refine Ev.step K (fun k hk => ?_) hj5
  have hk1 : beaconlaw08_ints.f k (W.drop i) (W.drop i) = some true := hK k hk
  show beaconlaw08_PathsSteps.j4 (k + 1) _ _ _ _ _ _ _ _ _ = _
  rw [beaconlaw08_PathsSteps.j4,if_pos (by omega),if_pos (by omega),rd_nat,hp,Option.bind_some]
  show (if (0 : Int) = 0 then _ else _) = _
  rw [if_pos rfl,if_pos (by omega),Int.toNat_natCast]
  show (beaconlaw08_ints.f k (W.drop i) (W.drop i)).bind _ = _
  rw [hk1,Option.bind_some,if_pos rfl]
  show (floatBits .add .f64 (bq (qa - q.getD (plc nodes (W.getD i 0)) 0)) (bq (q.getD (plc nodes (W.getD i 0)) 0))).bind _ = _
  rw [sum_bits _ _ (by omega),Option.bind_some,show qa - q.getD (plc nodes (W.getD i 0)) 0 + q.getD (plc nodes (W.getD i 0)) 0 = qa from by omega]
  unfold bne
  rw [eq_bits _ _ (by omega) (by omega),decide_eq_true rfl]
  rfl
theorem steps_l1 {i : Nat} (hi : i < W.length) (hnext : Ev (fun k => beaconlaw08_PathsSteps.l0 k mx W (bq qa) (bq (qa - prevQ nodes q W qa (i + 1))) ((i + 1 : Nat) : Int) nodes links a b) true) : ∀ (m c : Nat),i - c = m → c ≤ i →
    Ev (fun k => beaconlaw08_PathsSteps.l1 k mx W (bq qa) (bq (qa - prevQ nodes q W qa i)) (i : Int) (c : Int) nodes links a b) true := by
  have hj4 := steps_j4 G hF h4 hM hb hm t1 t2 hMM hq hqa hlen hw1 hwa hwb hq0 hw4 hw5 hi hnext
  have hle := left_le G hF h4 hM hb hm t1 t2 hMM hq hqa hlen hw1 hwa hwb hq0 hw4 hw5 i hi
  intro m
  induction m with
  | zero =>
    intro c hm' hc
    obtain rfl : c = i := by omega
    rcases Nat.eq_zero_or_pos c with h0 | h0
    · have hpv : prevQ nodes q W qa c = q.getD (plc nodes (W.getD c 0)) 0 := by
        unfold prevQ
        rw [if_pos h0,h0,hwa]
      rw [hpv]
      refine Ev.step 0 (fun k _ => ?_) hj4
      show beaconlaw08_PathsSteps.l1 (k + 1) _ _ _ _ _ _ _ _ _ _ = _
      rw [beaconlaw08_PathsSteps.l1,if_neg (by omega),if_neg (by omega)]
    · obtain ⟨e,g1,g2,g3,g4⟩ := hw5 (c - 1) (by omega)
      rw [show c - 1 + 1 = c from by omega] at g2 g4
      obtain ⟨v1,v2,v3⟩ := hw4 (c - 1) (by omega)
      obtain ⟨u1,u2,u3⟩ := hw4 c hi
      have hle2 := left_le G hF h4 hM hb hm t1 t2 hMM hq hqa hlen hw1 hwa hwb hq0 hw4 hw5 (c - 1) (by omega)
      obtain ⟨l,hl,hl2,hl3⟩ := (mem_adjQ wqOf nodes links G.ends _ _).1 g1
      obtain ⟨e0,e1⟩ := G.ends l hl
      obtain ⟨j,hj,rfl⟩ := getD_mem74 hl
      obtain ⟨w1,w2,w3⟩ := G.weights hF hl
      have hjn : joins (links.getD j z74) (W.getD (c - 1) 0) (W.getD c 0) ∧ e.2 = wqOf (links.getD j z74).f2 := by
        rcases hl3 with ⟨k1,k2⟩ | ⟨k1,k2⟩
        · rw [k2] at g4
          have g5 : plc nodes (links.getD j z74).f1 = plc nodes (W.getD c 0) := g4
          refine ⟨Or.inl ⟨?_,?_⟩,by rw [k2]⟩
          · rw [← plc_at e0,k1,plc_at v1]
          · rw [← plc_at e1,g5,plc_at u1]
        · rw [k2] at g4
          have g5 : plc nodes (links.getD j z74).f0 = plc nodes (W.getD c 0) := g4
          refine ⟨Or.inr ⟨?_,?_⟩,by rw [k2]⟩
          · rw [← plc_at e0,g5,plc_at u1]
          · rw [← plc_at e1,k1,plc_at v1]
      obtain ⟨K,hK⟩ := weight_go G hj hl2.1 hjn.1 j 0 (by omega) (Nat.zero_le _)
      have hpv : prevQ nodes q W qa c = q.getD (plc nodes (W.getD (c - 1) 0)) 0 := by
        unfold prevQ
        rw [if_neg (by omega)]
      rw [hpv]
      refine Ev.step K (fun k hk => ?_) hj4
      have hk1 : beaconlaw08_weight.f k nodes links (W.getD (c - 1) 0) (W.getD c 0) = some (bq e.2) := by
        rw [hjn.2,w1]
        exact hK k hk
      show beaconlaw08_PathsSteps.l1 (k + 1) _ _ _ _ _ _ _ _ _ _ = _
      rw [beaconlaw08_PathsSteps.l1,if_neg (by omega),if_pos (by omega),wrap_pred c h0 (by omega),if_pos (by omega),if_pos (by omega),if_pos (by omega),if_pos (by omega),rd_nat,rd_nat,hk1,Option.bind_some]
      have hz : ¬ (FloatKind.f64.format.order (bq e.2) 0 == some .eq) = true := by
        have := eq_bits e.2 0 (by omega) (by omega)
        rw [bq_zero] at this
        rw [this]
        simp
        omega
      rw [if_neg hz,sum_bits _ _ (by omega),Option.bind_some]
      congr 2
      omega
  | succ m ihm =>
    intro c hm' hc
    have hci : c < i := by omega
    have hlt := way_less nodes W q _ hw5 (i - c - 1) c (by omega)
    rw [show c + (i - c - 1) + 1 = i from by omega] at hlt
    have hne : ¬ W.getD c 0 = W.getD i 0 := by
      intro h
      rw [h] at hlt
      exact absurd hlt (Nat.lt_irrefl _)
    refine Ev.step 0 (fun k _ => ?_) (ihm (c + 1) (by omega) (by omega))
    show beaconlaw08_PathsSteps.l1 (k + 1) _ _ _ _ _ _ _ _ _ _ = _
    rw [beaconlaw08_PathsSteps.l1,if_pos (by omega),if_pos (by omega),if_pos (by omega),if_pos (by omega),if_pos (by omega),rd_nat,rd_nat,if_neg hne,wrap_succ c (by omega)]
theorem steps_l0 : ∀ (m i : Nat),W.length - i = m → i ≤ W.length →
    Ev (fun k => beaconlaw08_PathsSteps.l0 k mx W (bq qa) (bq (qa - prevQ nodes q W qa i)) (i : Int) nodes links a b) true := by
  intro m
  induction m with
  | zero =>
    intro i hm' hi
    obtain rfl : i = W.length := by omega
    have hpv : prevQ nodes q W qa W.length = 0 := by
      unfold prevQ
      rw [if_neg (by omega),hwb,hq0]
    rw [hpv]
    refine Ev.now 1 (fun k hk => ?_)
    obtain ⟨k,rfl⟩ : ∃ m,k = m + 1 := ⟨k - 1,by omega⟩
    show beaconlaw08_PathsSteps.l0 (k + 1) _ _ _ _ _ _ _ _ _ = _
    rw [beaconlaw08_PathsSteps.l0,if_neg (by omega),Nat.sub_zero,eq_bits _ _ (by omega) (by omega),if_pos (decide_eq_true rfl),awake_true]
    rfl
  | succ m ihm =>
    intro i hm' hi
    have hil : i < W.length := by omega
    have hl1 := steps_l1 G hF h4 hM hb hm t1 t2 hMM hq hqa hlen hw1 hwa hwb hq0 hw4 hw5 hil (ihm (i + 1) (by omega) (by omega)) i 0 (by omega) (Nat.zero_le _)
    refine Ev.step 0 (fun k _ => ?_) hl1
    show beaconlaw08_PathsSteps.l0 (k + 1) _ _ _ _ _ _ _ _ _ = _
    rw [beaconlaw08_PathsSteps.l0,if_pos (by omega)]
    rfl
end
theorem PathsSteps_pure : beaconlaw08_PathsSteps.Pure := by
  intro nodes links mx a b hn hl hm ha hb
  have hF : Fits links := fun y hy => (hl.2 y hy).2.2.1
  have hp : paths_Path.f nodes links mx a b = some (pathSpec nodes links mx a b) := by
    unfold paths_Path.f
    rw [if_pos ⟨hF,hm⟩]
  by_cases h2 : ask2 nodes links mx a b = 0
  · have h0 : askSpec nodes links mx a = 0 := by
      unfold ask2 at h2
      by_cases h : askSpec nodes links mx a = 0
      · exact h
      · rw [if_neg h] at h2
        exact h2
    have h1 : askSpec nodes links mx b = 0 := by
      unfold ask2 at h2
      rwa [if_pos h0] at h2
    obtain ⟨T,t1,t2⟩ := askSpec_zero hm h0
    obtain ⟨T',-,-⟩ := askSpec_zero hm h1
    obtain ⟨M,hMM⟩ : ∃ M,mqOf mx = M := ⟨_,rfl⟩
    have hlow := T.low
    have hhigh := T.high
    rw [hMM] at hlow hhigh
    by_cases hfar : mqOf mx ≤ (dQ nodes links (mqOf mx) (plc nodes b)).getD (plc nodes a) 0
    · refine ⟨1,?_⟩
      unfold beaconlaw08_PathsSteps.f
      rw [hp,pathSpec_far h2 hfar,Option.bind_some]
      show (if (0 : Int) = 0 then ((math_IsInf.f 9218868437227405312 1).bind fun t374 => beaconlaw08_PathsSteps.j0 1 mx [] 9218868437227405312 t374 nodes links a b) else _) = _
      have hinf := isInf_enc M M hhigh (Nat.le_refl _)
      rw [encM_top] at hinf
      rw [if_pos rfl,hinf,Option.bind_some,decide_eq_true (Nat.le_refl M),beaconlaw08_PathsSteps.j0,if_pos rfl,if_pos (by simp),awake_true]
      rfl
    · have hsp := pathSpec_ok h2 hfar
      rw [hMM] at hsp hfar
      have hdis := dQ_up T.good hF hlow hhigh T'.there T.there (by omega)
      have hsrc := (dQ_is T.good hF hlow hhigh T'.there hdis.2).src
      obtain ⟨v1,v2,v3,v4,v5⟩ := way_spec T.good hF hlow hhigh T'.there _ a T.there (by omega) (Nat.le_refl _)
      obtain ⟨q,hq⟩ : ∃ q,dQ nodes links M (plc nodes b) = q := ⟨_,rfl⟩
      rw [hq] at hsp hfar hsrc v1 v2 v3 v4 v5
      obtain ⟨qa,hqa⟩ : ∃ qa,q.getD (plc nodes a) 0 = qa := ⟨_,rfl⟩
      rw [hqa,walkOn_one] at hsp
      rw [hqa] at hfar v1 v2 v3 v4 v5
      obtain ⟨W,hW⟩ : ∃ W,way nodes links M q b qa a = W := ⟨_,rfl⟩
      rw [hW] at hsp v1 v2 v3 v4 v5
      have hlen : W.length ≤ 4294967297 := by
        rw [← hW,← walkOn_one]
        refine Nat.le_trans (walkOn_len _ _ _ _ _ _ a [a]) ?_
        rw [List.length_singleton]
        omega
      have hgo := steps_l0 (a := a) T.good hF hlow hhigh T'.there hm t1 t2 hMM hq (by omega : qa < M) hlen v1 (by rw [v2,hqa]) v3 hsrc v4 v5 W.length 0 (by omega) (Nat.zero_le _)
      have hpv : prevQ nodes q W qa 0 = qa := rfl
      rw [hpv,Nat.sub_self] at hgo
      obtain ⟨K,hK⟩ := hgo
      have hk : beaconlaw08_PathsSteps.l0 K mx W (bq qa) (bq 0) ((0 : Nat) : Int) nodes links a b = some true := hK K (Nat.le_refl _)
      rw [bq_zero] at hk
      refine ⟨K + 1 + 1,?_⟩
      unfold beaconlaw08_PathsSteps.f
      rw [hp,hsp,Option.bind_some]
      show (if (0 : Int) = 0 then ((math_IsInf.f (bq qa) 1).bind fun t374 => beaconlaw08_PathsSteps.j0 (K + 1 + 1) mx W (bq qa) t374 nodes links a b) else _) = _
      have hinf := isInf_enc M qa hhigh (by omega)
      rw [encM_lt M qa (by omega)] at hinf
      rw [if_pos rfl,hinf,Option.bind_some,decide_eq_false (by omega),beaconlaw08_PathsSteps.j0,if_neg (by decide),if_neg (by omega),if_pos (by omega),show rd W 0 = W.getD 0 0 from rd_nat W 0,if_pos v2,wrap_pred W.length v1 (by omega),if_pos (by omega),if_pos (by omega),rd_nat,v3]
      show beaconlaw08_PathsSteps.j1 (K + 1) mx W (bq qa) (b != b) nodes links a b = _
      rw [beaconlaw08_PathsSteps.j1,if_neg (by simp)]
      exact hk
  · refine ⟨1,?_⟩
    unfold beaconlaw08_PathsSteps.f
    rw [hp,pathSpec_no rfl h2,Option.bind_some]
    show (if ask2 nodes links mx a b = 0 then _ else beaconlaw08_PathsSteps.j0 1 mx [] 0 true nodes links a b) = _
    rw [if_neg h2,beaconlaw08_PathsSteps.j0,if_pos rfl,if_pos (by simp),awake_true]
    rfl
end Go.Proofs.Ytmdkcecbklgihaa.PA
