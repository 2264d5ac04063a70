/- The document's first hops are those that the program tells; the law's own small question is answered right. Conditions: weights and the limit are words. -/
import Derived.Test.YtmdkcecbklgihaaCoPAx9
import Derived.Test.YtmdkcecbklgihaaCcHw
namespace Go.Proofs.Ytmdkcecbklgihaa.PA
open Go.RowKit Go.Proofs.YtmdkcecbklgihaaW.PrintWords
open Classical
set_option linter.unusedVariables false
set_option linter.unusedSimpArgs false
theorem drop_cons74 (links : List S74) (i : Nat) (hi : i < links.length) : links.drop i = links.getD i z74 :: links.drop (i + 1) := by
  rw [List.drop_eq_getElem_cons hi]
  simp [List.getD_eq_getElem?_getD,hi]
theorem other_tells (l : S74) (id : Int) : beaconref08_other.f l.f0 l.f1 l.f2 l.f3 id = some (othr l id) := by
  unfold beaconref08_other.f othr
  split
  · rfl
  split <;> rfl
theorem othr_ends {nodes : List S40} {links : List S74} (G : Good nodes links) {l : S74} (hl : l ∈ links) {id : Int} (h : othr l id ≠ 0) : plc nodes (othr l id) < nodes.length := by
  obtain ⟨e0,e1⟩ := G.ends l hl
  revert h
  unfold othr
  split
  · intro _;exact e1
  split
  · intro _;exact e0
  intro h;exact absurd rfl h
theorem next_go {nodes : List S40} {links : List S74} (G : Good nodes links) (hF : Fits links) {M : Nat} (h4 : 4 ≤ M) (hM : M ≤ 4294967296) {q : List Nat} (hl : q.length = nodes.length) (hle : ∀ p,q.getD p 0 ≤ M) {id : Int} (hid : plc nodes id < nodes.length) (hlt : q.getD (plc nodes id) 0 < M) : ∀ (m i : Nat) (best : Int),links.length - i = m → i ≤ links.length →
    Ev (fun k => beaconref08_next.l0 k id (dbits M q) (plc nodes id : Int) best (i : Int) nodes links) (((links.drop i).map (candL nodes M q (plc nodes id) id)).foldl minStep best) := by
  have hl4 := G.l4096
  intro m
  induction m with
  | zero =>
    intro i best hm hi
    obtain rfl : i = links.length := by omega
    rw [List.drop_length]
    refine Ev.now 1 (fun k hk => ?_)
    obtain ⟨k,rfl⟩ : ∃ m,k = m + 1 := ⟨k - 1,by omega⟩
    show beaconref08_next.l0 (k + 1) _ _ _ _ _ _ _ = _
    rw [beaconref08_next.l0,if_neg (by omega)]
    rfl
  | succ m ihm =>
    intro i best hm hi
    have hil : i < links.length := by omega
    have hmem : links.getD i z74 ∈ links := by simp [List.getD_eq_getElem?_getD,hil]
    rw [drop_cons74 links i hil,List.map_cons,List.foldl_cons]
    obtain ⟨o,ho⟩ : ∃ o,othr (links.getD i z74) id = o := ⟨_,rfl⟩
    have dead : Ev (fun k => beaconref08_next.j2 k id (dbits M q) (plc nodes id : Int) best (i : Int) o true nodes links) (((links.drop (i + 1)).map (candL nodes M q (plc nodes id) id)).foldl minStep best) := by
      refine Ev.step 0 (fun k _ => ?_) (ihm (i + 1) best (by omega) (by omega))
      show beaconref08_next.j2 (k + 1) _ _ _ _ _ _ _ _ _ = _
      rw [beaconref08_next.j2,if_pos rfl,wrap_succ i (by omega)]
    have alive : Ev (fun k => beaconref08_next.j2 k id (dbits M q) (plc nodes id : Int) best (i : Int) o false nodes links) (((links.drop (i + 1)).map (candL nodes M q (plc nodes id) id)).foldl minStep (minStep best (some o))) := by
      refine Ev.step 0 (fun k _ => ?_) (ihm (i + 1) _ (by omega) (by omega))
      show beaconref08_next.j2 (k + 1) _ _ _ _ _ _ _ _ _ = _
      rw [beaconref08_next.j2,if_neg (by decide),wrap_succ i (by omega),minStep_some]
      by_cases hb : best = 0
      · rw [if_pos hb,if_pos (Or.inl hb)]
      rw [if_neg hb]
      by_cases hc : o < best
      · rw [if_pos hc,if_pos (Or.inr hc)]
      rw [if_neg hc,if_neg (fun h => h.elim hb hc)]
    by_cases h0 : o = 0
    · have hc : candL nodes M q (plc nodes id) id (links.getD i z74) = none := by
        unfold candL
        rw [ho,if_neg (fun h => h.1 h0)]
      rw [hc]
      refine Ev.step 0 (fun k _ => ?_) dead
      show beaconref08_next.l0 (k + 1) _ _ _ _ _ _ _ = _
      rw [beaconref08_next.l0,if_pos (by omega),if_pos (by omega),rd74,other_tells,ho,Option.bind_some,if_pos h0]
    by_cases h3 : (links.getD i z74).f3 = true
    · have hpo : plc nodes o < nodes.length := by
        rw [← ho]
        exact othr_ends G hmem (by rw [ho];exact h0)
      obtain ⟨w1,w2,w3⟩ := G.weights hF hmem
      have hdl := dbits_len M q
      have hb : ∀ (sum : Nat) (eqb : Bool),floatBits .add .f64 (encM M (q.getD (plc nodes o) 0)) (links.getD i z74).f2 = some sum → (FloatKind.f64.format.order sum (encM M (q.getD (plc nodes id) 0)) != some .eq) = eqb → ∀ k,257 ≤ k →
          beaconref08_next.l0 (k + 1) id (dbits M q) (plc nodes id : Int) best (i : Int) nodes links = beaconref08_next.j2 k id (dbits M q) (plc nodes id : Int) best (i : Int) o eqb nodes links := by
        intro sum eqb hs he k hk
        rw [beaconref08_next.l0,if_pos (by omega),if_pos (by omega),rd74,other_tells,ho,Option.bind_some,if_neg h0,if_pos h3,place_tells nodes links o G.n256 k hk,if_pos hpo,Option.bind_some,if_pos (by omega),if_pos (by omega),dbits_at M q _ (by omega),hs,Option.bind_some,if_pos (by omega),if_pos (by omega),dbits_at M q _ (by omega),he]
      by_cases hq : q.getD (plc nodes o) 0 < M
      · have hsum : floatBits .add .f64 (encM M (q.getD (plc nodes o) 0)) (links.getD i z74).f2 = some (bq (q.getD (plc nodes o) 0 + wqOf (links.getD i z74).f2)) := by
          rw [encM_lt M _ hq]
          conv => lhs;rw [← w1]
          exact sum_bits _ _ (by omega)
        have hord := eq_bits (q.getD (plc nodes o) 0 + wqOf (links.getD i z74).f2) (q.getD (plc nodes id) 0) (by omega) (by omega)
        by_cases hE : wqOf (links.getD i z74).f2 + q.getD (plc nodes o) 0 = q.getD (plc nodes id) 0
        · have hc : candL nodes M q (plc nodes id) id (links.getD i z74) = some o := by
            unfold candL
            rw [ho,if_pos ⟨h0,h3,hq,hE⟩]
          rw [hc]
          rw [decide_eq_true (by omega)] at hord
          refine Ev.step 257 (fun k hk => hb _ false hsum ?_ k hk) alive
          rw [encM_lt M _ hlt]
          unfold bne
          rw [hord]
          rfl
        have hc : candL nodes M q (plc nodes id) id (links.getD i z74) = none := by
          unfold candL
          rw [ho,if_neg (fun h => hE h.2.2.2)]
        rw [hc]
        rw [decide_eq_false (by omega)] at hord
        refine Ev.step 257 (fun k hk => hb _ true hsum ?_ k hk) dead
        rw [encM_lt M _ hlt]
        unfold bne
        rw [hord]
        rfl
      have hqM : q.getD (plc nodes o) 0 = M := by
        have := hle (plc nodes o)
        omega
      have hsum : floatBits .add .f64 (encM M (q.getD (plc nodes o) 0)) (links.getD i z74).f2 = some 9218868437227405312 := by
        rw [hqM,encM_top]
        conv => lhs;rw [← w1]
        exact add_inf_fin _ (by omega)
      have hc : candL nodes M q (plc nodes id) id (links.getD i z74) = none := by
        unfold candL
        rw [ho,if_neg (fun h => hq h.2.2.1)]
      rw [hc]
      refine Ev.step 257 (fun k hk => hb _ true hsum ?_ k hk) dead
      rw [encM_lt M _ hlt,order_inf_fin _ (by omega)]
      rfl
    have hc : candL nodes M q (plc nodes id) id (links.getD i z74) = none := by
      unfold candL
      rw [ho,if_neg (fun h => h3 h.2.1)]
    rw [hc]
    refine Ev.step 0 (fun k _ => ?_) dead
    show beaconref08_next.l0 (k + 1) _ _ _ _ _ _ _ = _
    rw [beaconref08_next.l0,if_pos (by omega),if_pos (by omega),rd74,other_tells,ho,Option.bind_some,if_neg h0,if_neg h3]
theorem next_tells {nodes : List S40} {links : List S74} (G : Good nodes links) (hF : Fits links) {M : Nat} (h4 : 4 ≤ M) (hM : M ≤ 4294967296) {id dest : Int} (hid : plc nodes id < nodes.length) (hto : plc nodes dest < nodes.length) :
    Ev (fun k => beaconref08_next.f k nodes links id dest (dbits M (dQ nodes links M (plc nodes dest)))) (hopOf nodes M ((adjQ wqOf nodes links).getD (plc nodes id) []) (dQ nodes links M (plc nodes dest)) (plc nodes id) (plc nodes dest)) := by
  have hq := dQ_tells G hF h4 hM hto
  obtain ⟨q,hqq⟩ : ∃ q,dQ nodes links M (plc nodes dest) = q := ⟨_,rfl⟩
  rw [hqq] at hq ⊢
  have hn := G.n256
  have hdl := dbits_len M q
  have hql := hq.len
  by_cases he : id = dest
  · subst he
    unfold hopOf
    rw [if_pos (Or.inl rfl)]
    refine Ev.now 257 (fun k hk => ?_)
    unfold beaconref08_next.f
    rw [place_tells nodes links id G.n256 k hk,if_pos hid,Option.bind_some,if_pos rfl]
    obtain ⟨k,rfl⟩ : ∃ m,k = m + 1 := ⟨k - 1,by omega⟩
    rw [beaconref08_next.j0,if_pos rfl]
  have hne : plc nodes id ≠ plc nodes dest := by
    intro h
    have h1 := plc_at hid
    rw [h,plc_at hto] at h1
    exact he h1.symm
  by_cases hlt : q.getD (plc nodes id) 0 < M
  · rw [hopOf_links G hF h4 hM hto hq hid hne hlt]
    have hgo := next_go G hF h4 hM hql hq.le hid hlt links.length 0 0 (by omega) (Nat.zero_le _)
    rw [List.drop_zero] at hgo
    have hj : Ev (fun k => beaconref08_next.j0 k id (dbits M q) (plc nodes id : Int) false nodes links) ((links.map (candL nodes M q (plc nodes id) id)).foldl minStep 0) := by
      refine Ev.step 0 (fun k _ => ?_) hgo
      show beaconref08_next.j0 (k + 1) _ _ _ _ _ _ = _
      rw [beaconref08_next.j0,if_neg (by decide)]
      rfl
    refine Ev.mono 257 (fun k hk => ?_) hj
    show beaconref08_next.f k nodes links id dest (dbits M q) = _
    unfold beaconref08_next.f
    rw [place_tells nodes links id G.n256 k hk,if_pos hid,Option.bind_some,if_neg he,if_pos (by omega),if_pos (by omega),dbits_at M q _ (by omega),isInf_enc M _ hM (hq.le _),Option.bind_some,decide_eq_false (by omega)]
  unfold hopOf
  rw [if_pos (Or.inr (by omega))]
  refine Ev.now 257 (fun k hk => ?_)
  unfold beaconref08_next.f
  rw [place_tells nodes links id G.n256 k hk,if_pos hid,Option.bind_some,if_neg he,if_pos (by omega),if_pos (by omega),dbits_at M q _ (by omega),isInf_enc M _ hM (hq.le _),Option.bind_some,decide_eq_true (by omega)]
  obtain ⟨k,rfl⟩ : ∃ m,k = m + 1 := ⟨k - 1,by omega⟩
  rw [beaconref08_next.j0,if_pos rfl]
theorem Nexts_tells {nodes : List S40} {links : List S74} (hF : Fits links) {mx : Nat} (hm : mx < 18446744073709551616) (id : Int) : Ev (fun k => beaconref08_Nexts.f k nodes links mx id) (nextsSpec nodes links mx id) := by
  obtain ⟨Ka,hKa⟩ := asked_tells (nodes := nodes) hF hm id
  by_cases h0 : askSpec nodes links mx id = 0
  rotate_left
  · rw [nextsSpec_no rfl h0]
    refine Ev.now Ka (fun k hk => ?_)
    have hk1 : beaconref08_asked.f k nodes links mx id = some (askSpec nodes links mx id) := hKa k hk
    unfold beaconref08_Nexts.f
    rw [hk1,Option.bind_some,if_neg h0]
  obtain ⟨T,-,-⟩ := askSpec_zero hm h0
  rw [nextsSpec_ok h0]
  obtain ⟨M,hMM⟩ : ∃ M,mqOf mx = M := ⟨_,rfl⟩
  have hlim := T.lim
  have hlow := T.low
  have hhigh := T.high
  rw [hMM] at hlim hlow hhigh
  rw [hMM]
  have hn := T.good.n256
  obtain ⟨HOP,hHOP⟩ : ∃ HOP : Nat → Int,HOP = fun t => hopOf nodes M ((adjQ wqOf nodes links).getD (plc nodes id) []) (dQ nodes links M t) (plc nodes id) t := ⟨_,rfl⟩
  rw [← hHOP]
  have go : ∀ (m i : Nat),nodes.length - i = m → i ≤ nodes.length → Ev (fun k => beaconref08_Nexts.l0 k mx id ((List.range i).map HOP) (i : Int) nodes links) ((List.range nodes.length).map HOP,0) := by
    intro m
    induction m with
    | zero =>
      intro i hm hi
      obtain rfl : i = nodes.length := by omega
      refine Ev.now 1 (fun k hk => ?_)
      obtain ⟨k,rfl⟩ : ∃ m,k = m + 1 := ⟨k - 1,by omega⟩
      show beaconref08_Nexts.l0 (k + 1) _ _ _ _ _ _ = _
      rw [beaconref08_Nexts.l0,if_neg (by omega)]
    | succ m ihm =>
      intro i hm hi
      have hil : i < nodes.length := by omega
      have hp := Good.plc_inj T.good.nd hil rfl
      obtain ⟨K1,hK1⟩ := dists_tells T.good hF hlow hhigh (nodes.getD i z40).f0 (by rw [hp];exact hil)
      obtain ⟨K2,hK2⟩ := next_tells T.good hF hlow hhigh (id := id) (dest := (nodes.getD i z40).f0) T.there (by rw [hp];exact hil)
      rw [hlim,hp] at hK1
      rw [hp] at hK2
      refine Ev.step (max K1 K2) (fun k hk => ?_) (ihm (i + 1) (by omega) (by omega))
      have h1 : beaconref08_dists.f k nodes links mx (nodes.getD i z40).f0 = some (dbits M (dQ nodes links M i)) := hK1 k (by omega)
      have h2 : beaconref08_next.f k nodes links id (nodes.getD i z40).f0 (dbits M (dQ nodes links M i)) = some (HOP i) := (hK2 k (by omega)).trans (by rw [hHOP])
      show beaconref08_Nexts.l0 (k + 1) _ _ _ _ _ _ = _
      rw [beaconref08_Nexts.l0,if_pos (by omega),if_pos (by omega),rd40,h1,Option.bind_some,h2,Option.bind_some,if_pos (by simp;omega),wrap_succ i (by omega),List.range_succ,List.map_append]
      rfl
  refine Ev.mono Ka (fun k hk => ?_) (go nodes.length 0 (by omega) (Nat.zero_le _))
  show beaconref08_Nexts.f k nodes links mx id = _
  have hk1 : beaconref08_asked.f k nodes links mx id = some (askSpec nodes links mx id) := hKa k hk
  unfold beaconref08_Nexts.f
  rw [hk1,Option.bind_some,if_pos h0]
  rfl
end Go.Proofs.Ytmdkcecbklgihaa.PA
