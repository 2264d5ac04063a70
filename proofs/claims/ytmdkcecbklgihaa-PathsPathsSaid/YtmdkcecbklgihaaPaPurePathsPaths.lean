/- PathsPaths, of numbers and lists alone. No condition. -/
import Derived.Test.YtmdkcecbklgihaaPaGh
import Derived.Test.YtmdkcecbklgihaaPaHp
import Derived.Test.YtmdkcecbklgihaaPaStPathsPaths
namespace Go.Proofs.Ytmdkcecbklgihaa.PA
open Go.RowKit Go.Proofs.YtmdkcecbklgihaaW.PrintWords
open Classical
set_option linter.unusedVariables false
set_option linter.unusedSimpArgs false
section
variable {nodes : List S40} {links : List S74} (G : Good nodes links) (hF : Fits links) {M : Nat} (h4 : 4 ≤ M) (hM : M ≤ 4294967296) {dest : Int} (hd : plc nodes dest < nodes.length)
include G hF h4 hM hd
theorem path_go (all : Nat) : ∀ (K : Nat) (id : Int) (L : List Int),plc nodes id < nodes.length → (dQ nodes links M (plc nodes dest)).getD (plc nodes id) 0 < M → (dQ nodes links M (plc nodes dest)).getD (plc nodes id) 0 ≤ K → L.length + K ≤ 4294967297 →
    Ev (fun k => beaconref08_Path.l0 k dest (dbits M (dQ nodes links M (plc nodes dest))) all L id nodes links) (walkOn nodes links M (dQ nodes links M (plc nodes dest)) dest K id L,all,0)
  | K,id,L,hid,hlt,hK,hL => by
    by_cases he : id = dest
    · have hw : walkOn nodes links M (dQ nodes links M (plc nodes dest)) dest K id L = L := by
        cases K with
        | zero => rfl
        | succ K =>
          show (if id = dest then L else _) = L
          rw [if_pos he]
      rw [hw]
      refine Ev.now 1 (fun k hk => ?_)
      obtain ⟨k,rfl⟩ : ∃ m,k = m + 1 := ⟨k - 1,by omega⟩
      show beaconref08_Path.l0 (k + 1) _ _ _ _ _ _ _ = _
      rw [beaconref08_Path.l0,if_pos he]
    · have hne : plc nodes id ≠ plc nodes dest := by
        intro h
        apply he
        rw [← plc_at hid,h,plc_at hd]
      obtain ⟨e,a1,a2,a3,a4,a5,a6,a7⟩ := hop_tells G hF h4 hM hd hid hne hlt
      cases K with
      | zero => omega
      | succ K =>
        have hw : walkOn nodes links M (dQ nodes links M (plc nodes dest)) dest (K + 1) id L = walkOn nodes links M (dQ nodes links M (plc nodes dest)) dest K (hopTo nodes links M (dQ nodes links M (plc nodes dest)) (plc nodes dest) id) (L ++ [hopTo nodes links M (dQ nodes links M (plc nodes dest)) (plc nodes dest) id]) := by
          show (if id = dest then L else _) = _
          rw [if_neg he]
        rw [hw]
        obtain ⟨Kn,hKn⟩ := next_tells G hF h4 hM (id := id) (dest := dest) hid hd
        have ih := path_go all K _ (L ++ [hopTo nodes links M (dQ nodes links M (plc nodes dest)) (plc nodes dest) id]) (by rw [a7];exact a4) (by rw [a7];exact a2) (by rw [a7];omega) (by rw [List.length_append,List.length_singleton];omega)
        refine Ev.step Kn (fun k hk => ?_) ih
        show beaconref08_Path.l0 (k + 1) _ _ _ _ _ _ _ = _
        have hk1 : beaconref08_next.f k nodes links id dest (dbits M (dQ nodes links M (plc nodes dest))) = some (hopTo nodes links M (dQ nodes links M (plc nodes dest)) (plc nodes dest) id) := hKn k hk
        rw [beaconref08_Path.l0,if_neg he,hk1,Option.bind_some,if_pos (by omega)]
end
theorem walkOn_len (nodes : List S40) (links : List S74) (M : Nat) (q : List Nat) (dest : Int) : ∀ (K : Nat) (id : Int) (L : List Int),(walkOn nodes links M q dest K id L).length ≤ L.length + K
  | 0,id,L => Nat.le_refl _
  | K + 1,id,L => by
    show (if id = dest then L else _).length ≤ _
    by_cases he : id = dest
    · rw [if_pos he]
      omega
    · rw [if_neg he]
      refine Nat.le_trans (walkOn_len nodes links M q dest K _ _) ?_
      rw [List.length_append,List.length_singleton]
      omega
theorem Path_tells {nodes : List S40} {links : List S74} (hF : Fits links) {mx : Nat} (hm : mx < 18446744073709551616) (a b : Int) : Ev (fun k => beaconref08_Path.f k nodes links mx a b) (pathSpec nodes links mx a b) := by
  obtain ⟨Ka,hKa⟩ := asked_tells (nodes := nodes) hF hm a
  obtain ⟨Kb,hKb⟩ := asked_tells (nodes := nodes) hF hm b
  by_cases h0 : askSpec nodes links mx a = 0
  · by_cases h1 : askSpec nodes links mx b = 0
    · obtain ⟨T,-,-⟩ := askSpec_zero hm h0
      obtain ⟨T',-,-⟩ := askSpec_zero hm h1
      have h2 : ask2 nodes links mx a b = 0 := by
        unfold ask2
        rw [if_pos h0,h1]
      obtain ⟨K1,hK1⟩ := dists_tells T.good hF T.low T.high b T'.there
      rw [T.lim] at hK1
      have hql := (dQ_tells T.good hF T.low T.high T'.there).len
      have hle := (dQ_tells T.good hF T.low T.high T'.there).le (plc nodes a)
      have hdl := (dbits_len (mqOf mx) (dQ nodes links (mqOf mx) (plc nodes b))).trans hql
      have hpa := T.there
      have hhigh := T.high
      have hf : ∀ k,Ka ≤ k → Kb ≤ k → beaconref08_Path.f k nodes links mx a b = beaconref08_Path.j0 k mx a b 0 nodes links := by
        intro k hka hkb
        have hk1 : beaconref08_asked.f k nodes links mx a = some (askSpec nodes links mx a) := hKa k hka
        have hk2 : beaconref08_asked.f k nodes links mx b = some (askSpec nodes links mx b) := hKb k hkb
        unfold beaconref08_Path.f
        rw [hk1,Option.bind_some,if_pos h0,hk2,Option.bind_some,h1]
      by_cases hfar : mqOf mx ≤ (dQ nodes links (mqOf mx) (plc nodes b)).getD (plc nodes a) 0
      · rw [pathSpec_far h2 hfar]
        refine Ev.now (max (max Ka Kb) (max K1 257) + 1) (fun k hk => ?_)
        rw [hf k (by omega) (by omega)]
        obtain ⟨k,rfl⟩ : ∃ m,k = m + 1 := ⟨k - 1,by omega⟩
        have hk3 : beaconref08_dists.f k nodes links mx b = some (dbits (mqOf mx) (dQ nodes links (mqOf mx) (plc nodes b))) := hK1 k (by omega)
        rw [beaconref08_Path.j0,if_pos rfl,hk3,Option.bind_some,place_tells nodes links a T.good.n256 k (by omega),if_pos hpa,Option.bind_some,if_pos (by omega),if_pos (by omega),dbits_at _ _ _ (by omega),isInf_enc _ _ hhigh hle,Option.bind_some,if_pos (decide_eq_true hfar)]
        have : (dQ nodes links (mqOf mx) (plc nodes b)).getD (plc nodes a) 0 = mqOf mx := by omega
        rw [this,encM_top]
      · rw [pathSpec_ok h2 hfar]
        have hgo := path_go T.good hF T.low T.high T'.there (bq ((dQ nodes links (mqOf mx) (plc nodes b)).getD (plc nodes a) 0)) _ a [a] hpa (by omega) (Nat.le_refl _) (by rw [List.length_singleton];omega)
        obtain ⟨K2,hK2⟩ := hgo
        refine Ev.now (max (max Ka Kb) (max (max K1 257) K2) + 1) (fun k hk => ?_)
        rw [hf k (by omega) (by omega)]
        obtain ⟨k,rfl⟩ : ∃ m,k = m + 1 := ⟨k - 1,by omega⟩
        have hk3 : beaconref08_dists.f k nodes links mx b = some (dbits (mqOf mx) (dQ nodes links (mqOf mx) (plc nodes b))) := hK1 k (by omega)
        rw [beaconref08_Path.j0,if_pos rfl,hk3,Option.bind_some,place_tells nodes links a T.good.n256 k (by omega),if_pos hpa,Option.bind_some,if_pos (by omega),if_pos (by omega),dbits_at _ _ _ (by omega),isInf_enc _ _ hhigh hle,Option.bind_some,if_neg (by simpa using hfar),encM_lt _ _ (by omega)]
        exact hK2 k (by omega)
    · have h2 : ask2 nodes links mx a b = askSpec nodes links mx b := by
        unfold ask2
        rw [if_pos h0]
      rw [pathSpec_no h2 h1]
      refine Ev.now (max Ka Kb + 1) (fun k hk => ?_)
      have hk1 : beaconref08_asked.f k nodes links mx a = some (askSpec nodes links mx a) := hKa k (by omega)
      have hk2 : beaconref08_asked.f k nodes links mx b = some (askSpec nodes links mx b) := hKb k (by omega)
      unfold beaconref08_Path.f
      rw [hk1,Option.bind_some,if_pos h0,hk2,Option.bind_some]
      obtain ⟨k,rfl⟩ : ∃ m,k = m + 1 := ⟨k - 1,by omega⟩
      rw [beaconref08_Path.j0,if_neg h1]
  · have h2 : ask2 nodes links mx a b = askSpec nodes links mx a := by
      unfold ask2
      rw [if_neg h0]
    rw [pathSpec_no h2 h0]
    refine Ev.now (Ka + 1) (fun k hk => ?_)
    have hk1 : beaconref08_asked.f k nodes links mx a = some (askSpec nodes links mx a) := hKa k (by omega)
    unfold beaconref08_Path.f
    rw [hk1,Option.bind_some,if_neg h0]
    obtain ⟨k,rfl⟩ : ∃ m,k = m + 1 := ⟨k - 1,by omega⟩
    rw [beaconref08_Path.j0,if_neg h0]
theorem pathSpec_len (nodes : List S40) (links : List S74) (hF : Fits links) (mx : Nat) (hm : mx < 18446744073709551616) (a b : Int) : (pathSpec nodes links mx a b).1.length ≤ 4294967297 := by
  unfold pathSpec
  by_cases h2 : ask2 nodes links mx a b = 0
  · rw [if_pos h2]
    by_cases h0 : askSpec nodes links mx a = 0
    · unfold ask2 at h2
      rw [if_pos h0] at h2
      obtain ⟨T,-,-⟩ := askSpec_zero hm h0
      obtain ⟨T',-,-⟩ := askSpec_zero hm h2
      have hle := (dQ_tells T.good hF T.low T.high T'.there).le (plc nodes a)
      have hhigh := T.high
      split
      · simp
      · refine Nat.le_trans (walkOn_len _ _ _ _ _ _ a [a]) ?_
        rw [List.length_singleton]
        omega
    · unfold ask2 at h2
      rw [if_neg h0] at h2
      exact absurd h2 h0
  · rw [if_neg h2]
    simp
theorem PathsPaths_pure : beaconlaw08_PathsPaths.Pure := by
  intro nodes links mx a b hn hl hm ha hb
  have hF : Fits links := fun y hy => (hl.2 y hy).2.2.1
  have hlen := pathSpec_len nodes links hF mx hm a b
  obtain ⟨K1,h1⟩ := Path_tells (nodes := nodes) hF hm a b
  obtain ⟨K2,h2⟩ := ints_same (pathSpec nodes links mx a b).1 (by omega)
  refine ⟨max K1 K2,?_⟩
  have h1' : beaconref08_Path.f (max K1 K2) nodes links mx a b = some (pathSpec nodes links mx a b) := h1 _ (by omega)
  have h2' : beaconlaw08_ints.f (max K1 K2) (pathSpec nodes links mx a b).1 (pathSpec nodes links mx a b).1 = some true := h2 _ (by omega)
  unfold beaconlaw08_PathsPaths.f paths_Path.f
  rw [if_pos ⟨hF,hm⟩,Option.bind_some,h1',Option.bind_some,if_pos rfl,h2',Option.bind_some,if_pos rfl,if_pos rfl,awake_true,Option.bind_some]
end Go.Proofs.Ytmdkcecbklgihaa.PA
