/- PathsNear, of numbers and lists alone. No condition. -/
import Derived.Test.YtmdkcecbklgihaaNeGh
import Derived.Test.YtmdkcecbklgihaaNeHk
import Derived.Test.YtmdkcecbklgihaaNeStPathsNear
namespace Go.Proofs.Ytmdkcecbklgihaa.PA
open Go.RowKit Go.Proofs.YtmdkcecbklgihaaW.PrintWords
open Classical
set_option linter.unusedVariables false
set_option linter.unusedSimpArgs false
theorem near_go {nodes : List S40} {links : List S74} (hn : nodes.length ≤ 256) (M rad : Nat) {q : List Nat} (hq : q.length = nodes.length) : ∀ (m i : Nat),nodes.length - i = m → i ≤ nodes.length →
    Ev (fun k => beaconref08_Near.l0 k rad (dbits M q) (nearTo nodes M q rad i) (i : Int) nodes links) (nearTo nodes M q rad nodes.length,0) := by
  have hl : (dbits M q).length = nodes.length := (dbits_len _ _).trans hq
  intro m
  induction m with
  | zero =>
    intro i hm hi
    obtain rfl : i = nodes.length := by omega
    refine Ev.now 1 (fun k hk => ?_)
    obtain ⟨k,rfl⟩ : ∃ m,k = m + 1 := ⟨k - 1,by omega⟩
    show beaconref08_Near.l0 (k + 1) _ _ _ _ _ _ = _
    rw [beaconref08_Near.l0,if_neg (by omega)]
  | succ m ihm =>
    intro i hm hi
    have hil : i < nodes.length := by omega
    have hlen := nearTo_len nodes M q rad i
    refine Ev.step 0 (fun k _ => ?_) (ihm (i + 1) (by omega) (by omega))
    show beaconref08_Near.l0 (k + 1) _ _ _ _ _ _ = _
    rw [beaconref08_Near.l0,if_pos (by omega),if_pos (by omega),dbits_at M q i (by omega),nearTo_succ,wrap_succ i (by omega)]
    by_cases h : (FloatKind.f64.format.order (encM M (q.getD i 0)) rad == some .lt) = true
    · rw [if_pos h,if_pos h,if_pos (by omega),if_pos (by omega),rd40]
    · rw [if_neg h,if_neg h]
theorem Near_tells {nodes : List S40} {links : List S74} (hF : Fits links) {mx rad : Nat} (hm : mx < 18446744073709551616) (hr : rad < 18446744073709551616) (id : Int) : Ev (fun k => beaconref08_Near.f k nodes links mx id rad) (nearSpec nodes links mx id rad) := by
  obtain ⟨Ka,hKa⟩ := asked_tells (nodes := nodes) hF hm id
  by_cases h0 : askSpec nodes links mx id = 0
  · obtain ⟨T,-,-⟩ := askSpec_zero hm h0
    rcases nan_bool rad with hna | hna
    · rw [nearSpec_nan h0 hna]
      refine Ev.now Ka (fun k hk => ?_)
      have hk1 : beaconref08_asked.f k nodes links mx id = some (askSpec nodes links mx id) := hKa k hk
      unfold beaconref08_Near.f
      rw [hk1,Option.bind_some,if_pos h0,hna,Option.bind_some,if_pos rfl]
    · have hsg := sign_same rad hr
      rw [hsg.2] at hsg
      by_cases hs : 9223372036854775808 ≤ rad
      · rw [nearSpec_sign h0 hna hs]
        refine Ev.now Ka (fun k hk => ?_)
        have hk1 : beaconref08_asked.f k nodes links mx id = some (askSpec nodes links mx id) := hKa k hk
        unfold beaconref08_Near.f
        rw [hk1,Option.bind_some,if_pos h0,hna,Option.bind_some,if_neg (by decide),hsg.1,Option.bind_some,if_pos (decide_eq_true hs)]
      · rw [nearSpec_ok h0 hna hs]
        obtain ⟨K1,hK1⟩ := dists_tells T.good hF T.low T.high id T.there
        rw [T.lim] at hK1
        obtain ⟨K2,hK2⟩ := near_go (links := links) T.good.n256 (mqOf mx) rad (dQ_tells T.good hF T.low T.high T.there).len nodes.length 0 (by omega) (Nat.zero_le _)
        refine Ev.now (max Ka (max K1 K2)) (fun k hk => ?_)
        have hk1 : beaconref08_asked.f k nodes links mx id = some (askSpec nodes links mx id) := hKa k (by omega)
        have hk2 : beaconref08_dists.f k nodes links mx id = some (dbits (mqOf mx) (dQ nodes links (mqOf mx) (plc nodes id))) := hK1 k (by omega)
        have hk3 : beaconref08_Near.l0 k rad (dbits (mqOf mx) (dQ nodes links (mqOf mx) (plc nodes id))) [] 0 nodes links = _ := hK2 k (by omega)
        unfold beaconref08_Near.f
        rw [hk1,Option.bind_some,if_pos h0,hna,Option.bind_some,if_neg (by decide),hsg.1,Option.bind_some,if_neg (by simpa using hs),hk2,Option.bind_some,hk3]
  · rw [nearSpec_no rfl h0]
    refine Ev.now Ka (fun k hk => ?_)
    have hk1 : beaconref08_asked.f k nodes links mx id = some (askSpec nodes links mx id) := hKa k hk
    unfold beaconref08_Near.f
    rw [hk1,Option.bind_some,if_neg h0]
theorem nearSpec_len (nodes : List S40) (links : List S74) (mx rad : Nat) (hm : mx < 18446744073709551616) (id : Int) : (nearSpec nodes links mx id rad).1.length ≤ 256 := by
  unfold nearSpec
  by_cases h0 : askSpec nodes links mx id = 0
  · rw [if_pos h0]
    split
    · simp
    · split
      · simp
      · have := (askSpec_zero hm h0).1.good.n256
        exact Nat.le_trans (nearTo_len _ _ _ _ _) this
  · rw [if_neg h0]
    simp
theorem PathsNear_pure : beaconlaw08_PathsNear.Pure := by
  intro nodes links mx rad id hn hl hm hr hid
  have hF : Fits links := fun y hy => (hl.2 y hy).2.2.1
  have hlen := nearSpec_len nodes links mx rad hm id
  obtain ⟨K1,h1⟩ := Near_tells (nodes := nodes) hF hm hr id
  obtain ⟨K2,h2⟩ := ints_same (nearSpec nodes links mx id rad).1 (by omega)
  refine ⟨max K1 K2,?_⟩
  have h1' : beaconref08_Near.f (max K1 K2) nodes links mx id rad = some (nearSpec nodes links mx id rad) := h1 _ (by omega)
  have h2' : beaconlaw08_ints.f (max K1 K2) (nearSpec nodes links mx id rad).1 (nearSpec nodes links mx id rad).1 = some true := h2 _ (by omega)
  unfold beaconlaw08_PathsNear.f paths_Near.f
  rw [if_pos ⟨hF,hm,hr⟩,Option.bind_some,h1',Option.bind_some,if_pos rfl,h2',Option.bind_some,if_pos rfl,awake_true,Option.bind_some]
end Go.Proofs.Ytmdkcecbklgihaa.PA
