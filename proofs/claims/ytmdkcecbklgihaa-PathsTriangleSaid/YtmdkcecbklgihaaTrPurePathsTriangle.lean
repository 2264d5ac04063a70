/- PathsTriangle, of numbers and lists alone. No condition. -/
import Derived.Test.YtmdkcecbklgihaaTrGh
import Derived.Test.YtmdkcecbklgihaaTrGi
import Derived.Test.YtmdkcecbklgihaaTrGj
import Derived.Test.YtmdkcecbklgihaaTrStPathsTriangle
namespace Go.Proofs.Ytmdkcecbklgihaa.PA
open Go.RowKit Go.Proofs.YtmdkcecbklgihaaW.PrintWords
open Classical
set_option linter.unusedVariables false
set_option linter.unusedSimpArgs false
theorem add_inf_inf : FloatKind.f64.format.add 9218868437227405312 9218868437227405312 = some 9218868437227405312 := by decide
theorem sum_enc (M a b : Nat) (hM : M ≤ 4294967296) (ha : a ≤ M) (hb : b ≤ M) : floatBits .add .f64 (encM M a) (encM M b) = some (if a < M ∧ b < M then bq (a + b) else 9218868437227405312) := by
  by_cases h1 : a < M
  · rw [encM_lt M a h1]
    by_cases h2 : b < M
    · rw [encM_lt M b h2,if_pos ⟨h1,h2⟩]
      exact sum_bits a b (by omega)
    · obtain rfl : b = M := by omega
      rw [encM_top,if_neg (by omega)]
      exact add_fin_inf a (by omega)
  · obtain rfl : a = M := by omega
    rw [encM_top,if_neg (by omega)]
    by_cases h2 : b < a
    · rw [encM_lt a b h2]
      exact add_inf_fin b (by omega)
    · obtain rfl : b = a := by omega
      rw [encM_top]
      exact add_inf_inf
theorem enc_ne (M a : Nat) (hM : M ≤ 4294967296) (ha : a ≤ M) : (FloatKind.f64.format.order (encM M a) (encM M a) != some .eq) = false := by
  rw [order_encM M a a hM ha ha,Nat.compare_eq_eq.2 rfl]
  rfl
section
variable {nodes : List S40} {links : List S74} (G : Good nodes links) (hF : Fits links) {M : Nat} (h4 : 4 ≤ M) (hM : M ≤ 4294967296) {id : Int} (hid : plc nodes id < nodes.length)
include G hF h4 hM hid
theorem tri_l1 {i : Nat} (hi : i < nodes.length) (hnext : Ev (fun k => beaconlaw08_PathsTriangle.l0 k (bq M) id (dbits M (dQ nodes links M (plc nodes id))) ((i + 1 : Nat) : Int) nodes links) true) : ∀ (m j : Nat),nodes.length - j = m → j ≤ nodes.length →
    Ev (fun k => beaconlaw08_PathsTriangle.l1 k (bq M) id (dbits M (dQ nodes links M (plc nodes id))) (i : Int) (dbits M (dQ nodes links M i)) (j : Int) nodes links) true := by
  have hn := G.n256
  have l1 : (dbits M (dQ nodes links M (plc nodes id))).length = nodes.length := (dbits_len _ _).trans (dQ_len G hF h4 hM hid)
  have l2 : (dbits M (dQ nodes links M i)).length = nodes.length := (dbits_len _ _).trans (dQ_len G hF h4 hM hi)
  have l1' := dQ_len G hF h4 hM hid
  have l2' := dQ_len G hF h4 hM hi
  intro m
  induction m with
  | zero =>
    intro j hm hj
    obtain rfl : j = nodes.length := by omega
    refine Ev.step 0 (fun k _ => ?_) hnext
    show beaconlaw08_PathsTriangle.l1 (k + 1) _ _ _ _ _ _ _ _ = _
    rw [beaconlaw08_PathsTriangle.l1,if_neg (by omega),wrap_succ i (by omega)]
  | succ m ihm =>
    intro j hm hj
    have hjl : j < nodes.length := by omega
    refine Ev.step 0 (fun k _ => ?_) (ihm (j + 1) (by omega) (by omega))
    show beaconlaw08_PathsTriangle.l1 (k + 1) _ _ _ _ _ _ _ _ = _
    have hle1 := dQ_le G hF h4 hM hid i
    have hle2 := dQ_le G hF h4 hM hi j
    have hle3 := dQ_le G hF h4 hM hid j
    have htri := dQ_tri G hF h4 hM hid hi hjl
    rw [beaconlaw08_PathsTriangle.l1,if_pos (by omega),if_pos (by omega),if_pos (by omega),if_pos (by omega),dbits_at M _ i (by omega),dbits_at M _ j (by omega),sum_enc M _ _ hM hle1 hle2,Option.bind_some,wrap_succ j (by omega)]
    generalize (dQ nodes links M (plc nodes id)).getD i 0 = a at *
    generalize (dQ nodes links M i).getD j 0 = b at *
    by_cases hab : a < M ∧ b < M
    · rw [if_pos hab]
      by_cases hlt : a + b < M
      · have h1 : (FloatKind.f64.format.order (bq (a + b)) (bq M) == some .lt) = true := by
          rw [order_bq _ _ (by omega) (by omega),Nat.compare_eq_lt.2 hlt]
          rfl
        rw [if_pos h1,if_pos (by omega),dbits_at M _ j (by omega)]
        have h2 : ¬ (FloatKind.f64.format.order (encM M ((dQ nodes links M (plc nodes id)).getD j 0)) (bq (a + b)) == some .gt) = true := by
          rw [encM_lt M _ (by omega),order_bq _ _ (by omega) (by omega)]
          intro h
          have := Nat.compare_eq_gt.1 (Option.some.inj (eq_of_beq h))
          omega
        rw [if_neg h2]
      · have h1 : ¬ (FloatKind.f64.format.order (bq (a + b)) (bq M) == some .lt) = true := by
          rw [order_bq _ _ (by omega) (by omega)]
          intro h
          have := Nat.compare_eq_lt.1 (Option.some.inj (eq_of_beq h))
          omega
        rw [if_neg h1]
    · rw [if_neg hab]
      have h1 : ¬ (FloatKind.f64.format.order 9218868437227405312 (bq M) == some .lt) = true := by
        rw [order_inf_fin M (by omega)]
        decide
      rw [if_neg h1]
theorem tri_l0 {mx : Nat} (hlim : bq M = mx) (hmx : mx < 18446744073709551616) (hask : ∀ i,i < nodes.length → askSpec nodes links mx (nodes.getD i z40).f0 = 0) (hMM : mqOf mx = M) : ∀ (m i : Nat),nodes.length - i = m → i ≤ nodes.length →
    Ev (fun k => beaconlaw08_PathsTriangle.l0 k (bq M) id (dbits M (dQ nodes links M (plc nodes id))) (i : Int) nodes links) true := by
  have hn := G.n256
  have l1 : (dbits M (dQ nodes links M (plc nodes id))).length = nodes.length := (dbits_len _ _).trans (dQ_len G hF h4 hM hid)
  have l1' := dQ_len G hF h4 hM hid
  intro m
  induction m with
  | zero =>
    intro i hm hi
    refine Ev.now 1 (fun k hk => ?_)
    obtain ⟨k,rfl⟩ : ∃ m,k = m + 1 := ⟨k - 1,by omega⟩
    show beaconlaw08_PathsTriangle.l0 (k + 1) _ _ _ _ _ _ = _
    rw [beaconlaw08_PathsTriangle.l0,if_neg (by omega),awake_true]
    rfl
  | succ m ihm =>
    intro i hm hi
    have hil : i < nodes.length := by omega
    have hp := Good.plc_inj G.nd hil rfl
    have l2 : (dbits M (dQ nodes links M i)).length = nodes.length := (dbits_len _ _).trans (dQ_len G hF h4 hM hil)
    have l2' := dQ_len G hF h4 hM hil
    have hl1 := tri_l1 G hF h4 hM hid hil (ihm (i + 1) (by omega) (by omega)) nodes.length 0 (by omega) (Nat.zero_le _)
    have hj2 : Ev (fun k => beaconlaw08_PathsTriangle.j2 k (bq M) id (dbits M (dQ nodes links M (plc nodes id))) (i : Int) (dbits M (dQ nodes links M i)) false nodes links) true := by
      refine Ev.step 0 (fun k _ => ?_) hl1
      show beaconlaw08_PathsTriangle.j2 (k + 1) _ _ _ _ _ _ _ _ = _
      rw [beaconlaw08_PathsTriangle.j2,if_neg (by decide)]
      rfl
    refine Ev.step 257 (fun k hk => ?_) hj2
    show beaconlaw08_PathsTriangle.l0 (k + 1) _ _ _ _ _ _ = _
    have hd : paths_Dists.f nodes links (bq M) (nodes.getD i z40).f0 = some (dbits M (dQ nodes links M i),0) := by
      unfold paths_Dists.f
      rw [hlim,if_pos ⟨hF,hmx⟩,distsSpec_ok (hask i hil),hMM,hp]
    rw [beaconlaw08_PathsTriangle.l0,if_pos (by omega),if_pos (by omega),rd40,hd,Option.bind_some]
    show (if (0 : Int) = 0 then _ else _) = _
    unfold beaconref08_Place.f
    rw [if_pos rfl,if_pos (by rw [l1,l2]),place_tells nodes links id hn k hk,if_pos hid,Option.bind_some,Option.bind_some,if_pos (by omega),if_pos (by show ((plc nodes id : Nat) : Int) < ((dbits M (dQ nodes links M i)).length : Int);omega),if_pos (by omega)]
    show beaconlaw08_PathsTriangle.j2 k (bq M) id _ _ (dbits M (dQ nodes links M i)) _ nodes links = _
    rw [dbits_at M _ _ (by omega),dbits_at M _ i (by omega),dQ_symm G hF h4 hM hid hil,enc_ne M _ hM (dQ_le G hF h4 hM hid i)]
end
theorem PathsTriangle_pure : beaconlaw08_PathsTriangle.Pure := by
  intro nodes links mx id hn hl hm hid
  have hF : Fits links := fun y hy => (hl.2 y hy).2.2.1
  have hd : paths_Dists.f nodes links mx id = some (distsSpec nodes links mx id) := by
    unfold paths_Dists.f
    rw [if_pos ⟨hF,hm⟩]
  by_cases h0 : askSpec nodes links mx id = 0
  · obtain ⟨T,t1,t2⟩ := askSpec_zero hm h0
    obtain ⟨M,hMM⟩ : ∃ M,mqOf mx = M := ⟨_,rfl⟩
    have hlim := T.lim
    have hlow := T.low
    have hhigh := T.high
    rw [hMM] at hlim hlow hhigh
    have hgo := tri_l0 T.good hF hlow hhigh T.there hlim hm (fun i hi => ask_ok t1 t2 (by rw [Good.plc_inj T.good.nd hi rfl];exact hi)) hMM nodes.length 0 (by omega) (Nat.zero_le _)
    obtain ⟨K,hK⟩ := hgo
    refine ⟨max K 257 + 1,?_⟩
    have hk0 : beaconlaw08_PathsTriangle.l0 (max K 257) (bq M) id (dbits M (dQ nodes links M (plc nodes id))) ((0 : Nat) : Int) nodes links = some true := hK _ (by omega)
    have hlen : (dbits M (dQ nodes links M (plc nodes id))).length = nodes.length := (dbits_len _ _).trans (dQ_len T.good hF hlow hhigh T.there)
    unfold beaconlaw08_PathsTriangle.f
    rw [hd,distsSpec_ok h0,hMM,Option.bind_some]
    show (if (0 : Int) = 0 then _ else _) = _
    rw [if_pos rfl]
    show (if ((dbits M (dQ nodes links M (plc nodes id))).length : Int) = (nodes.length : Int) then _ else _) = _
    unfold beaconref08_Place.f
    rw [if_pos (by rw [hlen]),place_tells nodes links id T.good.n256 _ (by omega),if_pos T.there,Option.bind_some,Option.bind_some,decide_eq_false (by omega),beaconlaw08_PathsTriangle.j0,if_neg (by decide)]
    show beaconlaw08_PathsTriangle.l0 (max K 257) mx id (dbits M (dQ nodes links M (plc nodes id))) 0 nodes links = _
    rw [← hlim]
    exact hk0
  · obtain ⟨K,hK⟩ := Dists_tells (nodes := nodes) hF hm id
    refine ⟨K,?_⟩
    have h1 : beaconref08_Dists.f K nodes links mx id = some (distsSpec nodes links mx id) := hK K (Nat.le_refl _)
    unfold beaconlaw08_PathsTriangle.f
    rw [hd,Option.bind_some,h1,distsSpec_no rfl h0]
    show (if askSpec nodes links mx id = 0 then _ else _) = _
    rw [if_neg h0,Option.bind_some]
    show (if askSpec nodes links mx id = askSpec nodes links mx id then _ else _) = _
    rw [if_pos rfl]
    show (if (([] : List Nat).length : Int) = 0 then _ else _) = _
    rw [if_pos (by simp),awake_true]
    rfl
end Go.Proofs.Ytmdkcecbklgihaa.PA
