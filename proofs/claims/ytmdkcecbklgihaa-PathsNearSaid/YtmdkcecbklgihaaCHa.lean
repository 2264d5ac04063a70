/- graph.node: the place of a router by halving, as Go's library goes; floats: are two lists of floats the same, bit by bit? No condition. -/
import Derived.Test.YtmdkcecbklgihaaCPAx1
import Derived.Test.YtmdkcecbklgihaaCFl
import Derived.WalkLawsBesides
import Derived.WalkSpells
import Derived.Outline
import Derived.Deep.QuietTactic
import Derived.BigQuiet
namespace Go.Proofs.Ytmdkcecbklgihaa.PA
open Go.RowKit Go.Proofs.YtmdkcecbklgihaaW.PrintWords Go.Proofs.YtmdkcecbklgihaaW.PrintLast Go.Proofs.YtmdkcecbklgihaaW.PrintMore
set_option linter.unusedVariables false
set_option linter.unusedSimpArgs false
def halved (l : List S40) (a : Int) : Nat → Nat → Nat → Nat
  | 0,i,_ => i
  | k + 1,i,j => if i < j then (if (l.getD ((i + j) / 2) z40).f0 < a then halved l a k ((i + j) / 2 + 1) j else halved l a k i ((i + j) / 2)) else i
def graph_node.f (l0_0 : List S40) (l0_1 : List S74) (a1 : Int) : Option (Int × Bool) :=
  if l0_0.length ≤ 4611686018427387903 then some ((halved l0_0 a1 l0_0.length 0 l0_0.length : Nat),decide (halved l0_0 a1 l0_0.length 0 l0_0.length < l0_0.length ∧ (l0_0.getD (halved l0_0 a1 l0_0.length 0 l0_0.length) z40).f0 = a1)) else none
def cmpI (a b : Int) : Int := if a < b then -1 else if a > b then 1 else 0
theorem cmpI_tells (a b : Int) : cmp_Compare_int.f a b = some (cmpI a b) := by
  unfold cmp_Compare_int.f cmp_isNaN_int.f cmpI
  simp only [bne_self_eq_false,Option.bind_some]
  rw [if_neg (by decide),if_neg (by decide)]
  split
  · rfl
  · split <;> rfl
set_option maxRecDepth 100000 in
theorem node1_calls (n : S40) (id : Int) (r : Int) (hr : cmpI n.f0 id = r) (w : World) : Calls Try.prog 86 #[.agg #[.int .i64 n.f0,.bool n.f1,.bool n.f2],.int .i64 id] w fun e w' => e = .returned (.int .i64 r) ∧ Below w.heap.size w w' := by
  subst hr
  have hu40 := Try.underlying40
  have A := Aside0.mk (cmpI_tells n.f0 id)
  go_enter Try.func86,Try.ntmps86
  go_wp2_with (go_at_call 87;refine (cmp_Compare_int.calls n.f0 id (cmpI n.f0 id) _ A.out).mono ?_;rintro e w' ⟨rfl,hd⟩;have HD := Aside0.mk hd.below;clear hd)
  go_ret
  exact ⟨rfl,below_then (below_alloc (Below.refl _ _) _) (by simp) HD.out⟩
theorem halved_done (l : List S40) (a : Int) (k i j : Nat) (h : ¬ i < j) : halved l a k i j = i := by
  cases k with
  | zero => rfl
  | succ k => unfold halved;rw [if_neg h]
theorem halved_up (l : List S40) (a : Int) (k i j : Nat) (h : i < j) (hc : (l.getD ((i + j) / 2) z40).f0 < a) : halved l a (k + 1) i j = halved l a k ((i + j) / 2 + 1) j := by
  conv => lhs;unfold halved
  rw [if_pos h,if_pos hc]
theorem halved_down (l : List S40) (a : Int) (k i j : Nat) (h : i < j) (hc : ¬ (l.getD ((i + j) / 2) z40).f0 < a) : halved l a (k + 1) i j = halved l a k i ((i + j) / 2) := by
  conv => lhs;unfold halved
  rw [if_pos h,if_neg hc]
theorem cmpI_neg (a b : Int) : (cmpI a b < 0) ↔ a < b := by
  unfold cmpI
  split
  · simp [*]
  · split <;> simp [*]
theorem cmpI_zero (a b : Int) : (cmpI a b = 0) ↔ a = b := by
  unfold cmpI
  split
  · constructor
    · intro h;cases h
    · intro h;omega
  · split
    · constructor
      · intro h;cases h
      · intro h;omega
    · constructor
      · intro _;omega
      · intro _;rfl
set_option maxRecDepth 100000 in
theorem search_calls (A : Option Addr) (c : Nat) (l : List S40) (id : Int) (w : World) (hr : Kd.C k40 w A l.length l) (hc : l.length ≤ c) (hm : l.length ≤ 4611686018427387903) (r : Nat) (hres : halved l id l.length 0 l.length = r) (rb : Bool) (hrb : decide (r < l.length ∧ (l.getD r z40).f0 = id) = rb) : Calls Try.prog 85 #[.slice A l.length c,.int .i64 id,.func (.func 86) #[] #[]] w fun e w' => e = .returned (.tuple #[.int .i64 (r : Nat),.bool rb]) ∧ Below w.heap.size w w' := by
  have hu40 := Try.underlying40
  have HR := Aside0.mk hr
  have HRES := Aside0.mk hres
  have HRB := Aside0.mk hrb
  clear hr hres hrb
  go_enter Try.func85,Try.ntmps85
  go_wp2_with fail
  go_loopw [9,10] (fun vi vj wr => ∃ i j k : Nat,vi = .int .i64 (i : Nat) ∧ vj = .int .i64 (j : Nat) ∧ i ≤ j ∧ j ≤ l.length ∧ j - i ≤ k ∧ Aside0 (halved l id k i j = r) ∧ Aside0 (Below w.heap.size w wr)) (fun vi vj _ => (intOf vj - intOf vi).toNat)
  case atStart => exact ⟨0,l.length,l.length,rfl,rfl,Nat.zero_le _,Nat.le_refl _,Nat.le_refl _,HRES,⟨Below.refl _ _⟩⟩
  case round =>
    obtain ⟨i,j,k,rfl,rfl,hij,hjl,hk,HH,HB⟩ := hrel
    by_cases hlt : i < j
    · obtain ⟨k,rfl⟩ : ∃ m,k = m + 1 := ⟨k - 1,by omega⟩
      obtain ⟨nd,hnd⟩ : ∃ nd,l.getD ((i + j) / 2) z40 = nd := ⟨_,rfl⟩
      obtain ⟨cv,hcv⟩ : ∃ cv,cmpI nd.f0 id = cv := ⟨_,rfl⟩
      have hrd : rd_T40 l (((i + j) / 2 : Nat) : Int) = nd := by
        unfold rd_T40
        rw [Int.toNat_natCast]
        exact hnd
      obtain ⟨ad,e0,h0,h1,h2⟩ := at_T40 (HR.out) (((i + j) / 2 : Nat) : Int) (by omega) (by omega)
      subst e0
      have hw0 := (HB.out.cell (World.block_lt_of_cell? w _ h0)).trans h0
      have hw1 := (HB.out.cell (World.block_lt_of_cell? w _ h1)).trans h1
      have hw2 := (HB.out.cell (World.block_lt_of_cell? w _ h2)).trans h2
      rw [hrd] at hw0 hw1 hw2
      clear h0 h1 h2 hrd
      simp only [Int.toNat_natCast] at hw0 hw1 hw2
      have HN := Aside0.mk hnd
      have HC := Aside0.mk hcv
      clear hnd hcv
      by_cases hlow : nd.f0 < id
      · have ht : decide (cv < 0) = true := decide_eq_true (by rw [← HC.out];exact (cmpI_neg _ _).2 hlow)
        have hup := halved_up l id k i j hlt (by rw [HN.out];exact hlow)
        have HUP := Aside0.mk hup
        clear hup hlow
        go_wp2_with fail
        refine (node1_calls nd id cv HC.out _).mono ?_
        rintro e wx ⟨rfl,hb⟩
        have HB1 := Aside0.mk (below_then HB.out HB.out.size hb)
        clear hb hw0 hw1 hw2
        go_wp2_with fail
        go_roundw
        case rel => exact ⟨(i + j) / 2 + 1,j,k,by go_num,rfl,by omega,hjl,by omega,⟨HUP.out.symm.trans HH.out⟩,HB1⟩
        case measure => simp [intOf];omega
      · have ht : decide (cv < 0) = false := decide_eq_false (by rw [← HC.out];exact fun h => hlow ((cmpI_neg _ _).1 h))
        have hup := halved_down l id k i j hlt (by rw [HN.out];exact hlow)
        have HUP := Aside0.mk hup
        clear hup hlow
        go_wp2_with fail
        refine (node1_calls nd id cv HC.out _).mono ?_
        rintro e wx ⟨rfl,hb⟩
        have HB1 := Aside0.mk (below_then HB.out HB.out.size hb)
        clear hb hw0 hw1 hw2
        go_wp2_with fail
        go_roundw
        case rel => exact ⟨i,(i + j) / 2,k,rfl,by go_num,by omega,by omega,by omega,⟨HUP.out.symm.trans HH.out⟩,HB1⟩
        case measure => simp [intOf];omega
    · have hr : i = r := by rw [← HH.out,halved_done l id k i j hlt]
      subst hr
      by_cases hin : i < l.length
      · obtain ⟨nd,hnd⟩ : ∃ nd,l.getD i z40 = nd := ⟨_,rfl⟩
        obtain ⟨cv,hcv⟩ : ∃ cv,cmpI nd.f0 id = cv := ⟨_,rfl⟩
        have hrd : rd_T40 l (i : Int) = nd := by
          unfold rd_T40
          rw [Int.toNat_natCast]
          exact hnd
        obtain ⟨ad,e0,h0,h1,h2⟩ := at_T40 (HR.out) (i : Int) (by omega) (by omega)
        subst e0
        have hw0 := (HB.out.cell (World.block_lt_of_cell? w _ h0)).trans h0
        have hw1 := (HB.out.cell (World.block_lt_of_cell? w _ h1)).trans h1
        have hw2 := (HB.out.cell (World.block_lt_of_cell? w _ h2)).trans h2
        rw [hrd] at hw0 hw1 hw2
        clear h0 h1 h2 hrd
        simp only [Int.toNat_natCast] at hw0 hw1 hw2
        have hd : decide (i < l.length ∧ (l.getD i z40).f0 = id) = (cv == 0) := by
          rw [Bool.eq_iff_iff,hnd,decide_eq_true_iff,beq_iff_eq,← hcv,cmpI_zero]
          exact ⟨fun h => h.2,fun h => ⟨hin,h⟩⟩
        have HD := Aside0.mk hd
        have HN := Aside0.mk hnd
        have HC := Aside0.mk hcv
        clear hnd hcv hd
        go_wp2_with fail
        refine (node1_calls nd id cv HC.out _).mono ?_
        rintro e wx ⟨rfl,hb⟩
        have HB1 := Aside0.mk (below_then HB.out HB.out.size hb)
        clear hb hw0 hw1 hw2
        go_wp2_with fail
        go_ret2
        exact ⟨by rw [← HRB.out,HD.out];rfl,HB1.out⟩
      · have hd : decide (i < l.length ∧ (l.getD i z40).f0 = id) = false := decide_eq_false (fun h => hin h.1)
        have HD := Aside0.mk hd
        clear hd
        go_wp2_with fail
        go_ret2
        exact ⟨by rw [← HRB.out,HD.out];rfl,HB.out⟩
set_option maxRecDepth 100000 in
theorem graph_node.calls (A0_0 : Option Addr) (c0_0 : Nat) (l0_0 : List S40) (A0_1 : Option Addr) (c0_1 : Nat) (l0_1 : List S74) (a1 : Int) (r1 : Int) (r2 : Bool) (w : World) (hr0_0 : Kd.C k40 w A0_0 l0_0.length l0_0) (hc0_0 : l0_0.length ≤ c0_0) (hr0_1 : Kd.C k74 w A0_1 l0_1.length l0_1) (hc0_1 : l0_1.length ≤ c0_1)
    (h : graph_node.f l0_0 l0_1 a1 = some (r1,r2)) : Calls Try.prog 68 #[.agg #[.slice A0_0 l0_0.length c0_0,.slice A0_1 l0_1.length c0_1],.int .i64 a1] w fun e w' => e = .returned (.tuple #[.int .i64 r1,.bool r2]) ∧ Below w.heap.size w w' := by
  unfold graph_node.f at h
  by_cases hm : l0_0.length ≤ 4611686018427387903
  · rw [if_pos hm] at h
    obtain ⟨h1,h2⟩ := Prod.mk.inj (Option.some.inj h)
    obtain ⟨r,hr⟩ : ∃ r,halved l0_0 a1 l0_0.length 0 l0_0.length = r := ⟨_,rfl⟩
    rw [hr] at h1 h2
    have HR := Aside0.mk hr
    have H1 := Aside0.mk h1
    have H2 := Aside0.mk h2
    have HC := Aside0.mk hr0_0
    have HM := Aside0.mk hm
    have HCC := Aside0.mk hc0_0
    clear h h1 h2 hr hr0_0 hr0_1 hc0_0 hc0_1 hm
    have hu25 := Try.underlying25
    go_enter Try.func68,Try.ntmps68
    go_wp2_with fail
    refine (search_calls A0_0 c0_0 l0_0 a1 _ (Kd.C_alloc HC.out _) HCC.out HM.out r HR.out r2 H2.out).mono ?_
    rintro e wx ⟨rfl,hb⟩
    have HB1 := Aside0.mk (below_then (below_alloc (Below.refl w.heap.size w) _) (by simp) hb)
    clear hb
    go_wp2_with fail
    go_ret2
    exact ⟨by rw [← H1.out];rfl,HB1.out⟩
  · rw [if_neg hm] at h
    cases h
def beaconlaw08_floats.f (l0 l1 : List Nat) : Option Bool := some (l0 == l1)
theorem same_upto (l0 l1 : List Nat) (hl : l0.length = l1.length) (h : ∀ j,j < l0.length → l0.getD j 0 = l1.getD j 0) : l0 = l1 := by
  apply List.ext_getElem hl
  intro j h1 h2
  have := h j h1
  simpa [List.getD_eq_getElem?_getD,h1,h2] using this
set_option maxRecDepth 100000 in
theorem beaconlaw08_floats.calls (A0 : Option Addr) (c0 : Nat) (l0 : List Nat) (A1 : Option Addr) (c1 : Nat) (l1 : List Nat) (r : Bool) (w : World) (hr0 : Kd.C Kd.float w A0 l0.length l0) (hc0 : l0.length ≤ c0) (hr1 : Kd.C Kd.float w A1 l1.length l1) (hc1 : l1.length ≤ c1)
    (h : beaconlaw08_floats.f l0 l1 = some r) : Calls Try.prog 17 #[.slice A0 l0.length c0,.slice A1 l1.length c1] w fun e w' => e = .returned (.bool r) ∧ Drawn0 w w' := by
  have hr : (l0 == l1) = r := Option.some.inj h
  have hX23 := run_Float64bits Try.func23 (by kernel_rfl) (by kernel_rfl) (by kernel_rfl) (by kernel_rfl)
  have hmax := Kd.C_max hr0
  have HC0 := Aside0.mk hr0
  have HC1 := Aside0.mk hr1
  have HR := Aside0.mk hr
  clear h hr hr0 hr1
  by_cases hlen : l0.length = l1.length
  · have e1 : ((l0.length : Int) != (l1.length : Int)) = false := by rw [bne_eq_false_iff_eq,hlen]
    have e2 : (l0.length != l1.length) = false := by rw [bne_eq_false_iff_eq,hlen]
    have HL := Aside0.mk hlen
    clear hlen
    go_enter Try.func17,Try.ntmps17
    go_wp2_with fail
    clear e1 e2
    go_loopw [5] (fun vi wr => ∃ i : Nat,vi = .int .i64 (i : Nat) ∧ i ≤ l0.length ∧ Aside0 (∀ j,j < i → l0.getD j 0 = l1.getD j 0) ∧ Aside0 (Drawn0 w wr)) (fun vi _ => l0.length - (intOf vi).toNat)
    case atStart => exact ⟨0,rfl,Nat.zero_le _,⟨fun j hj => absurd hj (Nat.not_lt_zero _)⟩,⟨Drawn0.refl _⟩⟩
    case round =>
      obtain ⟨i,rfl,hi,HS,HD⟩ := hrel
      by_cases hlt : i < l0.length
      · have hlt1 : i < l1.length := by rw [← HL.out];exact hlt
        obtain ⟨ad0,e0,h0⟩ := Kd.at_float HC0.out (i : Int) (by omega) (by omega)
        obtain ⟨ad1,e1,h1⟩ := Kd.at_float HC1.out (i : Int) (by omega) (by omega)
        subst e0 e1
        have g0 := (HD.out.below.cell (World.block_lt_of_cell? w _ h0)).trans h0
        have g1 := (HD.out.below.cell (World.block_lt_of_cell? w _ h1)).trans h1
        clear h0 h1
        simp only [Int.toNat_natCast,rdOf] at g0 g1
        obtain ⟨x,hx⟩ : ∃ x,l0.getD i 0 = x := ⟨_,rfl⟩
        obtain ⟨y,hy⟩ : ∃ y,l1.getD i 0 = y := ⟨_,rfl⟩
        rw [hx] at g0
        rw [hy] at g1
        have HX := Aside0.mk hx
        have HY := Aside0.mk hy
        clear hx hy
        by_cases hxy : x = y
        · have t1 : ((x : Int) != (y : Int)) = false := by rw [bne_eq_false_iff_eq,hxy]
          have t2 : (x != y) = false := by rw [bne_eq_false_iff_eq,hxy]
          have HE := Aside0.mk hxy
          clear hxy
          have hi0 : (0 : Int) ≤ (i : Int) := by omega
          have hi1 : (i : Int) < (l0.length : Int) := by omega
          have hi2 : (i : Int) < (l1.length : Int) := by omega
          go_wp2_with fail
          go_quiet (fail)
          go_wp2
          go_roundw
          case rel =>
            refine ⟨i + 1,by go_num,hlt,⟨fun j hj => ?_⟩,⟨HD.out.step _⟩⟩
            by_cases hji : j < i
            · exact HS.out j hji
            · obtain rfl : j = i := by omega
              rw [HX.out,HY.out,HE.out]
          case measure => simp [intOf];omega
        · have t1 : ((x : Int) != (y : Int)) = true := by
            rw [bne_iff_ne]
            omega
          have t2 : (x != y) = true := by
            rw [bne_iff_ne]
            exact hxy
          have HE := Aside0.mk hxy
          clear hxy
          have hi0 : (0 : Int) ≤ (i : Int) := by omega
          have hi1 : (i : Int) < (l0.length : Int) := by omega
          have hi2 : (i : Int) < (l1.length : Int) := by omega
          go_wp2_with fail
          go_quiet (fail)
          go_wp2
          go_ret
          refine ⟨?_,HD.out.step _⟩
          have : (l0 == l1) = false := by
            rw [beq_eq_false_iff_ne]
            rintro rfl
            exact HE.out (HX.out.symm.trans HY.out)
          rw [← HR.out,this]
          rfl
      · go_wp2
        go_ret
        refine ⟨?_,HD.out⟩
        have : l0 = l1 := same_upto l0 l1 HL.out (fun j hj => HS.out j (by omega))
        rw [← HR.out,this]
        simp
  · have e1 : ((l0.length : Int) != (l1.length : Int)) = true := by
      rw [bne_iff_ne]
      omega
    have e2 : (l0.length != l1.length) = true := by
      rw [bne_iff_ne]
      exact hlen
    have HL := Aside0.mk hlen
    clear hlen
    go_enter Try.func17,Try.ntmps17
    go_wp2
    go_ret
    refine ⟨?_,Drawn0.refl _⟩
    have : (l0 == l1) = false := by
      rw [beq_eq_false_iff_ne]
      rintro rfl
      exact HL.out rfl
    rw [← HR.out,this]
    rfl
end Go.Proofs.Ytmdkcecbklgihaa.PA
