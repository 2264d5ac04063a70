/- graph.node: the place of a router by halving, as Go's library goes; floats: are two lists of floats the same, bit by bit? No condition. -/
import Derived.Test.YtmdkcecbklgihaaCcPAx1
import Derived.Test.YtmdkcecbklgihaaCcFl
import Derived.WalkLawsBesides
import Derived.WalkSpells
import Derived.Outline
import Derived.Deep.QuietTactic
import Derived.BigQuiet
namespace Go.Proofs.Ytmdkcecbklgihaa.PA
open Go.RowKit Go.Proofs.YtmdkcecbklgihaaW.PrintWords Go.Proofs.YtmdkcecbklgihaaW.PrintLast Go.Proofs.YtmdkcecbklgihaaW.PrintMore
set_option linter.unusedVariables false
set_option linter.unusedSimpArgs false
def halved (l : List S40) (a : Int) : Nat → Nat → Nat → Nat
  | 0,i,_ => i
  | k + 1,i,j => if i < j then (if (l.getD ((i + j) / 2) z40).f0 < a then halved l a k ((i + j) / 2 + 1) j else halved l a k i ((i + j) / 2)) else i
def graph_node.f (l0_0 : List S40) (l0_1 : List S74) (a1 : Int) : Option (Int × Bool) :=
  if l0_0.length ≤ 4611686018427387903 then some ((halved l0_0 a1 l0_0.length 0 l0_0.length : Nat),decide (halved l0_0 a1 l0_0.length 0 l0_0.length < l0_0.length ∧ (l0_0.getD (halved l0_0 a1 l0_0.length 0 l0_0.length) z40).f0 = a1)) else none
def cmpI (a b : Int) : Int := if a < b then -1 else if a > b then 1 else 0
theorem cmpI_tells (a b : Int) : cmp_Compare_int.f a b = some (cmpI a b) := by
  unfold cmp_Compare_int.f cmp_isNaN_int.f cmpI
  simp only [bne_self_eq_false,Option.bind_some]
  rw [if_neg (by decide),if_neg (by decide)]
  split
  · rfl
  split <;> rfl
set_option maxRecDepth 100000 in
theorem node1_calls (n : S40) (id : Int) (r : Int) (hr : cmpI n.f0 id = r) (w : World) : Calls Try.prog 86 #[.agg #[.int .i64 n.f0,.bool n.f1,.bool n.f2],.int .i64 id] w fun e w' => e = .returned (.int .i64 r) ∧ Below w.heap.size w w' := by
  subst hr
  have hu40 := Try.underlying40
  have A := Aside0.mk (cmpI_tells n.f0 id)
  go_enter Try.func86,Try.ntmps86
  go_wp2_with (go_at_call 87;refine (cmp_Compare_int.calls n.f0 id (cmpI n.f0 id) _ A.out).mono ?_;rintro e w' ⟨rfl,hd⟩;have HD := Aside0.mk hd.below;clear hd)
  go_ret
  exact ⟨rfl,below_then (below_alloc (Below.refl _ _) _) (by simp) HD.out⟩
theorem halved_done (l : List S40) (a : Int) (k i j : Nat) (h : ¬ i < j) : halved l a k i j = i := by
  cases k with
  | zero => rfl
  | succ k => unfold halved;rw [if_neg h]
theorem halved_up (l : List S40) (a : Int) (k i j : Nat) (h : i < j) (hc : (l.getD ((i + j) / 2) z40).f0 < a) : halved l a (k + 1) i j = halved l a k ((i + j) / 2 + 1) j := by
  conv => lhs;unfold halved
  rw [if_pos h,if_pos hc]
theorem halved_down (l : List S40) (a : Int) (k i j : Nat) (h : i < j) (hc : ¬ (l.getD ((i + j) / 2) z40).f0 < a) : halved l a (k + 1) i j = halved l a k i ((i + j) / 2) := by
  conv => lhs;unfold halved
  rw [if_pos h,if_neg hc]
theorem cmpI_neg (a b : Int) : (cmpI a b < 0) ↔ a < b := by
  unfold cmpI
  split
  · simp [*]
  split <;> simp [*]
theorem cmpI_zero (a b : Int) : (cmpI a b = 0) ↔ a = b := by
  unfold cmpI
  split
  · constructor
    · intro h;cases h
    intro h;omega
  split
  · constructor
    · intro h;cases h
    intro h;omega
  constructor
  · intro _;omega
  intro _;rfl
set_option maxRecDepth 100000 in
theorem search_calls (A : Option Addr) (c : Nat) (l : List S40) (id : Int) (w : World) (hr : Kd.C k40 w A l.length l) (hc : l.length ≤ c) (hm : l.length ≤ 4611686018427387903) (r : Nat) (hres : halved l id l.length 0 l.length = r) (rb : Bool) (hrb : decide (r < l.length ∧ (l.getD r z40).f0 = id) = rb) : Calls Try.prog 85 #[.slice A l.length c,.int .i64 id,.func (.func 86) #[] #[]] w fun e w' => e = .returned (.tuple #[.int .i64 (r : Nat),.bool rb]) ∧ Below w.heap.size w w' := by
  have hu40 := Try.underlying40
  have HR := Aside0.mk hr
  have HRES := Aside0.mk hres
  have HRB := Aside0.mk hrb
  clear hr hres hrb
  go_enter Try.func85,Try.ntmps85
  go_wp2_with fail
  go_loopw [9,10] (fun vi vj wr => ∃ i j k : Nat,vi = .int .i64 (i : Nat) ∧ vj = .int .i64 (j : Nat) ∧ i ≤ j ∧ j ≤ l.length ∧ j - i ≤ k ∧ Aside0 (halved l id k i j = r) ∧ Aside0 (Below w.heap.size w wr)) (fun vi vj _ => (intOf vj - intOf vi).toNat)
  case atStart => exact ⟨0,l.length,l.length,rfl,rfl,Nat.zero_le _,Nat.le_refl _,Nat.le_refl _,HRES,⟨Below.refl _ _⟩⟩
  case round =>
    obtain ⟨i,j,k,rfl,rfl,hij,hjl,hk,HH,HB⟩ := hrel
    by_cases hlt : i < j
    · obtain ⟨k,rfl⟩ : ∃ m,k = m + 1 := ⟨k - 1,by omega⟩
      obtain ⟨nd,hnd⟩ : ∃ nd,l.getD ((i + j) / 2) z40 = nd := ⟨_,rfl⟩
      obtain ⟨cv,hcv⟩ : ∃ cv,cmpI nd.f0 id = cv := ⟨_,rfl⟩
      have hrd : rd_T40 l (((i + j) / 2 : Nat) : Int) = nd := by
        unfold rd_T40
        rw [Int.toNat_natCast]
        exact hnd
      obtain ⟨ad,e0,h0,h1,h2⟩ := at_T40 (HR.out) (((i + j) / 2 : Nat) : Int) (by omega) (by omega)
      subst e0
      have hw0 := (HB.out.cell (World.block_lt_of_cell? w _ h0)).trans h0
      have hw1 := (HB.out.cell (World.block_lt_of_cell? w _ h1)).trans h1
      have hw2 := (HB.out.cell (World.block_lt_of_cell? w _ h2)).trans h2
      rw [hrd] at hw0 hw1 hw2
      clear h0 h1 h2 hrd
      simp only [Int.toNat_natCast] at hw0 hw1 hw2
      have HN := Aside0.mk hnd
      have HC := Aside0.mk hcv
      clear hnd hcv
      by_cases hlow : nd.f0 < id
      · have ht : decide (cv < 0) = true := decide_eq_true (by rw [← HC.out];exact (cmpI_neg _ _).2 hlow)
        have hup := halved_up l id k i j hlt (by rw [HN.out];exact hlow)
        have HUP := Aside0.mk hup
        clear hup hlow
        go_wp2_with fail
        refine (node1_calls nd id cv HC.out _).mono ?_
        rintro e wx ⟨rfl,hb⟩
        have HB1 := Aside0.mk (below_then HB.out HB.out.size hb)
        clear hb hw0 hw1 hw2
        go_wp2_with fail
        go_roundw
        case rel => exact ⟨(i + j) / 2 + 1,j,k,by go_num,rfl,by omega,hjl,by omega,⟨HUP.out.symm.trans HH.out⟩,HB1⟩
        case measure => simp [intOf];omega
      have ht : decide (cv < 0) = false := decide_eq_false (by rw [← HC.out];exact fun h => hlow ((cmpI_neg _ _).1 h))
      have hup := halved_down l id k i j hlt (by rw [HN.out];exact hlow)
      have HUP := Aside0.mk hup
      clear hup hlow
      go_wp2_with fail
      refine (node1_calls nd id cv HC.out _).mono ?_
      rintro e wx ⟨rfl,hb⟩
      have HB1 := Aside0.mk (below_then HB.out HB.out.size hb)
      clear hb hw0 hw1 hw2
      go_wp2_with fail
      go_roundw
      case rel => exact ⟨i,(i + j) / 2,k,rfl,by go_num,by omega,by omega,by omega,⟨HUP.out.symm.trans HH.out⟩,HB1⟩
      case measure => simp [intOf];omega
    have hr : i = r := by rw [← HH.out,halved_done l id k i j hlt]
    subst hr
    by_cases hin : i < l.length
    rotate_left
    · have hd : decide (i < l.length ∧ (l.getD i z40).f0 = id) = false := decide_eq_false (fun h => hin h.1)
      have HD := Aside0.mk hd
      clear hd
      go_wp2_with fail
      go_ret2
      exact ⟨by rw [← HRB.out,HD.out];rfl,HB.out⟩
    obtain ⟨nd,hnd⟩ : ∃ nd,l.getD i z40 = nd := ⟨_,rfl⟩
    obtain ⟨cv,hcv⟩ : ∃ cv,cmpI nd.f0 id = cv := ⟨_,rfl⟩
    have hrd : rd_T40 l (i : Int) = nd := by
      unfold rd_T40
      rw [Int.toNat_natCast]
      exact hnd
    obtain ⟨ad,e0,h0,h1,h2⟩ := at_T40 (HR.out) (i : Int) (by omega) (by omega)
    subst e0
    have hw0 := (HB.out.cell (World.block_lt_of_cell? w _ h0)).trans h0
    have hw1 := (HB.out.cell (World.block_lt_of_cell? w _ h1)).trans h1
    have hw2 := (HB.out.cell (World.block_lt_of_cell? w _ h2)).trans h2
    rw [hrd] at hw0 hw1 hw2
    clear h0 h1 h2 hrd
    simp only [Int.toNat_natCast] at hw0 hw1 hw2
    have hd : decide (i < l.length ∧ (l.getD i z40).f0 = id) = (cv == 0) := by
      rw [Bool.eq_iff_iff,hnd,decide_eq_true_iff,beq_iff_eq,← hcv,cmpI_zero]
      exact ⟨fun h => h.2,fun h => ⟨hin,h⟩⟩
    have HD := Aside0.mk hd
    have HN := Aside0.mk hnd
    have HC := Aside0.mk hcv
    clear hnd hcv hd
    go_wp2_with fail
    refine (node1_calls nd id cv HC.out _).mono ?_
    rintro e wx ⟨rfl,hb⟩
    have HB1 := Aside0.mk (below_then HB.out HB.out.size hb)
    clear hb hw0 hw1 hw2
    go_wp2_with fail
    go_ret2
    exact ⟨by rw [← HRB.out,HD.out];rfl,HB1.out⟩
set_option maxRecDepth 100000 in
theorem graph_node.calls (A0_0 : Option Addr) (c0_0 : Nat) (l0_0 : List S40) (A0_1 : Option Addr) (c0_1 : Nat) (l0_1 : List S74) (a1 : Int) (r1 : Int) (r2 : Bool) (w : World) (hr0_0 : Kd.C k40 w A0_0 l0_0.length l0_0) (hc0_0 : l0_0.length ≤ c0_0) (hr0_1 : Kd.C k74 w A0_1 l0_1.length l0_1) (hc0_1 : l0_1.length ≤ c0_1)
    (h : graph_node.f l0_0 l0_1 a1 = some (r1,r2)) : Calls Try.prog 68 #[.agg #[.slice A0_0 l0_0.length c0_0,.slice A0_1 l0_1.length c0_1],.int .i64 a1] w fun e w' => e = .returned (.tuple #[.int .i64 r1,.bool r2]) ∧ Below w.heap.size w w' := by
  unfold graph_node.f at h
  by_cases hm : l0_0.length ≤ 4611686018427387903
  rotate_left
  · rw [if_neg hm] at h
    cases h
  rw [if_pos hm] at h
  obtain ⟨h1,h2⟩ := Prod.mk.inj (Option.some.inj h)
  obtain ⟨r,hr⟩ : ∃ r,halved l0_0 a1 l0_0.length 0 l0_0.length = r := ⟨_,rfl⟩
  rw [hr] at h1 h2
  have HR := Aside0.mk hr
  have H1 := Aside0.mk h1
  have H2 := Aside0.mk h2
  have HC := Aside0.mk hr0_0
  have HM := Aside0.mk hm
  have HCC := Aside0.mk hc0_0
  clear h h1 h2 hr hr0_0 hr0_1 hc0_0 hc0_1 hm
  have hu25 := Try.underlying25
  go_enter Try.func68,Try.ntmps68
  go_wp2_with fail
  refine (search_calls A0_0 c0_0 l0_0 a1 _ (Kd.C_alloc HC.out _) HCC.out HM.out r HR.out r2 H2.out).mono ?_
  rintro e wx ⟨rfl,hb⟩
  have HB1 := Aside0.mk (below_then (below_alloc (Below.refl w.heap.size w) _) (by simp) hb)
  clear hb
  go_wp2_with fail
  go_ret2
  exact ⟨by rw [← H1.out];rfl,HB1.out⟩
end Go.Proofs.Ytmdkcecbklgihaa.PA
