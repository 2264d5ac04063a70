/- The law's own small question; a list of news is the same as itself; what comes in is of words. No condition but those each theorem names. -/
import Derived.Test.YtjcnmpkaiopihaaZtPAx35
import Derived.Test.YtjcnmpkaiopihaaZtPAx3
import Derived.Test.YtjcnmpkaiopihaaZtMn
import Derived.Test.YtjcnmpkaiopihaaZtPAx0
import Derived.Test.YtjcnmpkaiopihaaZtGu
namespace Go.Proofs.Ytjcnmpkaiopihaa.PA
open Go.RowKit Go.Proofs.YtjcnmpkaiopihaaW.PrintWords Go.Proofs.YtjcnmpkaiopihaaW.PrintLast Go.Proofs.YtjcnmpkaiopihaaW.PrintMore
set_option linter.unusedVariables false
set_option linter.unusedSimpArgs false
def smallH : List S54 := [(⟨2,4607182418800017408,[(⟨9,2,4611686018427387904,4616189618054758400,7⟩ : S56)]⟩ : S54)]
theorem small_w : HeardW smallH := by
  intro h hm
  rw [List.mem_singleton.1 hm]
  refine ⟨by show (4607182418800017408 : Nat) < _;decide,fun n hn => ?_,by show (1 : Nat) * 40 ≤ _;decide⟩
  rw [List.mem_singleton.1 hn]
  exact ⟨by show (4611686018427387904 : Nat) < _;decide,by show (4616189618054758400 : Nat) < _;decide⟩
theorem small_ck : ckE 1 smallH = 0 := by decide
theorem small_l : lE 4636737291354636288 = 0 := by decide
theorem small_all : allB 1 4636737291354636288 smallH = [(⟨9,2,4613937818241073152,2,4616189618054758400,7⟩ : S58)] := by rfl
theorem awake16 : beaconlaw16_awake.f = some true := by
  unfold beaconlaw16_awake.f
  show (scopedv_Balls.f 1 smallH 4636737291354636288).bind _ = _
  rw [scopedv_Balls.is 1 smallH _ small_w (by decide) (by decide),Option.bind_some]
  unfold ballsV
  rw [if_pos small_ck,if_pos small_l,small_all]
  have hs : sortE [(⟨9,2,4613937818241073152,2,4616189618054758400,7⟩ : S58)] = [(⟨9,2,4613937818241073152,2,4616189618054758400,7⟩ : S58)] := List.mergeSort_singleton _
  rw [hs]
  decide
theorem sameN_l0 (l : List S56) (hl : l.length < 4611686018427387904) : ∀ (n i k : Nat),i + n = l.length → 2 * n + 1 ≤ k → beaconref06_SameNews.l0 k l l (i : Int) = some true
  | 0,i,k + 1,e,hk => by
    rw [beaconref06_SameNews.l0,if_neg (by omega)]
  | n + 1,i,k + 2,e,hk => by
    have ih := sameN_l0 l hl n (i + 1) k (by omega) (by omega)
    rw [beaconref06_SameNews.l0,if_pos (by omega),if_pos (by omega),if_pos (by omega),if_pos rfl,if_pos rfl,if_pos rfl,if_pos rfl,bne_self_eq_false,beaconref06_SameNews.j1,if_neg (by decide),next64 _ (by omega),ih]
theorem sameN_ref (l : List S56) (hl : l.length < 4611686018427387904) (k : Nat) (hk : 2 * l.length + 1 ≤ k) : beaconref06_SameNews.f k l l = some true := by
  unfold beaconref06_SameNews.f
  rw [if_pos rfl]
  exact sameN_l0 l hl l.length 0 k (by omega) hk
theorem tellV_len (self id home : Int) (r : Nat) (l : List S58) : (tellV self id home r l).1.length ≤ l.length + 1 := by
  unfold tellV
  split
  · split
    · show (sortN _).length ≤ _
      rw [sortN_len]
      exact newsTo_len _ _ _ _ _
    simp
  simp
end Go.Proofs.Ytjcnmpkaiopihaa.PA
namespace Go.Proofs.Ytjcnmpkaiopihaa.PA
open Go.RowKit Go.Proofs.YtjcnmpkaiopihaaW.PrintWords
set_option linter.unusedVariables false
def beaconlaw16_ScopedvTells.Pure : Prop := ∀ (a0 : Int) (a1_0 : Int) (a1_1 : Int) (a1_2 : Nat) (l2 : List S58),((Lit.int .i64 a0).wf = true) → ((Lit.int .i64 a1_0).wf = true) → ((Lit.int .i64 a1_1).wf = true) → (a1_2 < 18446744073709551616) → (l2.length * 48 ≤ 140737488351232 ∧ ∀ y ∈ l2,ok58 y) → ∃ k,beaconlaw16_ScopedvTells.f k a0 a1_0 a1_1 a1_2 l2 = some true
end Go.Proofs.Ytjcnmpkaiopihaa.PA
namespace Go.Proofs.Ytjcnmpkaiopihaa.PA
open Go.RowKit Go.Proofs.YtjcnmpkaiopihaaW.PrintWords
set_option linter.unusedVariables false
theorem ScopedvTells_pure : beaconlaw16_ScopedvTells.Pure := by
  intro self id home r l hs hi hh hr hl
  have hW : EntsW l := fun x hx => ⟨(hl.2 x hx).2.2.1,(hl.2 x hx).2.2.2.2.1⟩
  have hll : l.length < 2932031007402 := by have := hl.1;omega
  obtain ⟨K,hK⟩ := tell_ref self id home r l hll
  have hlen := tellV_len self id home r l
  refine ⟨K + 2 * l.length + 3,?_⟩
  unfold beaconlaw16_ScopedvTells.f
  rw [scopedv_Tell.is self id home r l hW hll hr,Option.bind_some]
  have h1 : beaconref16_Tell.f (K + 2 * l.length + 3) self id home r l = some (tellV self id home r l) := hK _ (by omega)
  rw [h1,Option.bind_some,if_pos rfl,sameN_ref _ (by omega) _ (by omega),Option.bind_some,if_pos rfl,awake16,Option.bind_some]
end Go.Proofs.Ytjcnmpkaiopihaa.PA
