/- What is to be shown of the law ScopedvBalls, of numbers and lists alone. No condition. -/
import Derived.Test.YtjcnmpkaiopihaaZbPAx35
import Derived.Test.YtjcnmpkaiopihaaZbOkA
import Derived.Test.YtjcnmpkaiopihaaZbGv
namespace Go.Proofs.Ytjcnmpkaiopihaa.PA
open Go.RowKit Go.Proofs.YtjcnmpkaiopihaaW.PrintWords
set_option linter.unusedVariables false
def beaconlaw16_ScopedvBalls.Pure : Prop := ∀ (a0 : Int) (l1 : List S54) (a2 : Nat),((Lit.int .i64 a0).wf = true) → (l1.length * 40 ≤ 140737488351232 ∧ ∀ y ∈ l1,ok54 y) → (a2 < 18446744073709551616) → ∃ k,beaconlaw16_ScopedvBalls.f k a0 l1 a2 = some true
end Go.Proofs.Ytjcnmpkaiopihaa.PA
namespace Go.Proofs.Ytjcnmpkaiopihaa.PA
open Go.RowKit Go.Proofs.YtjcnmpkaiopihaaW.PrintWords Go.Proofs.YtjcnmpkaiopihaaW.PrintLast Go.Proofs.YtjcnmpkaiopihaaW.PrintMore
set_option linter.unusedVariables false
set_option linter.unusedSimpArgs false
theorem heardW_of {l : List S54} (h : ∀ y ∈ l,ok54 y) : HeardW l := fun y hy => by
  obtain ⟨_,h1,h2,h3⟩ := h y hy
  exact ⟨h1,fun n hn => ⟨(h3 n hn).2.2.1,(h3 n hn).2.2.2.1⟩,by omega⟩
def smallH : List S54 := [(⟨2,4607182418800017408,[(⟨9,2,4611686018427387904,4616189618054758400,7⟩ : S56)]⟩ : S54)]
theorem small_w : HeardW smallH := by
  intro h hm
  rw [List.mem_singleton.1 hm]
  refine ⟨by show (4607182418800017408 : Nat) < _;decide,fun n hn => ?_,by show (1 : Nat) * 40 ≤ _;decide⟩
  rw [List.mem_singleton.1 hn]
  exact ⟨by show (4611686018427387904 : Nat) < _;decide,by show (4616189618054758400 : Nat) < _;decide⟩
theorem small_ck : ckE 1 smallH = 0 := by decide
theorem small_l : lE 4636737291354636288 = 0 := by decide
theorem small_all : allB 1 4636737291354636288 smallH = [(⟨9,2,4613937818241073152,2,4616189618054758400,7⟩ : S58)] := by rfl
theorem awake16 : beaconlaw16_awake.f = some true := by
  unfold beaconlaw16_awake.f
  show (scopedv_Balls.f 1 smallH 4636737291354636288).bind _ = _
  rw [scopedv_Balls.is 1 smallH _ small_w (by decide) (by decide),Option.bind_some]
  unfold ballsV
  rw [if_pos small_ck,if_pos small_l,small_all]
  have hs : sortE [(⟨9,2,4613937818241073152,2,4616189618054758400,7⟩ : S58)] = [(⟨9,2,4613937818241073152,2,4616189618054758400,7⟩ : S58)] := List.mergeSort_singleton _
  rw [hs]
  decide
end Go.Proofs.Ytjcnmpkaiopihaa.PA
namespace Go.Proofs.Ytjcnmpkaiopihaa.PA
open Go.RowKit Go.Proofs.YtjcnmpkaiopihaaW.PrintWords
set_option linter.unusedVariables false
theorem ScopedvBalls_pure : beaconlaw16_ScopedvBalls.Pure := by
  intro self l max hs hl hm
  have hW := heardW_of hl.2
  have hll : l.length < 2305843009213693952 := by have := hl.1;omega
  obtain ⟨K,hK⟩ := balls_ref self l max hW hll hm
  have hlen := ballsV_len self l max hW
  refine ⟨K + 2 * (ballsV self l max).1.length + 1,?_⟩
  unfold beaconlaw16_ScopedvBalls.f
  rw [scopedv_Balls.is self l max hW hll hm,Option.bind_some]
  have h1 : beaconref16_Balls.f (K + 2 * (ballsV self l max).1.length + 1) self l max = some (ballsV self l max) := hK _ (by omega)
  rw [h1,Option.bind_some,if_pos rfl,sameE_ref _ (by omega) _ (by omega),Option.bind_some,if_pos rfl,awake16,Option.bind_some]
end Go.Proofs.Ytjcnmpkaiopihaa.PA
