/- The law's own small question; a list of news is the same as itself; what comes in is of words. No condition but those each theorem names. -/
import Derived.Test.YtjcnmpkaiopihaaZoPAx35
import Derived.Test.YtjcnmpkaiopihaaZoGv
namespace Go.Proofs.Ytjcnmpkaiopihaa.PA
open Go.RowKit Go.Proofs.YtjcnmpkaiopihaaW.PrintWords Go.Proofs.YtjcnmpkaiopihaaW.PrintLast Go.Proofs.YtjcnmpkaiopihaaW.PrintMore
set_option linter.unusedVariables false
set_option linter.unusedSimpArgs false
theorem heardW_of {l : List S54} (h : ∀ y ∈ l,ok54 y) : HeardW l := fun y hy => by
  obtain ⟨_,h1,h2,h3⟩ := h y hy
  exact ⟨h1,fun n hn => ⟨(h3 n hn).2.2.1,(h3 n hn).2.2.2.1⟩,by omega⟩
def smallH : List S54 := [(⟨2,4607182418800017408,[(⟨9,2,4611686018427387904,4616189618054758400,7⟩ : S56)]⟩ : S54)]
theorem small_w : HeardW smallH := by
  intro h hm
  rw [List.mem_singleton.1 hm]
  refine ⟨by show (4607182418800017408 : Nat) < _;decide,fun n hn => ?_,by show (1 : Nat) * 40 ≤ _;decide⟩
  rw [List.mem_singleton.1 hn]
  exact ⟨by show (4611686018427387904 : Nat) < _;decide,by show (4616189618054758400 : Nat) < _;decide⟩
theorem small_ck : ckE 1 smallH = 0 := by decide
theorem small_l : lE 4636737291354636288 = 0 := by decide
theorem small_all : allB 1 4636737291354636288 smallH = [(⟨9,2,4613937818241073152,2,4616189618054758400,7⟩ : S58)] := by rfl
theorem awake16 : beaconlaw16_awake.f = some true := by
  unfold beaconlaw16_awake.f
  show (scopedv_Balls.f 1 smallH 4636737291354636288).bind _ = _
  rw [scopedv_Balls.is 1 smallH _ small_w (by decide) (by decide),Option.bind_some]
  unfold ballsV
  rw [if_pos small_ck,if_pos small_l,small_all]
  have hs : sortE [(⟨9,2,4613937818241073152,2,4616189618054758400,7⟩ : S58)] = [(⟨9,2,4613937818241073152,2,4616189618054758400,7⟩ : S58)] := List.mergeSort_singleton _
  rw [hs]
  decide
end Go.Proofs.Ytjcnmpkaiopihaa.PA
namespace Go.Proofs.Ytjcnmpkaiopihaa.PA
open Go.RowKit Go.Proofs.YtjcnmpkaiopihaaW.PrintWords
set_option linter.unusedVariables false
def beaconlaw16_ScopedvOwn.Pure : Prop := ∀ (a0 : Int) (l1 : List S54) (a2_0 : Int) (a2_1 : Int) (a2_2 : Nat),((Lit.int .i64 a0).wf = true) → (l1.length * 40 ≤ 140737488351232 ∧ ∀ y ∈ l1,ok54 y) → ((Lit.int .i64 a2_0).wf = true) → ((Lit.int .i64 a2_1).wf = true) → (a2_2 < 18446744073709551616) → ∃ k,beaconlaw16_ScopedvOwn.f k a0 l1 a2_0 a2_1 a2_2 = some true
end Go.Proofs.Ytjcnmpkaiopihaa.PA
