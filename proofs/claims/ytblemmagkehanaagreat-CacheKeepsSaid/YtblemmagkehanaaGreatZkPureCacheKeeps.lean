/- What is to be shown of the law CacheKeeps, of numbers and lists alone. No condition. -/
import Derived.Test.YtblemmagkehanaaGreatZkEg
import Derived.Test.YtblemmagkehanaaGreatZkGi
namespace Go.Proofs.YtblemmagkehanaaGreat.PA
open Go.RowKit Go.Proofs.YtblemmagkehanaaGreatW.PrintWords
set_option linter.unusedVariables false
def beaconlaw13_CacheKeeps.Pure : Prop := ∀ (l0 : List S31) (a1 : Int) (l2 : List S61),(l0.length * 48 ≤ 140737488351232 ∧ ∀ y ∈ l0,ok31 y) → ((Lit.int .i64 a1).wf = true) → (l2.length * 40 ≤ 140737488351232 ∧ ∀ y ∈ l2,ok61 y) → beaconlaw13_CacheKeeps.f l0 a1 l2 = some true
end Go.Proofs.YtblemmagkehanaaGreat.PA
namespace Go.Proofs.YtblemmagkehanaaGreat.PA
open Go.RowKit Go.Proofs.YtblemmagkehanaaGreatW.PrintWords
set_option linter.unusedVariables false
open Classical
theorem actsK_ok {l : List S31} (h : l.length * 48 ≤ 140737488351232 ∧ ∀ y ∈ l,ok31 y) : ActsW l := by
  intro a ha;obtain ⟨_,_,h2,h3,h4⟩ := h.2 a ha;exact ⟨h2,fun n hn => ⟨(h4 n hn).2.2.1,(h4 n hn).2.2.2.1⟩,by omega⟩
theorem CacheKeeps_pure : beaconlaw13_CacheKeeps.Pure := by
  intro l id ns h hi hn;unfold beaconlaw13_CacheKeeps.f;rw [if_pos ⟨actsK_ok h,fun n hm => ⟨(hn.2 n hm).2.2.1,(hn.2 n hm).2.2.2.1⟩,by omega⟩]
end Go.Proofs.YtblemmagkehanaaGreat.PA
