/- What is to be shown of the law DirectoryPlays, of numbers and lists alone. No condition. -/
import Derived.Test.YtlpmblcdafdfdaaYyDx
import Derived.Test.YtlpmblcdafdfdaaYyOkA
namespace Go.Proofs.Ytlpmblcdafdfdaa.PA
open Go.RowKit Go.Proofs.YtlpmblcdafdfdaaW.PrintWords
set_option linter.unusedVariables false
def beaconlaw20_DirectoryPlays.Pure : Prop := ∀ (a0 : Int) (l1 : List S46),((Lit.int .i64 a0).wf = true) → (l1.length * 160 ≤ 140737488351232 ∧ ∀ y ∈ l1,ok46 y) → beaconlaw20_DirectoryPlays.f a0 l1 = some true
end Go.Proofs.Ytlpmblcdafdfdaa.PA
namespace Go.Proofs.Ytlpmblcdafdfdaa.PA
open Go.RowKit Go.Proofs.YtlpmblcdafdfdaaW.PrintWords
set_option linter.unusedVariables false
theorem DirectoryPlays_pure : beaconlaw20_DirectoryPlays.Pure := by
  unfold beaconlaw20_DirectoryPlays.Pure
  intros
  rfl
end Go.Proofs.Ytlpmblcdafdfdaa.PA
