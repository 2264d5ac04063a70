/- What is to be shown of the law PathsComponents, of numbers and lists alone. No condition. -/
import Derived.Test.YtmdkcecbklgihaaCoPAx24
import Derived.Test.YtmdkcecbklgihaaCoOkA
namespace Go.Proofs.Ytmdkcecbklgihaa.PA
open Go.RowKit Go.Proofs.YtmdkcecbklgihaaW.PrintWords
set_option linter.unusedVariables false
def beaconlaw08_PathsComponents.Pure : Prop := ∀ (l0_0 : List S40) (l0_1 : List S74) (a1 : Nat),(l0_0.length * 16 ≤ 140737488351232 ∧ ∀ y ∈ l0_0,ok40 y) → (l0_1.length * 32 ≤ 140737488351232 ∧ ∀ y ∈ l0_1,ok74 y) → (a1 < 18446744073709551616) → ∃ k,beaconlaw08_PathsComponents.f k l0_0 l0_1 a1 = some true
end Go.Proofs.Ytmdkcecbklgihaa.PA
