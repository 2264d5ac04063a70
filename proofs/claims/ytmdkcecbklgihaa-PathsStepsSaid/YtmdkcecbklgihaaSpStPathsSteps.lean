/- What is to be shown of the law PathsSteps, of numbers and lists alone. No condition. -/
import Derived.Test.YtmdkcecbklgihaaSpX
import Derived.Test.YtmdkcecbklgihaaSpPAx14
import Derived.Test.YtmdkcecbklgihaaSpOkA
namespace Go.Proofs.Ytmdkcecbklgihaa.PA
open Go.RowKit Go.Proofs.YtmdkcecbklgihaaW.PrintWords
set_option linter.unusedVariables false
def beaconlaw08_PathsSteps.Pure : Prop := ∀ (l0_0 : List S40) (l0_1 : List S74) (a1 : Nat) (a2_0 : Int) (a2_1 : Int),(l0_0.length * 16 ≤ 140737488351232 ∧ ∀ y ∈ l0_0,ok40 y) → (l0_1.length * 32 ≤ 140737488351232 ∧ ∀ y ∈ l0_1,ok74 y) → (a1 < 18446744073709551616) → ((Lit.int .i64 a2_0).wf = true) → ((Lit.int .i64 a2_1).wf = true) → ∃ k,beaconlaw08_PathsSteps.f k l0_0 l0_1 a1 a2_0 a2_1 = some true
end Go.Proofs.Ytmdkcecbklgihaa.PA
