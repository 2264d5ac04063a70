/- What is to be shown of the law PathsNear, of numbers and lists alone. No condition. -/
import Derived.Test.YtmdkcecbklgihaaNePAx15
import Derived.Test.YtmdkcecbklgihaaNeOkA
namespace Go.Proofs.Ytmdkcecbklgihaa.PA
open Go.RowKit Go.Proofs.YtmdkcecbklgihaaW.PrintWords
set_option linter.unusedVariables false
def beaconlaw08_PathsNear.Pure : Prop := ∀ (l0_0 : List S40) (l0_1 : List S74) (a1_0 : Nat) (a1_1 : Nat) (a2 : Int),(l0_0.length * 16 ≤ 140737488351232 ∧ ∀ y ∈ l0_0,ok40 y) → (l0_1.length * 32 ≤ 140737488351232 ∧ ∀ y ∈ l0_1,ok74 y) → (a1_0 < 18446744073709551616) → (a1_1 < 18446744073709551616) → ((Lit.int .i64 a2).wf = true) → ∃ k,beaconlaw08_PathsNear.f k l0_0 l0_1 a1_0 a1_1 a2 = some true
end Go.Proofs.Ytmdkcecbklgihaa.PA
