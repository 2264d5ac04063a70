/- What is to be shown of the law DirectoryTells, of numbers and lists alone. No condition. -/
import Derived.Test.YtlpmblcdafdfdaaTeDp
import Derived.Test.YtlpmblcdafdfdaaTeOkA
namespace Go.Proofs.Ytlpmblcdafdfdaa.PA
open Go.RowKit Go.Proofs.YtlpmblcdafdfdaaW.PrintWords
set_option linter.unusedVariables false
def beaconlaw20_DirectoryTells.Pure : Prop := ∀ (a0 : Int) (l1 : List S46) (a2 : ByteArray),((Lit.int .i64 a0).wf = true) → (l1.length * 160 ≤ 140737488351232 ∧ ∀ y ∈ l1,ok46 y) → (a2.size ≤ 140737488351232) → beaconlaw20_DirectoryTells.f a0 l1 a2 = some true
end Go.Proofs.Ytlpmblcdafdfdaa.PA
