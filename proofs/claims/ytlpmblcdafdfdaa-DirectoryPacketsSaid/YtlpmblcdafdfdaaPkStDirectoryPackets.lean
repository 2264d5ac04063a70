/- What is to be shown of the law DirectoryPackets, of numbers and lists alone. No condition. -/
import Derived.Test.YtlpmblcdafdfdaaPkDh
import Derived.Test.YtlpmblcdafdfdaaPkOkA
namespace Go.Proofs.Ytlpmblcdafdfdaa.PA
open Go.RowKit Go.Proofs.YtlpmblcdafdfdaaW.PrintWords
set_option linter.unusedVariables false
def beaconlaw20_DirectoryPackets.Pure : Prop := ∀ (a0_0 : Int) (a0_1 : Int) (a0_2 : Int) (a0_3 : Int) (a1 : ByteArray) (l2 : List Int),((Lit.int .i64 a0_0).wf = true) → ((Lit.int .i64 a0_1).wf = true) → ((Lit.int .i64 a0_2).wf = true) → ((Lit.int .u64 a0_3).wf = true) → (a1.size ≤ 140737488351232) → (l2.length * 8 ≤ 140737488351232 ∧ ∀ y ∈ l2,(Lit.int .i64 y).wf = true) → beaconlaw20_DirectoryPackets.f a0_0 a0_1 a0_2 a0_3 a1 l2 = some true
end Go.Proofs.Ytlpmblcdafdfdaa.PA
