/- What is to be shown of the law DirectoryAnswers, of numbers and lists alone. No condition. -/
import Derived.Test.YtlpmblcdafdfdaaAnDq
import Derived.Test.YtlpmblcdafdfdaaAnOkA
namespace Go.Proofs.Ytlpmblcdafdfdaa.PA
open Go.RowKit Go.Proofs.YtlpmblcdafdfdaaW.PrintWords
set_option linter.unusedVariables false
def beaconlaw20_DirectoryAnswers.Pure : Prop := ∀ (a0_0 : Int) (a0_1 : Int) (a0_2 : Int) (a0_3 : Int) (a0_4 : Int) (a0_5 : Int) (a0_6 : Int) (a0_7 : Int) (a1 : ByteArray) (l2_0 : List Int) (a2_1 : Int) (a2_2 : Int),((Lit.int .i64 a0_0).wf = true) → ((Lit.int .i64 a0_1).wf = true) → ((Lit.int .i64 a0_2).wf = true) → ((Lit.int .u64 a0_3).wf = true) → ((Lit.int .i64 a0_4).wf = true) → ((Lit.int .i64 a0_5).wf = true) → ((Lit.int .i64 a0_6).wf = true) → ((Lit.int .u64 a0_7).wf = true) → (a1.size ≤ 140737488351232) → (l2_0.length * 8 ≤ 140737488351232 ∧ ∀ y ∈ l2_0,(Lit.int .i64 y).wf = true) → ((Lit.int .i64 a2_1).wf = true) → ((Lit.int .i64 a2_2).wf = true) → beaconlaw20_DirectoryAnswers.f a0_0 a0_1 a0_2 a0_3 a0_4 a0_5 a0_6 a0_7 a1 l2_0 a2_1 a2_2 = some true
end Go.Proofs.Ytlpmblcdafdfdaa.PA
