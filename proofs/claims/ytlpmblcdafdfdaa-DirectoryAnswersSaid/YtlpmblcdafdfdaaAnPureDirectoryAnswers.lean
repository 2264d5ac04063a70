/- DirectoryAnswers, of numbers and lists alone. No condition. -/
import Derived.Test.YtlpmblcdafdfdaaAnStDirectoryAnswers
namespace Go.Proofs.Ytlpmblcdafdfdaa.PA
open Go.RowKit Go.Proofs.YtlpmblcdafdfdaaW.PrintWords
set_option linter.unusedVariables false
theorem DirectoryAnswers_pure : beaconlaw20_DirectoryAnswers.Pure := by
  unfold beaconlaw20_DirectoryAnswers.Pure
  intros
  rfl
end Go.Proofs.Ytlpmblcdafdfdaa.PA
