/- DirectoryTells, of numbers and lists alone. No condition. -/
import Derived.Test.YtlpmblcdafdfdaaTeStDirectoryTells
namespace Go.Proofs.Ytlpmblcdafdfdaa.PA
open Go.RowKit Go.Proofs.YtlpmblcdafdfdaaW.PrintWords
set_option linter.unusedVariables false
theorem DirectoryTells_pure : beaconlaw20_DirectoryTells.Pure := by
  unfold beaconlaw20_DirectoryTells.Pure
  intros
  rfl
end Go.Proofs.Ytlpmblcdafdfdaa.PA
