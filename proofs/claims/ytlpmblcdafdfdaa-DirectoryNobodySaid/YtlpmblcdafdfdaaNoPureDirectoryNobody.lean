/- DirectoryNobody, of numbers alone. No condition. -/
import Derived.Test.YtlpmblcdafdfdaaNoStDirectoryNobody
namespace Go.Proofs.Ytlpmblcdafdfdaa.PA
open Go.RowKit Go.Proofs.YtlpmblcdafdfdaaW.PrintWords
set_option linter.unusedVariables false
theorem DirectoryNobody_pure : beaconlaw20_DirectoryNobody.Pure := fun _ _ _ _ _ _ _ _ _ _ _ _ _ _ _ _ _ _ _ _ _ _ _ _ _ _ _ _ _ _ _ _ _ _ => rfl
end Go.Proofs.Ytlpmblcdafdfdaa.PA
