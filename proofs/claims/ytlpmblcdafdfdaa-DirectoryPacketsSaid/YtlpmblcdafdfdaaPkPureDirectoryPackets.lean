/- DirectoryPackets, of numbers and lists alone. No condition. -/
import Derived.Test.YtlpmblcdafdfdaaPkStDirectoryPackets
namespace Go.Proofs.Ytlpmblcdafdfdaa.PA
open Go.RowKit Go.Proofs.YtlpmblcdafdfdaaW.PrintWords
set_option linter.unusedVariables false
theorem DirectoryPackets_pure : beaconlaw20_DirectoryPackets.Pure := by
  unfold beaconlaw20_DirectoryPackets.Pure
  intros
  rfl
end Go.Proofs.Ytlpmblcdafdfdaa.PA
