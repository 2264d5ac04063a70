/- Who keeps a name, in plain terms: the document's Draw is drawV. Conditions: lists of fewer than 2^63 routers. -/
import Derived.Test.YtlpmblcdafdfdaaYyDr
import Derived.Test.YtlpmblcdafdfdaaYyPAx7
import Derived.Test.YtlpmblcdafdfdaaYpPAx0
import Derived.Test.YtlpmblcdafdfdaaYpPAx6
namespace Go.Proofs.Ytlpmblcdafdfdaa.PA
open Go.RowKit Go.Proofs.YtlpmblcdafdfdaaW.PrintWords Go.Proofs.YtlpmblcdafdfdaaW.PrintLast Go.Proofs.YtlpmblcdafdfdaaW.PrintMore
set_option linter.unusedVariables false
set_option linter.unusedSimpArgs false
theorem rid_f (x : Int) : beaconref02_CheckId.f x = some (idV x) := by
  unfold beaconref02_CheckId.f idV badId
  by_cases h1 : x < 1 <;> by_cases h2 : x > 2147483647 <;> simp [h1,h2] <;> omega
section
variable (ah : Int → Int → Bool)
variable (tr : ∀ x y z,ah x y = false → ah y z = false → ah x z = false) (asy : ∀ x y,ah x y = true → ah y x = false) (slf : ∀ x,ah x x = false)
include tr asy slf
end
end Go.Proofs.Ytlpmblcdafdfdaa.PA
