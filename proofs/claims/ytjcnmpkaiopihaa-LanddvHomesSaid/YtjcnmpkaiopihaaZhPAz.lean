/- Printed by a program of this session (wip/tools/patch_print.py and pr.py, over the kit's print): each Go function as a plain Lean function, and that the Go code comes to just its answers. Conditions: those that each theorem names. -/
import Derived.Test.YtjcnmpkaiopihaaZhMn
import Derived.Test.YtjcnmpkaiopihaaZhPAx0
import Derived.Test.YtjcnmpkaiopihaaZhPAx2
import Derived.Shelf.SlSortCmp.NoneTotal
import Derived.Ground.SlsfProg
import Derived.Test.YtjcnmpkaiopihaaProg
import Derived.WalkLawsBesides
namespace Go.Proofs.Ytjcnmpkaiopihaa.PA
open Go.RowKit Go.Proofs.YtjcnmpkaiopihaaW.PrintWords Go.Proofs.YtjcnmpkaiopihaaW.PrintLast Go.Proofs.YtjcnmpkaiopihaaW.PrintMore
attribute [local go_sem] max2_int min2_int max_two min_two max_three min_three max_four min_four
set_option linter.unusedVariables false
set_option linter.unusedSimpArgs false
def beaconref06_Before.f (a0_0:Int) (a0_1:Int) (a0_2:Nat) (a0_3:Nat) (a0_4:Int) (a1_0:Int) (a1_1:Int) (a1_2:Nat) (a1_3:Nat) (a1_4:Int):Option (Bool):=if a0_1 < a1_1 then (some true) else (if a0_1 = a1_1 then (some (decide (a0_0 < a1_0))) else (some false))
end Go.Proofs.Ytjcnmpkaiopihaa.PA
namespace Go.Proofs.Ytjcnmpkaiopihaa.PA
open Go.Shelf Go.RowKit Go.Lib Go.Sort Go.Proofs.YtjcnmpkaiopihaaW.PrintWords Go.Proofs.YtjcnmpkaiopihaaW.PrintLast Go.Proofs.YtjcnmpkaiopihaaW.PrintMore
set_option linter.unusedVariables false
set_option linter.unusedSimpArgs false
def SmallE (x : S58) : Prop := 0 ≤ x.f1 ∧ x.f1 ≤ 4611686018427387904 ∧ 0 ≤ x.f0 ∧ x.f0 ≤ 4611686018427387904
abbrev ES := { x : S58 // SmallE x }
instance : Inhabited ES := ⟨⟨z58,by unfold SmallE z58;decide⟩⟩
end Go.Proofs.Ytjcnmpkaiopihaa.PA
namespace Go.Proofs.Ytjcnmpkaiopihaa.PA
open Go.RowKit Go.Proofs.YtjcnmpkaiopihaaW.PrintWords Go.Proofs.YtjcnmpkaiopihaaW.PrintLast Go.Proofs.YtjcnmpkaiopihaaW.PrintMore
theorem k54_mkF (W : World) (ok : Nat → Prop) (x : S54) {A2 : Option Addr} {c2 : Nat} (l2 : x.f2.length ≤ c2) (g2 : Kd.F k56 W ok A2 x.f2.length x.f2) : Kd.FK k54 W ok x [.int .i64 x.f0,.float .f64 x.f1,.slice A2 x.f2.length c2] := fun W2 hW => k54_mk W2 x l2 (g2 W2 hW)
end Go.Proofs.Ytjcnmpkaiopihaa.PA
