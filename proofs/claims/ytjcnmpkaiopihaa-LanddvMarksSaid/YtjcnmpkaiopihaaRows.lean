/-
  No cell of these rows narrows 'for every input' (looked for: loops, veiled, ifaces, maps, wideKeys, modest, calm, conditions, laid).
  DERIVED. THE GIVEN ROWS OF THIS SEAT. 6 by the template 'for every input the law returns true; each argument reads behind the call as it read before'; 0 by the template 'total and deterministic' (their statements: YtjcnmpkaiopihaaTotals.lean).
  GIVEN WITH THE SEED: the statements are not yours to turn. If you find one false, say at which input.
  Laid BY PROGRAM, IN A SANDBOX (cutbox-rows.mjs): the forced cells as the released guide's own fill.sh prints them over the translation 4c490a0d7b9645be… (all of the seat's roots in one cut). By AI agents, Wed Nov 11 2026. No macro, syntax, notation, axiom, sorry.
-/
import Derived.Test.YtjcnmpkaiopihaaChecked
import GoSem.Claim
import GoSem.ClaimJoined
import GoSem.ClaimMapViews
import Derived.JoinedTies
import Derived.KernelRfl
namespace Go.Proofs.Ytjcnmpkaiopihaa
/- THE CELL 'sum', in the pinned program and in every row, IS THE sha256 OF THE DUMP (.gsa) THAT YtjcnmpkaiopihaaProg.lean LOADS. Nothing in Lean hashes anything: it is a label: what it is worth is what the hold of that sum in a sandbox is worth. -/
noncomputable def Try.pinned : Pinned := { name := "ytjcnmpkaiopihaa", sum := "4c490a0d7b9645be533d8576d31e1be02d3860643df5ebe937dbd6f5384b98b4", checked := Try.checked }
namespace Rows
def none {H : Type} : Left H := { results := [], args := [] }

/-- 'beaconlaw16.ScopedvBalls': WHATEVER THE INPUT: true; the input reads as it did. -/
def scopedvBallsSpec : ChangeSpec := { name := "scopedvBalls", fn := fun _ => fun
  | [d1, d2, d3] => { results := [.lit (.bool true)], args := [d1, d2, d3] }
  | _ => none }
def scopedvBallsRow : OpenClaim := { program := "ytjcnmpkaiopihaa", sum := "4c490a0d7b9645be533d8576d31e1be02d3860643df5ebe937dbd6f5384b98b4", func := "beacon/beaconlaw16.ScopedvBalls", spec := "scopedvBalls", inPlace := ["math.Float64bits", "math.Float64frombits", "math.archTrunc"], unfollowed := true, recurses := true, apart := false }
def ScopedvBallsSaid : Prop := scopedvBallsRow.holds Try.pinned (OpenSpec.ofChange scopedvBallsSpec)

/-- ITS FALSE NEIGHBOUR: 'it returns false'. Refute it at one input. -/
def scopedvBallsWrong : ChangeSpec := { name := "scopedvBalls", fn := fun _ => fun
  | [d1, d2, d3] => { results := [.lit (.bool false)], args := [d1, d2, d3] }
  | _ => none }
def ScopedvBallsWrongFalsely : Prop := scopedvBallsRow.holds Try.pinned (OpenSpec.ofChange scopedvBallsWrong)

/-- 'beaconlaw15.LanddvMarks': WHATEVER THE INPUT: true; the input reads as it did. -/
def landdvMarksSpec : ChangeSpec := { name := "landdvMarks", fn := fun _ => fun
  | [d1, d2, d3] => { results := [.lit (.bool true)], args := [d1, d2, d3] }
  | _ => none }
def landdvMarksRow : OpenClaim := { program := "ytjcnmpkaiopihaa", sum := "4c490a0d7b9645be533d8576d31e1be02d3860643df5ebe937dbd6f5384b98b4", func := "beacon/beaconlaw15.LanddvMarks", spec := "landdvMarks", inPlace := ["math.Float64bits", "math.Float64frombits", "math.archTrunc"], unfollowed := true, recurses := true, apart := false }
def LanddvMarksSaid : Prop := landdvMarksRow.holds Try.pinned (OpenSpec.ofChange landdvMarksSpec)

/-- ITS FALSE NEIGHBOUR: 'it returns false'. Refute it at one input. -/
def landdvMarksWrong : ChangeSpec := { name := "landdvMarks", fn := fun _ => fun
  | [d1, d2, d3] => { results := [.lit (.bool false)], args := [d1, d2, d3] }
  | _ => none }
def LanddvMarksWrongFalsely : Prop := landdvMarksRow.holds Try.pinned (OpenSpec.ofChange landdvMarksWrong)

/-- 'beaconlaw16.ScopedvTells': WHATEVER THE INPUT: true; the input reads as it did. -/
def scopedvTellsSpec : ChangeSpec := { name := "scopedvTells", fn := fun _ => fun
  | [d1, d2, d3] => { results := [.lit (.bool true)], args := [d1, d2, d3] }
  | _ => none }
def scopedvTellsRow : OpenClaim := { program := "ytjcnmpkaiopihaa", sum := "4c490a0d7b9645be533d8576d31e1be02d3860643df5ebe937dbd6f5384b98b4", func := "beacon/beaconlaw16.ScopedvTells", spec := "scopedvTells", inPlace := ["math.Float64bits", "math.Float64frombits", "math.archTrunc"], unfollowed := true, recurses := true, apart := false }
def ScopedvTellsSaid : Prop := scopedvTellsRow.holds Try.pinned (OpenSpec.ofChange scopedvTellsSpec)

/-- ITS FALSE NEIGHBOUR: 'it returns false'. Refute it at one input. -/
def scopedvTellsWrong : ChangeSpec := { name := "scopedvTells", fn := fun _ => fun
  | [d1, d2, d3] => { results := [.lit (.bool false)], args := [d1, d2, d3] }
  | _ => none }
def ScopedvTellsWrongFalsely : Prop := scopedvTellsRow.holds Try.pinned (OpenSpec.ofChange scopedvTellsWrong)

/-- 'beaconlaw16.ScopedvOwn': WHATEVER THE INPUT: true; the input reads as it did. -/
def scopedvOwnSpec : ChangeSpec := { name := "scopedvOwn", fn := fun _ => fun
  | [d1, d2, d3] => { results := [.lit (.bool true)], args := [d1, d2, d3] }
  | _ => none }
def scopedvOwnRow : OpenClaim := { program := "ytjcnmpkaiopihaa", sum := "4c490a0d7b9645be533d8576d31e1be02d3860643df5ebe937dbd6f5384b98b4", func := "beacon/beaconlaw16.ScopedvOwn", spec := "scopedvOwn", inPlace := ["math.Float64bits", "math.Float64frombits", "math.archTrunc"], unfollowed := true, recurses := true, apart := false }
def ScopedvOwnSaid : Prop := scopedvOwnRow.holds Try.pinned (OpenSpec.ofChange scopedvOwnSpec)

/-- ITS FALSE NEIGHBOUR: 'it returns false'. Refute it at one input. -/
def scopedvOwnWrong : ChangeSpec := { name := "scopedvOwn", fn := fun _ => fun
  | [d1, d2, d3] => { results := [.lit (.bool false)], args := [d1, d2, d3] }
  | _ => none }
def ScopedvOwnWrongFalsely : Prop := scopedvOwnRow.holds Try.pinned (OpenSpec.ofChange scopedvOwnWrong)

/-- 'beaconlaw15.LanddvHomes': WHATEVER THE INPUT: true; the input reads as it did. -/
def landdvHomesSpec : ChangeSpec := { name := "landdvHomes", fn := fun _ => fun
  | [d1, d2, d3] => { results := [.lit (.bool true)], args := [d1, d2, d3] }
  | _ => none }
def landdvHomesRow : OpenClaim := { program := "ytjcnmpkaiopihaa", sum := "4c490a0d7b9645be533d8576d31e1be02d3860643df5ebe937dbd6f5384b98b4", func := "beacon/beaconlaw15.LanddvHomes", spec := "landdvHomes", inPlace := ["math.Float64bits", "math.Float64frombits", "math.archTrunc"], unfollowed := true, recurses := true, apart := false }
def LanddvHomesSaid : Prop := landdvHomesRow.holds Try.pinned (OpenSpec.ofChange landdvHomesSpec)

/-- ITS FALSE NEIGHBOUR: 'it returns false'. Refute it at one input. -/
def landdvHomesWrong : ChangeSpec := { name := "landdvHomes", fn := fun _ => fun
  | [d1, d2, d3] => { results := [.lit (.bool false)], args := [d1, d2, d3] }
  | _ => none }
def LanddvHomesWrongFalsely : Prop := landdvHomesRow.holds Try.pinned (OpenSpec.ofChange landdvHomesWrong)

/-- 'beaconlaw15.LanddvTells': WHATEVER THE INPUT: true; the input reads as it did. -/
def landdvTellsSpec : ChangeSpec := { name := "landdvTells", fn := fun _ => fun
  | [d1, d2, d3] => { results := [.lit (.bool true)], args := [d1, d2, d3] }
  | _ => none }
def landdvTellsRow : OpenClaim := { program := "ytjcnmpkaiopihaa", sum := "4c490a0d7b9645be533d8576d31e1be02d3860643df5ebe937dbd6f5384b98b4", func := "beacon/beaconlaw15.LanddvTells", spec := "landdvTells", inPlace := ["math.Float64bits", "math.Float64frombits", "math.archTrunc"], unfollowed := true, recurses := true, apart := false }
def LanddvTellsSaid : Prop := landdvTellsRow.holds Try.pinned (OpenSpec.ofChange landdvTellsSpec)

/-- ITS FALSE NEIGHBOUR: 'it returns false'. Refute it at one input. -/
def landdvTellsWrong : ChangeSpec := { name := "landdvTells", fn := fun _ => fun
  | [d1, d2, d3] => { results := [.lit (.bool false)], args := [d1, d2, d3] }
  | _ => none }
def LanddvTellsWrongFalsely : Prop := landdvTellsRow.holds Try.pinned (OpenSpec.ofChange landdvTellsWrong)

/- THE SECOND FORM. 'bulk': how many values and letters a reading holds, each counted each time it is reached (what is shared counts as often as it is met; a slice's spare places count too). A statement '..UptoSaid' is the law's where the arguments, and the package variables that the reading takes, are together of bulk at most 1048576: NARROWER than '..Said'. Prove '..Said' where nothing that the law and all that it calls make is longer than what came in: it says more and counts as full. Else prove '..UptoSaid'. A law counts once. -/
mutual
def uptoBulk {H : Type} : DataW H → Nat
  | .lit (.string bytes) => bytes.length + 1
  | .lit _ => 1
  | .nil => 1
  | .ptr d => uptoBulk d + 1
  | .slice elems spare => uptoBulkAll elems + uptoBulkAll spare + 1
  | .agg parts => uptoBulkAll parts + 1
  | .iface _ d => uptoBulk d + 1
  | .map entries => uptoBulkEntries entries + 1
  | .held _ => 1
def uptoBulkAll {H : Type} : List (DataW H) → Nat
  | [] => 0
  | d :: r => uptoBulk d + uptoBulkAll r
def uptoBulkEntries {H : Type} : List (Lit × DataW H) → Nat
  | [] => 0
  | x :: r => uptoBulkEntry x + uptoBulkEntries r
def uptoBulkEntry {H : Type} : Lit × DataW H → Nat
  | (.string bytes, d) => bytes.length + uptoBulk d + 1
  | (_, d) => uptoBulk d + 1
 end
def uptoSmall : (H : Type) → List (DataW H) → Bool := fun _ ds => decide (uptoBulkAll ds ≤ 1048576)
def OpenSpec.upto (s : _root_.Go.ChangeSpec) : _root_.Go.OpenSpec := { _root_.Go.OpenSpec.ofChange s with cond := some uptoSmall }

/-- 'beaconlaw16.ScopedvBalls', WHERE WHAT IT READS IS OF BULK AT MOST 1048576: true; the input reads as it did. -/
def scopedvBallsUptoRow : OpenClaim := { program := "ytjcnmpkaiopihaa", sum := "4c490a0d7b9645be533d8576d31e1be02d3860643df5ebe937dbd6f5384b98b4", func := "beacon/beaconlaw16.ScopedvBalls", spec := "scopedvBalls", inPlace := ["math.Float64bits", "math.Float64frombits", "math.archTrunc"], unfollowed := true, recurses := true, apart := false, narrowed := true }
def ScopedvBallsUptoSaid : Prop := scopedvBallsUptoRow.holds Try.pinned (OpenSpec.upto scopedvBallsSpec)

/-- 'beaconlaw15.LanddvMarks', WHERE WHAT IT READS IS OF BULK AT MOST 1048576: true; the input reads as it did. -/
def landdvMarksUptoRow : OpenClaim := { program := "ytjcnmpkaiopihaa", sum := "4c490a0d7b9645be533d8576d31e1be02d3860643df5ebe937dbd6f5384b98b4", func := "beacon/beaconlaw15.LanddvMarks", spec := "landdvMarks", inPlace := ["math.Float64bits", "math.Float64frombits", "math.archTrunc"], unfollowed := true, recurses := true, apart := false, narrowed := true }
def LanddvMarksUptoSaid : Prop := landdvMarksUptoRow.holds Try.pinned (OpenSpec.upto landdvMarksSpec)

/-- 'beaconlaw16.ScopedvTells', WHERE WHAT IT READS IS OF BULK AT MOST 1048576: true; the input reads as it did. -/
def scopedvTellsUptoRow : OpenClaim := { program := "ytjcnmpkaiopihaa", sum := "4c490a0d7b9645be533d8576d31e1be02d3860643df5ebe937dbd6f5384b98b4", func := "beacon/beaconlaw16.ScopedvTells", spec := "scopedvTells", inPlace := ["math.Float64bits", "math.Float64frombits", "math.archTrunc"], unfollowed := true, recurses := true, apart := false, narrowed := true }
def ScopedvTellsUptoSaid : Prop := scopedvTellsUptoRow.holds Try.pinned (OpenSpec.upto scopedvTellsSpec)

/-- 'beaconlaw16.ScopedvOwn', WHERE WHAT IT READS IS OF BULK AT MOST 1048576: true; the input reads as it did. -/
def scopedvOwnUptoRow : OpenClaim := { program := "ytjcnmpkaiopihaa", sum := "4c490a0d7b9645be533d8576d31e1be02d3860643df5ebe937dbd6f5384b98b4", func := "beacon/beaconlaw16.ScopedvOwn", spec := "scopedvOwn", inPlace := ["math.Float64bits", "math.Float64frombits", "math.archTrunc"], unfollowed := true, recurses := true, apart := false, narrowed := true }
def ScopedvOwnUptoSaid : Prop := scopedvOwnUptoRow.holds Try.pinned (OpenSpec.upto scopedvOwnSpec)

/-- 'beaconlaw15.LanddvHomes', WHERE WHAT IT READS IS OF BULK AT MOST 1048576: true; the input reads as it did. -/
def landdvHomesUptoRow : OpenClaim := { program := "ytjcnmpkaiopihaa", sum := "4c490a0d7b9645be533d8576d31e1be02d3860643df5ebe937dbd6f5384b98b4", func := "beacon/beaconlaw15.LanddvHomes", spec := "landdvHomes", inPlace := ["math.Float64bits", "math.Float64frombits", "math.archTrunc"], unfollowed := true, recurses := true, apart := false, narrowed := true }
def LanddvHomesUptoSaid : Prop := landdvHomesUptoRow.holds Try.pinned (OpenSpec.upto landdvHomesSpec)

/-- 'beaconlaw15.LanddvTells', WHERE WHAT IT READS IS OF BULK AT MOST 1048576: true; the input reads as it did. -/
def landdvTellsUptoRow : OpenClaim := { program := "ytjcnmpkaiopihaa", sum := "4c490a0d7b9645be533d8576d31e1be02d3860643df5ebe937dbd6f5384b98b4", func := "beacon/beaconlaw15.LanddvTells", spec := "landdvTells", inPlace := ["math.Float64bits", "math.Float64frombits", "math.archTrunc"], unfollowed := true, recurses := true, apart := false, narrowed := true }
def LanddvTellsUptoSaid : Prop := landdvTellsUptoRow.holds Try.pinned (OpenSpec.upto landdvTellsSpec)

end Rows
end Go.Proofs.Ytjcnmpkaiopihaa
