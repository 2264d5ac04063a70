/-
  No cell of these rows narrows 'for every input' (looked for: loops, veiled, ifaces, maps, wideKeys, modest, calm, conditions, laid).
  DERIVED. THE GIVEN ROWS OF THIS SEAT. 8 by the template 'for every input the law returns true; each argument reads behind the call as it read before'; 0 by the template 'total and deterministic' (their statements: YtmdkcecbklgihaaTotals.lean).
  GIVEN WITH THE SEED: the statements are not yours to turn. If you find one false, say at which input.
  Laid BY PROGRAM, IN A SANDBOX (cutbox-rows.mjs): the forced cells as the released guide's own fill.sh prints them over the translation 3af03c178a61fe55… (all of the seat's roots in one cut). By AI agents, Wed Nov 11 2026. No macro, syntax, notation, axiom, sorry.
-/
import Derived.Test.YtmdkcecbklgihaaChecked
import GoSem.Claim
import GoSem.ClaimJoined
import GoSem.ClaimMapViews
import Derived.JoinedTies
import Derived.KernelRfl
namespace Go.Proofs.Ytmdkcecbklgihaa
/- THE CELL 'sum', in the pinned program and in every row, IS THE sha256 OF THE DUMP (.gsa) THAT YtmdkcecbklgihaaProg.lean LOADS. Nothing in Lean hashes anything: it is a label: what it is worth is what the hold of that sum in a sandbox is worth. -/
noncomputable def Try.pinned : Pinned := { name := "ytmdkcecbklgihaa", sum := "3af03c178a61fe55b36856aff829b7cdfcf26bb43dfdaad31155ad7d74c470bf", checked := Try.checked }
namespace Rows
def none {H : Type} : Left H := { results := [], args := [] }

/-- 'beaconlaw08.PathsNexts': WHATEVER THE INPUT: true; the input reads as it did. -/
def pathsNextsSpec : ChangeSpec := { name := "pathsNexts", fn := fun _ => fun
  | [d1, d2, d3] => { results := [.lit (.bool true)], args := [d1, d2, d3] }
  | _ => none }
def pathsNextsRow : OpenClaim := { program := "ytmdkcecbklgihaa", sum := "3af03c178a61fe55b36856aff829b7cdfcf26bb43dfdaad31155ad7d74c470bf", func := "beacon/beaconlaw08.PathsNexts", spec := "pathsNexts", inPlace := ["math.Float64bits", "math.Float64frombits", "math.archTrunc"], unfollowed := true, recurses := true, apart := false }
def PathsNextsSaid : Prop := pathsNextsRow.holds Try.pinned (OpenSpec.ofChange pathsNextsSpec)

/-- ITS FALSE NEIGHBOUR: 'it returns false'. Refute it at one input. -/
def pathsNextsWrong : ChangeSpec := { name := "pathsNexts", fn := fun _ => fun
  | [d1, d2, d3] => { results := [.lit (.bool false)], args := [d1, d2, d3] }
  | _ => none }
def PathsNextsWrongFalsely : Prop := pathsNextsRow.holds Try.pinned (OpenSpec.ofChange pathsNextsWrong)

/-- 'beaconlaw08.PathsDists': WHATEVER THE INPUT: true; the input reads as it did. -/
def pathsDistsSpec : ChangeSpec := { name := "pathsDists", fn := fun _ => fun
  | [d1, d2, d3] => { results := [.lit (.bool true)], args := [d1, d2, d3] }
  | _ => none }
def pathsDistsRow : OpenClaim := { program := "ytmdkcecbklgihaa", sum := "3af03c178a61fe55b36856aff829b7cdfcf26bb43dfdaad31155ad7d74c470bf", func := "beacon/beaconlaw08.PathsDists", spec := "pathsDists", inPlace := ["math.Float64bits", "math.Float64frombits", "math.archTrunc"], unfollowed := true, recurses := true, apart := false }
def PathsDistsSaid : Prop := pathsDistsRow.holds Try.pinned (OpenSpec.ofChange pathsDistsSpec)

/-- ITS FALSE NEIGHBOUR: 'it returns false'. Refute it at one input. -/
def pathsDistsWrong : ChangeSpec := { name := "pathsDists", fn := fun _ => fun
  | [d1, d2, d3] => { results := [.lit (.bool false)], args := [d1, d2, d3] }
  | _ => none }
def PathsDistsWrongFalsely : Prop := pathsDistsRow.holds Try.pinned (OpenSpec.ofChange pathsDistsWrong)

/-- 'beaconlaw08.PathsTriangle': WHATEVER THE INPUT: true; the input reads as it did. -/
def pathsTriangleSpec : ChangeSpec := { name := "pathsTriangle", fn := fun _ => fun
  | [d1, d2, d3] => { results := [.lit (.bool true)], args := [d1, d2, d3] }
  | _ => none }
def pathsTriangleRow : OpenClaim := { program := "ytmdkcecbklgihaa", sum := "3af03c178a61fe55b36856aff829b7cdfcf26bb43dfdaad31155ad7d74c470bf", func := "beacon/beaconlaw08.PathsTriangle", spec := "pathsTriangle", inPlace := ["math.Float64bits", "math.Float64frombits", "math.archTrunc"], unfollowed := true, recurses := true, apart := false }
def PathsTriangleSaid : Prop := pathsTriangleRow.holds Try.pinned (OpenSpec.ofChange pathsTriangleSpec)

/-- ITS FALSE NEIGHBOUR: 'it returns false'. Refute it at one input. -/
def pathsTriangleWrong : ChangeSpec := { name := "pathsTriangle", fn := fun _ => fun
  | [d1, d2, d3] => { results := [.lit (.bool false)], args := [d1, d2, d3] }
  | _ => none }
def PathsTriangleWrongFalsely : Prop := pathsTriangleRow.holds Try.pinned (OpenSpec.ofChange pathsTriangleWrong)

/-- 'beaconlaw08.PathsLimits': WHATEVER THE INPUT: true; the input reads as it did. -/
def pathsLimitsSpec : ChangeSpec := { name := "pathsLimits", fn := fun _ => fun
  | [d1, d2, d3] => { results := [.lit (.bool true)], args := [d1, d2, d3] }
  | _ => none }
def pathsLimitsRow : OpenClaim := { program := "ytmdkcecbklgihaa", sum := "3af03c178a61fe55b36856aff829b7cdfcf26bb43dfdaad31155ad7d74c470bf", func := "beacon/beaconlaw08.PathsLimits", spec := "pathsLimits", inPlace := ["math.Float64bits", "math.Float64frombits", "math.archTrunc"], unfollowed := true, recurses := true, apart := false }
def PathsLimitsSaid : Prop := pathsLimitsRow.holds Try.pinned (OpenSpec.ofChange pathsLimitsSpec)

/-- ITS FALSE NEIGHBOUR: 'it returns false'. Refute it at one input. -/
def pathsLimitsWrong : ChangeSpec := { name := "pathsLimits", fn := fun _ => fun
  | [d1, d2, d3] => { results := [.lit (.bool false)], args := [d1, d2, d3] }
  | _ => none }
def PathsLimitsWrongFalsely : Prop := pathsLimitsRow.holds Try.pinned (OpenSpec.ofChange pathsLimitsWrong)

/-- 'beaconlaw08.PathsPaths': WHATEVER THE INPUT: true; the input reads as it did. -/
def pathsPathsSpec : ChangeSpec := { name := "pathsPaths", fn := fun _ => fun
  | [d1, d2, d3] => { results := [.lit (.bool true)], args := [d1, d2, d3] }
  | _ => none }
def pathsPathsRow : OpenClaim := { program := "ytmdkcecbklgihaa", sum := "3af03c178a61fe55b36856aff829b7cdfcf26bb43dfdaad31155ad7d74c470bf", func := "beacon/beaconlaw08.PathsPaths", spec := "pathsPaths", inPlace := ["math.Float64bits", "math.Float64frombits", "math.archTrunc"], unfollowed := true, recurses := true, apart := false }
def PathsPathsSaid : Prop := pathsPathsRow.holds Try.pinned (OpenSpec.ofChange pathsPathsSpec)

/-- ITS FALSE NEIGHBOUR: 'it returns false'. Refute it at one input. -/
def pathsPathsWrong : ChangeSpec := { name := "pathsPaths", fn := fun _ => fun
  | [d1, d2, d3] => { results := [.lit (.bool false)], args := [d1, d2, d3] }
  | _ => none }
def PathsPathsWrongFalsely : Prop := pathsPathsRow.holds Try.pinned (OpenSpec.ofChange pathsPathsWrong)

/-- 'beaconlaw08.PathsSteps': WHATEVER THE INPUT: true; the input reads as it did. -/
def pathsStepsSpec : ChangeSpec := { name := "pathsSteps", fn := fun _ => fun
  | [d1, d2, d3] => { results := [.lit (.bool true)], args := [d1, d2, d3] }
  | _ => none }
def pathsStepsRow : OpenClaim := { program := "ytmdkcecbklgihaa", sum := "3af03c178a61fe55b36856aff829b7cdfcf26bb43dfdaad31155ad7d74c470bf", func := "beacon/beaconlaw08.PathsSteps", spec := "pathsSteps", inPlace := ["math.Float64bits", "math.Float64frombits", "math.archTrunc"], unfollowed := true, recurses := true, apart := false }
def PathsStepsSaid : Prop := pathsStepsRow.holds Try.pinned (OpenSpec.ofChange pathsStepsSpec)

/-- ITS FALSE NEIGHBOUR: 'it returns false'. Refute it at one input. -/
def pathsStepsWrong : ChangeSpec := { name := "pathsSteps", fn := fun _ => fun
  | [d1, d2, d3] => { results := [.lit (.bool false)], args := [d1, d2, d3] }
  | _ => none }
def PathsStepsWrongFalsely : Prop := pathsStepsRow.holds Try.pinned (OpenSpec.ofChange pathsStepsWrong)

/-- 'beaconlaw08.PathsNear': WHATEVER THE INPUT: true; the input reads as it did. -/
def pathsNearSpec : ChangeSpec := { name := "pathsNear", fn := fun _ => fun
  | [d1, d2, d3] => { results := [.lit (.bool true)], args := [d1, d2, d3] }
  | _ => none }
def pathsNearRow : OpenClaim := { program := "ytmdkcecbklgihaa", sum := "3af03c178a61fe55b36856aff829b7cdfcf26bb43dfdaad31155ad7d74c470bf", func := "beacon/beaconlaw08.PathsNear", spec := "pathsNear", inPlace := ["math.Float64bits", "math.Float64frombits", "math.archTrunc"], unfollowed := true, recurses := true, apart := false }
def PathsNearSaid : Prop := pathsNearRow.holds Try.pinned (OpenSpec.ofChange pathsNearSpec)

/-- ITS FALSE NEIGHBOUR: 'it returns false'. Refute it at one input. -/
def pathsNearWrong : ChangeSpec := { name := "pathsNear", fn := fun _ => fun
  | [d1, d2, d3] => { results := [.lit (.bool false)], args := [d1, d2, d3] }
  | _ => none }
def PathsNearWrongFalsely : Prop := pathsNearRow.holds Try.pinned (OpenSpec.ofChange pathsNearWrong)

/-- 'beaconlaw08.PathsComponents': WHATEVER THE INPUT: true; the input reads as it did. -/
def pathsComponentsSpec : ChangeSpec := { name := "pathsComponents", fn := fun _ => fun
  | [d1, d2] => { results := [.lit (.bool true)], args := [d1, d2] }
  | _ => none }
def pathsComponentsRow : OpenClaim := { program := "ytmdkcecbklgihaa", sum := "3af03c178a61fe55b36856aff829b7cdfcf26bb43dfdaad31155ad7d74c470bf", func := "beacon/beaconlaw08.PathsComponents", spec := "pathsComponents", inPlace := ["math.Float64bits", "math.Float64frombits", "math.archTrunc"], unfollowed := true, recurses := true, apart := false }
def PathsComponentsSaid : Prop := pathsComponentsRow.holds Try.pinned (OpenSpec.ofChange pathsComponentsSpec)

/-- ITS FALSE NEIGHBOUR: 'it returns false'. Refute it at one input. -/
def pathsComponentsWrong : ChangeSpec := { name := "pathsComponents", fn := fun _ => fun
  | [d1, d2] => { results := [.lit (.bool false)], args := [d1, d2] }
  | _ => none }
def PathsComponentsWrongFalsely : Prop := pathsComponentsRow.holds Try.pinned (OpenSpec.ofChange pathsComponentsWrong)

/- THE SECOND FORM. 'bulk': how many values and letters a reading holds, each counted each time it is reached (what is shared counts as often as it is met; a slice's spare places count too). A statement '..UptoSaid' is the law's where the arguments, and the package variables that the reading takes, are together of bulk at most 1048576: NARROWER than '..Said'. Prove '..Said' where nothing that the law and all that it calls make is longer than what came in: it says more and counts as full. Else prove '..UptoSaid'. A law counts once. -/
mutual
def uptoBulk {H : Type} : DataW H → Nat
  | .lit (.string bytes) => bytes.length + 1
  | .lit _ => 1
  | .nil => 1
  | .ptr d => uptoBulk d + 1
  | .slice elems spare => uptoBulkAll elems + uptoBulkAll spare + 1
  | .agg parts => uptoBulkAll parts + 1
  | .iface _ d => uptoBulk d + 1
  | .map entries => uptoBulkEntries entries + 1
  | .held _ => 1
def uptoBulkAll {H : Type} : List (DataW H) → Nat
  | [] => 0
  | d :: r => uptoBulk d + uptoBulkAll r
def uptoBulkEntries {H : Type} : List (Lit × DataW H) → Nat
  | [] => 0
  | x :: r => uptoBulkEntry x + uptoBulkEntries r
def uptoBulkEntry {H : Type} : Lit × DataW H → Nat
  | (.string bytes, d) => bytes.length + uptoBulk d + 1
  | (_, d) => uptoBulk d + 1
 end
def uptoSmall : (H : Type) → List (DataW H) → Bool := fun _ ds => decide (uptoBulkAll ds ≤ 1048576)
def OpenSpec.upto (s : _root_.Go.ChangeSpec) : _root_.Go.OpenSpec := { _root_.Go.OpenSpec.ofChange s with cond := some uptoSmall }

/-- 'beaconlaw08.PathsNexts', WHERE WHAT IT READS IS OF BULK AT MOST 1048576: true; the input reads as it did. -/
def pathsNextsUptoRow : OpenClaim := { program := "ytmdkcecbklgihaa", sum := "3af03c178a61fe55b36856aff829b7cdfcf26bb43dfdaad31155ad7d74c470bf", func := "beacon/beaconlaw08.PathsNexts", spec := "pathsNexts", inPlace := ["math.Float64bits", "math.Float64frombits", "math.archTrunc"], unfollowed := true, recurses := true, apart := false, narrowed := true }
def PathsNextsUptoSaid : Prop := pathsNextsUptoRow.holds Try.pinned (OpenSpec.upto pathsNextsSpec)

/-- 'beaconlaw08.PathsDists', WHERE WHAT IT READS IS OF BULK AT MOST 1048576: true; the input reads as it did. -/
def pathsDistsUptoRow : OpenClaim := { program := "ytmdkcecbklgihaa", sum := "3af03c178a61fe55b36856aff829b7cdfcf26bb43dfdaad31155ad7d74c470bf", func := "beacon/beaconlaw08.PathsDists", spec := "pathsDists", inPlace := ["math.Float64bits", "math.Float64frombits", "math.archTrunc"], unfollowed := true, recurses := true, apart := false, narrowed := true }
def PathsDistsUptoSaid : Prop := pathsDistsUptoRow.holds Try.pinned (OpenSpec.upto pathsDistsSpec)

/-- 'beaconlaw08.PathsTriangle', WHERE WHAT IT READS IS OF BULK AT MOST 1048576: true; the input reads as it did. -/
def pathsTriangleUptoRow : OpenClaim := { program := "ytmdkcecbklgihaa", sum := "3af03c178a61fe55b36856aff829b7cdfcf26bb43dfdaad31155ad7d74c470bf", func := "beacon/beaconlaw08.PathsTriangle", spec := "pathsTriangle", inPlace := ["math.Float64bits", "math.Float64frombits", "math.archTrunc"], unfollowed := true, recurses := true, apart := false, narrowed := true }
def PathsTriangleUptoSaid : Prop := pathsTriangleUptoRow.holds Try.pinned (OpenSpec.upto pathsTriangleSpec)

/-- 'beaconlaw08.PathsLimits', WHERE WHAT IT READS IS OF BULK AT MOST 1048576: true; the input reads as it did. -/
def pathsLimitsUptoRow : OpenClaim := { program := "ytmdkcecbklgihaa", sum := "3af03c178a61fe55b36856aff829b7cdfcf26bb43dfdaad31155ad7d74c470bf", func := "beacon/beaconlaw08.PathsLimits", spec := "pathsLimits", inPlace := ["math.Float64bits", "math.Float64frombits", "math.archTrunc"], unfollowed := true, recurses := true, apart := false, narrowed := true }
def PathsLimitsUptoSaid : Prop := pathsLimitsUptoRow.holds Try.pinned (OpenSpec.upto pathsLimitsSpec)

/-- 'beaconlaw08.PathsPaths', WHERE WHAT IT READS IS OF BULK AT MOST 1048576: true; the input reads as it did. -/
def pathsPathsUptoRow : OpenClaim := { program := "ytmdkcecbklgihaa", sum := "3af03c178a61fe55b36856aff829b7cdfcf26bb43dfdaad31155ad7d74c470bf", func := "beacon/beaconlaw08.PathsPaths", spec := "pathsPaths", inPlace := ["math.Float64bits", "math.Float64frombits", "math.archTrunc"], unfollowed := true, recurses := true, apart := false, narrowed := true }
def PathsPathsUptoSaid : Prop := pathsPathsUptoRow.holds Try.pinned (OpenSpec.upto pathsPathsSpec)

/-- 'beaconlaw08.PathsSteps', WHERE WHAT IT READS IS OF BULK AT MOST 1048576: true; the input reads as it did. -/
def pathsStepsUptoRow : OpenClaim := { program := "ytmdkcecbklgihaa", sum := "3af03c178a61fe55b36856aff829b7cdfcf26bb43dfdaad31155ad7d74c470bf", func := "beacon/beaconlaw08.PathsSteps", spec := "pathsSteps", inPlace := ["math.Float64bits", "math.Float64frombits", "math.archTrunc"], unfollowed := true, recurses := true, apart := false, narrowed := true }
def PathsStepsUptoSaid : Prop := pathsStepsUptoRow.holds Try.pinned (OpenSpec.upto pathsStepsSpec)

/-- 'beaconlaw08.PathsNear', WHERE WHAT IT READS IS OF BULK AT MOST 1048576: true; the input reads as it did. -/
def pathsNearUptoRow : OpenClaim := { program := "ytmdkcecbklgihaa", sum := "3af03c178a61fe55b36856aff829b7cdfcf26bb43dfdaad31155ad7d74c470bf", func := "beacon/beaconlaw08.PathsNear", spec := "pathsNear", inPlace := ["math.Float64bits", "math.Float64frombits", "math.archTrunc"], unfollowed := true, recurses := true, apart := false, narrowed := true }
def PathsNearUptoSaid : Prop := pathsNearUptoRow.holds Try.pinned (OpenSpec.upto pathsNearSpec)

/-- 'beaconlaw08.PathsComponents', WHERE WHAT IT READS IS OF BULK AT MOST 1048576: true; the input reads as it did. -/
def pathsComponentsUptoRow : OpenClaim := { program := "ytmdkcecbklgihaa", sum := "3af03c178a61fe55b36856aff829b7cdfcf26bb43dfdaad31155ad7d74c470bf", func := "beacon/beaconlaw08.PathsComponents", spec := "pathsComponents", inPlace := ["math.Float64bits", "math.Float64frombits", "math.archTrunc"], unfollowed := true, recurses := true, apart := false, narrowed := true }
def PathsComponentsUptoSaid : Prop := pathsComponentsUptoRow.holds Try.pinned (OpenSpec.upto pathsComponentsSpec)

end Rows
end Go.Proofs.Ytmdkcecbklgihaa
