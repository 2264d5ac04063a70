/-
  No cell of these rows narrows 'for every input' (looked for: loops, veiled, ifaces, maps, wideKeys, modest, calm, conditions, laid).
  DERIVED. THE GIVEN ROWS OF THIS SEAT. 5 by the template 'for every input the law returns true; each argument reads behind the call as it read before'; 0 by the template 'total and deterministic' (their statements: YtlpmblcdafdfdaaTotals.lean).
  GIVEN WITH THE SEED: the statements are not yours to turn. If you find one false, say at which input.
  Laid BY PROGRAM, IN A SANDBOX (cutbox-rows.mjs): the forced cells as the released guide's own fill.sh prints them over the translation e19c42f0fd973908… (all of the seat's roots in one cut). By AI agents, Wed Nov 11 2026. No macro, syntax, notation, axiom, sorry.
-/
import Derived.Test.YtlpmblcdafdfdaaChecked
import GoSem.Claim
import GoSem.ClaimJoined
import GoSem.ClaimMapViews
import Derived.JoinedTies
import Derived.KernelRfl
namespace Go.Proofs.Ytlpmblcdafdfdaa
/- THE CELL 'sum', in the pinned program and in every row, IS THE sha256 OF THE DUMP (.gsa) THAT YtlpmblcdafdfdaaProg.lean LOADS. Nothing in Lean hashes anything: it is a label: what it is worth is what the hold of that sum in a sandbox is worth. -/
noncomputable def Try.pinned : Pinned := { name := "ytlpmblcdafdfdaa", sum := "e19c42f0fd9739084efac14ea823ff5b63523a45f3f8c25cd8d962f4b7a837dd", checked := Try.checked }
namespace Rows
def none {H : Type} : Left H := { results := [], args := [] }

/-- 'beaconlaw20.DirectoryPackets': WHATEVER THE INPUT: true; the input reads as it did. -/
def directoryPacketsSpec : ChangeSpec := { name := "directoryPackets", fn := fun _ => fun
  | [d1, d2, d3] => { results := [.lit (.bool true)], args := [d1, d2, d3] }
  | _ => none }
def directoryPacketsRow : OpenClaim := { program := "ytlpmblcdafdfdaa", sum := "e19c42f0fd9739084efac14ea823ff5b63523a45f3f8c25cd8d962f4b7a837dd", func := "beacon/beaconlaw20.DirectoryPackets", spec := "directoryPackets", unfollowed := true, recurses := true, apart := false }
def DirectoryPacketsSaid : Prop := directoryPacketsRow.holds Try.pinned (OpenSpec.ofChange directoryPacketsSpec)

/-- ITS FALSE NEIGHBOUR: 'it returns false'. Refute it at one input. -/
def directoryPacketsWrong : ChangeSpec := { name := "directoryPackets", fn := fun _ => fun
  | [d1, d2, d3] => { results := [.lit (.bool false)], args := [d1, d2, d3] }
  | _ => none }
def DirectoryPacketsWrongFalsely : Prop := directoryPacketsRow.holds Try.pinned (OpenSpec.ofChange directoryPacketsWrong)

/-- 'beaconlaw20.DirectoryPlays': WHATEVER THE INPUT: true; the input reads as it did. -/
def directoryPlaysSpec : ChangeSpec := { name := "directoryPlays", fn := fun _ => fun
  | [d1, d2] => { results := [.lit (.bool true)], args := [d1, d2] }
  | _ => none }
def directoryPlaysRow : OpenClaim := { program := "ytlpmblcdafdfdaa", sum := "e19c42f0fd9739084efac14ea823ff5b63523a45f3f8c25cd8d962f4b7a837dd", func := "beacon/beaconlaw20.DirectoryPlays", spec := "directoryPlays", inPlace := ["math.Float64bits", "math.Float64frombits", "math.archTrunc"], unfollowed := true, recurses := true, apart := false }
def DirectoryPlaysSaid : Prop := directoryPlaysRow.holds Try.pinned (OpenSpec.ofChange directoryPlaysSpec)

/-- ITS FALSE NEIGHBOUR: 'it returns false'. Refute it at one input. -/
def directoryPlaysWrong : ChangeSpec := { name := "directoryPlays", fn := fun _ => fun
  | [d1, d2] => { results := [.lit (.bool false)], args := [d1, d2] }
  | _ => none }
def DirectoryPlaysWrongFalsely : Prop := directoryPlaysRow.holds Try.pinned (OpenSpec.ofChange directoryPlaysWrong)

/-- 'beaconlaw20.DirectoryTells': WHATEVER THE INPUT: true; the input reads as it did. -/
def directoryTellsSpec : ChangeSpec := { name := "directoryTells", fn := fun _ => fun
  | [d1, d2, d3] => { results := [.lit (.bool true)], args := [d1, d2, d3] }
  | _ => none }
def directoryTellsRow : OpenClaim := { program := "ytlpmblcdafdfdaa", sum := "e19c42f0fd9739084efac14ea823ff5b63523a45f3f8c25cd8d962f4b7a837dd", func := "beacon/beaconlaw20.DirectoryTells", spec := "directoryTells", inPlace := ["math.Float64bits", "math.Float64frombits", "math.archTrunc"], unfollowed := true, recurses := true, apart := false }
def DirectoryTellsSaid : Prop := directoryTellsRow.holds Try.pinned (OpenSpec.ofChange directoryTellsSpec)

/-- ITS FALSE NEIGHBOUR: 'it returns false'. Refute it at one input. -/
def directoryTellsWrong : ChangeSpec := { name := "directoryTells", fn := fun _ => fun
  | [d1, d2, d3] => { results := [.lit (.bool false)], args := [d1, d2, d3] }
  | _ => none }
def DirectoryTellsWrongFalsely : Prop := directoryTellsRow.holds Try.pinned (OpenSpec.ofChange directoryTellsWrong)

/-- 'beaconlaw20.DirectoryNobody': WHATEVER THE INPUT: true; the input reads as it did. -/
def directoryNobodySpec : ChangeSpec := { name := "directoryNobody", fn := fun _ => fun
  | [d] => { results := [.lit (.bool true)], args := [d] }
  | _ => none }
def directoryNobodyRow : OpenClaim := { program := "ytlpmblcdafdfdaa", sum := "e19c42f0fd9739084efac14ea823ff5b63523a45f3f8c25cd8d962f4b7a837dd", func := "beacon/beaconlaw20.DirectoryNobody", spec := "directoryNobody", inPlace := ["math.Float64bits", "math.Float64frombits", "math.archTrunc"], unfollowed := true, recurses := true, apart := false }
def DirectoryNobodySaid : Prop := directoryNobodyRow.holds Try.pinned (OpenSpec.ofChange directoryNobodySpec)

/-- ITS FALSE NEIGHBOUR: 'it returns false'. Refute it at one input. -/
def directoryNobodyWrong : ChangeSpec := { name := "directoryNobody", fn := fun _ => fun
  | [d] => { results := [.lit (.bool false)], args := [d] }
  | _ => none }
def DirectoryNobodyWrongFalsely : Prop := directoryNobodyRow.holds Try.pinned (OpenSpec.ofChange directoryNobodyWrong)

/-- 'beaconlaw20.DirectoryAnswers': WHATEVER THE INPUT: true; the input reads as it did. -/
def directoryAnswersSpec : ChangeSpec := { name := "directoryAnswers", fn := fun _ => fun
  | [d1, d2, d3] => { results := [.lit (.bool true)], args := [d1, d2, d3] }
  | _ => none }
def directoryAnswersRow : OpenClaim := { program := "ytlpmblcdafdfdaa", sum := "e19c42f0fd9739084efac14ea823ff5b63523a45f3f8c25cd8d962f4b7a837dd", func := "beacon/beaconlaw20.DirectoryAnswers", spec := "directoryAnswers", inPlace := ["math.Float64bits", "math.Float64frombits", "math.archTrunc"], unfollowed := true, recurses := true, apart := false }
def DirectoryAnswersSaid : Prop := directoryAnswersRow.holds Try.pinned (OpenSpec.ofChange directoryAnswersSpec)

/-- ITS FALSE NEIGHBOUR: 'it returns false'. Refute it at one input. -/
def directoryAnswersWrong : ChangeSpec := { name := "directoryAnswers", fn := fun _ => fun
  | [d1, d2, d3] => { results := [.lit (.bool false)], args := [d1, d2, d3] }
  | _ => none }
def DirectoryAnswersWrongFalsely : Prop := directoryAnswersRow.holds Try.pinned (OpenSpec.ofChange directoryAnswersWrong)

/- THE SECOND FORM. 'bulk': how many values and letters a reading holds, each counted each time it is reached (what is shared counts as often as it is met; a slice's spare places count too). A statement '..UptoSaid' is the law's where the arguments, and the package variables that the reading takes, are together of bulk at most 1048576: NARROWER than '..Said'. Prove '..Said' where nothing that the law and all that it calls make is longer than what came in: it says more and counts as full. Else prove '..UptoSaid'. A law counts once. -/
mutual
def uptoBulk {H : Type} : DataW H → Nat
  | .lit (.string bytes) => bytes.length + 1
  | .lit _ => 1
  | .nil => 1
  | .ptr d => uptoBulk d + 1
  | .slice elems spare => uptoBulkAll elems + uptoBulkAll spare + 1
  | .agg parts => uptoBulkAll parts + 1
  | .iface _ d => uptoBulk d + 1
  | .map entries => uptoBulkEntries entries + 1
  | .held _ => 1
def uptoBulkAll {H : Type} : List (DataW H) → Nat
  | [] => 0
  | d :: r => uptoBulk d + uptoBulkAll r
def uptoBulkEntries {H : Type} : List (Lit × DataW H) → Nat
  | [] => 0
  | x :: r => uptoBulkEntry x + uptoBulkEntries r
def uptoBulkEntry {H : Type} : Lit × DataW H → Nat
  | (.string bytes, d) => bytes.length + uptoBulk d + 1
  | (_, d) => uptoBulk d + 1
 end
def uptoSmall : (H : Type) → List (DataW H) → Bool := fun _ ds => decide (uptoBulkAll ds ≤ 1048576)
def OpenSpec.upto (s : _root_.Go.ChangeSpec) : _root_.Go.OpenSpec := { _root_.Go.OpenSpec.ofChange s with cond := some uptoSmall }

/-- 'beaconlaw20.DirectoryPackets', WHERE WHAT IT READS IS OF BULK AT MOST 1048576: true; the input reads as it did. -/
def directoryPacketsUptoRow : OpenClaim := { program := "ytlpmblcdafdfdaa", sum := "e19c42f0fd9739084efac14ea823ff5b63523a45f3f8c25cd8d962f4b7a837dd", func := "beacon/beaconlaw20.DirectoryPackets", spec := "directoryPackets", unfollowed := true, recurses := true, apart := false, narrowed := true }
def DirectoryPacketsUptoSaid : Prop := directoryPacketsUptoRow.holds Try.pinned (OpenSpec.upto directoryPacketsSpec)

/-- 'beaconlaw20.DirectoryPlays', WHERE WHAT IT READS IS OF BULK AT MOST 1048576: true; the input reads as it did. -/
def directoryPlaysUptoRow : OpenClaim := { program := "ytlpmblcdafdfdaa", sum := "e19c42f0fd9739084efac14ea823ff5b63523a45f3f8c25cd8d962f4b7a837dd", func := "beacon/beaconlaw20.DirectoryPlays", spec := "directoryPlays", inPlace := ["math.Float64bits", "math.Float64frombits", "math.archTrunc"], unfollowed := true, recurses := true, apart := false, narrowed := true }
def DirectoryPlaysUptoSaid : Prop := directoryPlaysUptoRow.holds Try.pinned (OpenSpec.upto directoryPlaysSpec)

/-- 'beaconlaw20.DirectoryTells', WHERE WHAT IT READS IS OF BULK AT MOST 1048576: true; the input reads as it did. -/
def directoryTellsUptoRow : OpenClaim := { program := "ytlpmblcdafdfdaa", sum := "e19c42f0fd9739084efac14ea823ff5b63523a45f3f8c25cd8d962f4b7a837dd", func := "beacon/beaconlaw20.DirectoryTells", spec := "directoryTells", inPlace := ["math.Float64bits", "math.Float64frombits", "math.archTrunc"], unfollowed := true, recurses := true, apart := false, narrowed := true }
def DirectoryTellsUptoSaid : Prop := directoryTellsUptoRow.holds Try.pinned (OpenSpec.upto directoryTellsSpec)

/-- 'beaconlaw20.DirectoryNobody', WHERE WHAT IT READS IS OF BULK AT MOST 1048576: true; the input reads as it did. -/
def directoryNobodyUptoRow : OpenClaim := { program := "ytlpmblcdafdfdaa", sum := "e19c42f0fd9739084efac14ea823ff5b63523a45f3f8c25cd8d962f4b7a837dd", func := "beacon/beaconlaw20.DirectoryNobody", spec := "directoryNobody", inPlace := ["math.Float64bits", "math.Float64frombits", "math.archTrunc"], unfollowed := true, recurses := true, apart := false, narrowed := true }
def DirectoryNobodyUptoSaid : Prop := directoryNobodyUptoRow.holds Try.pinned (OpenSpec.upto directoryNobodySpec)

/-- 'beaconlaw20.DirectoryAnswers', WHERE WHAT IT READS IS OF BULK AT MOST 1048576: true; the input reads as it did. -/
def directoryAnswersUptoRow : OpenClaim := { program := "ytlpmblcdafdfdaa", sum := "e19c42f0fd9739084efac14ea823ff5b63523a45f3f8c25cd8d962f4b7a837dd", func := "beacon/beaconlaw20.DirectoryAnswers", spec := "directoryAnswers", inPlace := ["math.Float64bits", "math.Float64frombits", "math.archTrunc"], unfollowed := true, recurses := true, apart := false, narrowed := true }
def DirectoryAnswersUptoSaid : Prop := directoryAnswersUptoRow.holds Try.pinned (OpenSpec.upto directoryAnswersSpec)

end Rows
end Go.Proofs.Ytlpmblcdafdfdaa
