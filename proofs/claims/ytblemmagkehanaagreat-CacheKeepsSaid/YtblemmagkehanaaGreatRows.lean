/-
  No cell of these rows narrows 'for every input' (looked for: loops, veiled, ifaces, maps, wideKeys, modest, calm, conditions, laid).
  DERIVED. THE GIVEN ROWS OF THIS SEAT. 4 by the template 'for every input the law returns true; each argument reads behind the call as it read before'; 0 by the template 'total and deterministic' (their statements: YtblemmagkehanaaGreatTotals.lean).
  GIVEN WITH THE SEED: the statements are not yours to turn. If you find one false, say at which input.
  Laid BY PROGRAM, IN A SANDBOX (cutbox-rows.mjs): the forced cells as the released guide's own fill.sh prints them over the translation 131b42fe5d0548cb… (all of the seat's roots in one cut). By AI agents, Wed Nov 11 2026. No macro, syntax, notation, axiom, sorry.
-/
import Derived.Test.YtblemmagkehanaaGreatChecked
import GoSem.Claim
import GoSem.ClaimJoined
import GoSem.ClaimMapViews
import Derived.JoinedTies
import Derived.KernelRfl
namespace Go.Proofs.YtblemmagkehanaaGreat
/- THE CELL 'sum', in the pinned program and in every row, IS THE sha256 OF THE DUMP (.gsa) THAT YtblemmagkehanaaGreatProg.lean LOADS. Nothing in Lean hashes anything: it is a label: what it is worth is what the hold of that sum in a sandbox is worth. -/
noncomputable def Tryz.pinned : Pinned := { name := "ytblemmagkehanaagreat", sum := "131b42fe5d0548cb57d556e52a06f4990384e65bf4d7c1c4427366c040de070e", checked := Tryz.checked }
namespace Rows
def none {H : Type} : Left H := { results := [], args := [] }

/-- 'beaconlaw13.CachePlays': WHATEVER THE INPUT: true; the input reads as it did. -/
def cachePlaysSpec : ChangeSpec := { name := "cachePlays", fn := fun _ => fun
  | [d] => { results := [.lit (.bool true)], args := [d] }
  | _ => none }
def cachePlaysRow : OpenClaim := { program := "ytblemmagkehanaagreat", sum := "131b42fe5d0548cb57d556e52a06f4990384e65bf4d7c1c4427366c040de070e", func := "beacon/beaconlaw13.CachePlays", spec := "cachePlays", inPlace := ["math.Float64bits", "math.archTrunc", "math.Float64frombits", "slices.overlaps[beacon/api.News]"], unfollowed := true, recurses := true, apart := false }
def CachePlaysSaid : Prop := cachePlaysRow.holds Tryz.pinned (OpenSpec.ofChange cachePlaysSpec)

/-- ITS FALSE NEIGHBOUR: 'it returns false'. Refute it at one input. -/
def cachePlaysWrong : ChangeSpec := { name := "cachePlays", fn := fun _ => fun
  | [d] => { results := [.lit (.bool false)], args := [d] }
  | _ => none }
def CachePlaysWrongFalsely : Prop := cachePlaysRow.holds Tryz.pinned (OpenSpec.ofChange cachePlaysWrong)

/-- 'beaconlaw13.CacheKeeps': WHATEVER THE INPUT: true; the input reads as it did. -/
def cacheKeepsSpec : ChangeSpec := { name := "cacheKeeps", fn := fun _ => fun
  | [d1, d2, d3] => { results := [.lit (.bool true)], args := [d1, d2, d3] }
  | _ => none }
def cacheKeepsRow : OpenClaim := { program := "ytblemmagkehanaagreat", sum := "131b42fe5d0548cb57d556e52a06f4990384e65bf4d7c1c4427366c040de070e", func := "beacon/beaconlaw13.CacheKeeps", spec := "cacheKeeps", inPlace := ["math.Float64bits", "math.archTrunc", "math.Float64frombits", "slices.overlaps[beacon/api.News]"], unfollowed := true, recurses := true, apart := false }
def CacheKeepsSaid : Prop := cacheKeepsRow.holds Tryz.pinned (OpenSpec.ofChange cacheKeepsSpec)

/-- ITS FALSE NEIGHBOUR: 'it returns false'. Refute it at one input. -/
def cacheKeepsWrong : ChangeSpec := { name := "cacheKeeps", fn := fun _ => fun
  | [d1, d2, d3] => { results := [.lit (.bool false)], args := [d1, d2, d3] }
  | _ => none }
def CacheKeepsWrongFalsely : Prop := cacheKeepsRow.holds Tryz.pinned (OpenSpec.ofChange cacheKeepsWrong)

/-- 'beaconlaw13.CacheLooks': WHATEVER THE INPUT: true; the input reads as it did. -/
def cacheLooksSpec : ChangeSpec := { name := "cacheLooks", fn := fun _ => fun
  | [d1, d2] => { results := [.lit (.bool true)], args := [d1, d2] }
  | _ => none }
def cacheLooksRow : OpenClaim := { program := "ytblemmagkehanaagreat", sum := "131b42fe5d0548cb57d556e52a06f4990384e65bf4d7c1c4427366c040de070e", func := "beacon/beaconlaw13.CacheLooks", spec := "cacheLooks", inPlace := ["math.Float64bits", "math.archTrunc", "math.Float64frombits", "slices.overlaps[beacon/api.News]"], unfollowed := true, recurses := true, apart := false }
def CacheLooksSaid : Prop := cacheLooksRow.holds Tryz.pinned (OpenSpec.ofChange cacheLooksSpec)

/-- ITS FALSE NEIGHBOUR: 'it returns false'. Refute it at one input. -/
def cacheLooksWrong : ChangeSpec := { name := "cacheLooks", fn := fun _ => fun
  | [d1, d2] => { results := [.lit (.bool false)], args := [d1, d2] }
  | _ => none }
def CacheLooksWrongFalsely : Prop := cacheLooksRow.holds Tryz.pinned (OpenSpec.ofChange cacheLooksWrong)

/-- 'beaconlaw13.CacheOwn': WHATEVER THE INPUT: true; the input reads as it did. -/
def cacheOwnSpec : ChangeSpec := { name := "cacheOwn", fn := fun _ => fun
  | [d1, d2] => { results := [.lit (.bool true)], args := [d1, d2] }
  | _ => none }
def cacheOwnRow : OpenClaim := { program := "ytblemmagkehanaagreat", sum := "131b42fe5d0548cb57d556e52a06f4990384e65bf4d7c1c4427366c040de070e", func := "beacon/beaconlaw13.CacheOwn", spec := "cacheOwn", inPlace := ["math.Float64bits", "math.archTrunc", "math.Float64frombits", "slices.overlaps[beacon/api.News]"], unfollowed := true, recurses := true, apart := false }
def CacheOwnSaid : Prop := cacheOwnRow.holds Tryz.pinned (OpenSpec.ofChange cacheOwnSpec)

/-- ITS FALSE NEIGHBOUR: 'it returns false'. Refute it at one input. -/
def cacheOwnWrong : ChangeSpec := { name := "cacheOwn", fn := fun _ => fun
  | [d1, d2] => { results := [.lit (.bool false)], args := [d1, d2] }
  | _ => none }
def CacheOwnWrongFalsely : Prop := cacheOwnRow.holds Tryz.pinned (OpenSpec.ofChange cacheOwnWrong)

/- THE SECOND FORM. 'bulk': how many values and letters a reading holds, each counted each time it is reached (what is shared counts as often as it is met; a slice's spare places count too). A statement '..UptoSaid' is the law's where the arguments, and the package variables that the reading takes, are together of bulk at most 1048576: NARROWER than '..Said'. Prove '..Said' where nothing that the law and all that it calls make is longer than what came in: it says more and counts as full. Else prove '..UptoSaid'. A law counts once. -/
mutual
def uptoBulk {H : Type} : DataW H → Nat
  | .lit (.string bytes) => bytes.length + 1
  | .lit _ => 1
  | .nil => 1
  | .ptr d => uptoBulk d + 1
  | .slice elems spare => uptoBulkAll elems + uptoBulkAll spare + 1
  | .agg parts => uptoBulkAll parts + 1
  | .iface _ d => uptoBulk d + 1
  | .map entries => uptoBulkEntries entries + 1
  | .held _ => 1
def uptoBulkAll {H : Type} : List (DataW H) → Nat
  | [] => 0
  | d :: r => uptoBulk d + uptoBulkAll r
def uptoBulkEntries {H : Type} : List (Lit × DataW H) → Nat
  | [] => 0
  | x :: r => uptoBulkEntry x + uptoBulkEntries r
def uptoBulkEntry {H : Type} : Lit × DataW H → Nat
  | (.string bytes, d) => bytes.length + uptoBulk d + 1
  | (_, d) => uptoBulk d + 1
 end
def uptoSmall : (H : Type) → List (DataW H) → Bool := fun _ ds => decide (uptoBulkAll ds ≤ 1048576)
def OpenSpec.upto (s : _root_.Go.ChangeSpec) : _root_.Go.OpenSpec := { _root_.Go.OpenSpec.ofChange s with cond := some uptoSmall }

/-- 'beaconlaw13.CachePlays', WHERE WHAT IT READS IS OF BULK AT MOST 1048576: true; the input reads as it did. -/
def cachePlaysUptoRow : OpenClaim := { program := "ytblemmagkehanaagreat", sum := "131b42fe5d0548cb57d556e52a06f4990384e65bf4d7c1c4427366c040de070e", func := "beacon/beaconlaw13.CachePlays", spec := "cachePlays", inPlace := ["math.Float64bits", "math.archTrunc", "math.Float64frombits", "slices.overlaps[beacon/api.News]"], unfollowed := true, recurses := true, apart := false, narrowed := true }
def CachePlaysUptoSaid : Prop := cachePlaysUptoRow.holds Tryz.pinned (OpenSpec.upto cachePlaysSpec)

/-- 'beaconlaw13.CacheKeeps', WHERE WHAT IT READS IS OF BULK AT MOST 1048576: true; the input reads as it did. -/
def cacheKeepsUptoRow : OpenClaim := { program := "ytblemmagkehanaagreat", sum := "131b42fe5d0548cb57d556e52a06f4990384e65bf4d7c1c4427366c040de070e", func := "beacon/beaconlaw13.CacheKeeps", spec := "cacheKeeps", inPlace := ["math.Float64bits", "math.archTrunc", "math.Float64frombits", "slices.overlaps[beacon/api.News]"], unfollowed := true, recurses := true, apart := false, narrowed := true }
def CacheKeepsUptoSaid : Prop := cacheKeepsUptoRow.holds Tryz.pinned (OpenSpec.upto cacheKeepsSpec)

/-- 'beaconlaw13.CacheLooks', WHERE WHAT IT READS IS OF BULK AT MOST 1048576: true; the input reads as it did. -/
def cacheLooksUptoRow : OpenClaim := { program := "ytblemmagkehanaagreat", sum := "131b42fe5d0548cb57d556e52a06f4990384e65bf4d7c1c4427366c040de070e", func := "beacon/beaconlaw13.CacheLooks", spec := "cacheLooks", inPlace := ["math.Float64bits", "math.archTrunc", "math.Float64frombits", "slices.overlaps[beacon/api.News]"], unfollowed := true, recurses := true, apart := false, narrowed := true }
def CacheLooksUptoSaid : Prop := cacheLooksUptoRow.holds Tryz.pinned (OpenSpec.upto cacheLooksSpec)

/-- 'beaconlaw13.CacheOwn', WHERE WHAT IT READS IS OF BULK AT MOST 1048576: true; the input reads as it did. -/
def cacheOwnUptoRow : OpenClaim := { program := "ytblemmagkehanaagreat", sum := "131b42fe5d0548cb57d556e52a06f4990384e65bf4d7c1c4427366c040de070e", func := "beacon/beaconlaw13.CacheOwn", spec := "cacheOwn", inPlace := ["math.Float64bits", "math.archTrunc", "math.Float64frombits", "slices.overlaps[beacon/api.News]"], unfollowed := true, recurses := true, apart := false, narrowed := true }
def CacheOwnUptoSaid : Prop := cacheOwnUptoRow.holds Tryz.pinned (OpenSpec.upto cacheOwnSpec)

end Rows
end Go.Proofs.YtblemmagkehanaaGreat
