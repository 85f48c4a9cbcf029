/-
  No cell of these rows narrows 'for every input' (looked for: loops, veiled, ifaces, maps, wideKeys, modest, calm, conditions, laid).
  DERIVED. THE GIVEN ROWS OF THIS SEAT. 12 by the template 'for every input the law returns true; each argument reads behind the call as it read before'; 0 by the template 'total and deterministic' (their statements: YtfhakhbmbnbneaaTotals.lean).
  GIVEN WITH THE SEED: the statements are not yours to turn. If you find one false, say at which input.
  Laid BY PROGRAM, IN A SANDBOX (cutbox-rows.mjs): the forced cells as the released guide's own fill.sh prints them over the translation b032f524a6ad1198… (all of the seat's roots in one cut). By AI agents, Wed Nov 11 2026. No macro, syntax, notation, axiom, sorry.
-/
import Derived.Test.YtfhakhbmbnbneaaChecked
import GoSem.Claim
import GoSem.ClaimJoined
import GoSem.ClaimMapViews
import Derived.JoinedTies
import Derived.KernelRfl
namespace Go.Proofs.Ytfhakhbmbnbneaa
/- THE CELL 'sum', in the pinned program and in every row, IS THE sha256 OF THE DUMP (.gsa) THAT YtfhakhbmbnbneaaProg.lean LOADS. Nothing in Lean hashes anything: it is a label: what it is worth is what the hold of that sum in a sandbox is worth. -/
noncomputable def Try.pinned : Pinned := { name := "ytfhakhbmbnbneaa", sum := "b032f524a6ad1198081f32c9933ede5520ff5d1879b3b8f70cb685627631f931", checked := Try.checked }
namespace Rows
def none {H : Type} : Left H := { results := [], args := [] }

/-- 'laws.FnExactEqualDeep': WHATEVER THE INPUT: true; the input reads as it did. -/
def fnExactEqualDeepSpec : ChangeSpec := { name := "fnExactEqualDeep", fn := fun _ => fun
  | [d1, d2] => { results := [.lit (.bool true)], args := [d1, d2] }
  | _ => none }
def fnExactEqualDeepRow : OpenClaim := { program := "ytfhakhbmbnbneaa", sum := "b032f524a6ad1198081f32c9933ede5520ff5d1879b3b8f70cb685627631f931", func := "loop.example/graphcode/laws.FnExactEqualDeep", spec := "fnExactEqualDeep", unfollowed := true, recurses := true, plainKeys := false, apart := false }
def FnExactEqualDeepSaid : Prop := fnExactEqualDeepRow.holds Try.pinned (OpenSpec.ofChange fnExactEqualDeepSpec)

/-- ITS FALSE NEIGHBOUR: 'it returns false'. Refute it at one input. -/
def fnExactEqualDeepWrong : ChangeSpec := { name := "fnExactEqualDeep", fn := fun _ => fun
  | [d1, d2] => { results := [.lit (.bool false)], args := [d1, d2] }
  | _ => none }
def FnExactEqualDeepWrongFalsely : Prop := fnExactEqualDeepRow.holds Try.pinned (OpenSpec.ofChange fnExactEqualDeepWrong)

/-- 'laws.FnExactPrunedGraph': WHATEVER THE INPUT: true; the input reads as it did. -/
def fnExactPrunedGraphSpec : ChangeSpec := { name := "fnExactPrunedGraph", fn := fun _ => fun
  | [d] => { results := [.lit (.bool true)], args := [d] }
  | _ => none }
def fnExactPrunedGraphRow : OpenClaim := { program := "ytfhakhbmbnbneaa", sum := "b032f524a6ad1198081f32c9933ede5520ff5d1879b3b8f70cb685627631f931", func := "loop.example/graphcode/laws.FnExactPrunedGraph", spec := "fnExactPrunedGraph", unfollowed := true, recurses := true, plainKeys := false, apart := false }
def FnExactPrunedGraphSaid : Prop := fnExactPrunedGraphRow.holds Try.pinned (OpenSpec.ofChange fnExactPrunedGraphSpec)

/-- ITS FALSE NEIGHBOUR: 'it returns false'. Refute it at one input. -/
def fnExactPrunedGraphWrong : ChangeSpec := { name := "fnExactPrunedGraph", fn := fun _ => fun
  | [d] => { results := [.lit (.bool false)], args := [d] }
  | _ => none }
def FnExactPrunedGraphWrongFalsely : Prop := fnExactPrunedGraphRow.holds Try.pinned (OpenSpec.ofChange fnExactPrunedGraphWrong)

/-- 'laws.FnPrunedGraph': WHATEVER THE INPUT: true; the input reads as it did. -/
def fnPrunedGraphSpec : ChangeSpec := { name := "fnPrunedGraph", fn := fun _ => fun
  | [d] => { results := [.lit (.bool true)], args := [d] }
  | _ => none }
def fnPrunedGraphRow : OpenClaim := { program := "ytfhakhbmbnbneaa", sum := "b032f524a6ad1198081f32c9933ede5520ff5d1879b3b8f70cb685627631f931", func := "loop.example/graphcode/laws.FnPrunedGraph", spec := "fnPrunedGraph", unfollowed := true, recurses := true, plainKeys := false, apart := false }
def FnPrunedGraphSaid : Prop := fnPrunedGraphRow.holds Try.pinned (OpenSpec.ofChange fnPrunedGraphSpec)

/-- ITS FALSE NEIGHBOUR: 'it returns false'. Refute it at one input. -/
def fnPrunedGraphWrong : ChangeSpec := { name := "fnPrunedGraph", fn := fun _ => fun
  | [d] => { results := [.lit (.bool false)], args := [d] }
  | _ => none }
def FnPrunedGraphWrongFalsely : Prop := fnPrunedGraphRow.holds Try.pinned (OpenSpec.ofChange fnPrunedGraphWrong)

/-- 'laws.FnValidGraph': WHATEVER THE INPUT: true; the input reads as it did. -/
def fnValidGraphSpec : ChangeSpec := { name := "fnValidGraph", fn := fun _ => fun
  | [d] => { results := [.lit (.bool true)], args := [d] }
  | _ => none }
def fnValidGraphRow : OpenClaim := { program := "ytfhakhbmbnbneaa", sum := "b032f524a6ad1198081f32c9933ede5520ff5d1879b3b8f70cb685627631f931", func := "loop.example/graphcode/laws.FnValidGraph", spec := "fnValidGraph", unfollowed := true, recurses := true, plainKeys := false, apart := false }
def FnValidGraphSaid : Prop := fnValidGraphRow.holds Try.pinned (OpenSpec.ofChange fnValidGraphSpec)

/-- ITS FALSE NEIGHBOUR: 'it returns false'. Refute it at one input. -/
def fnValidGraphWrong : ChangeSpec := { name := "fnValidGraph", fn := fun _ => fun
  | [d] => { results := [.lit (.bool false)], args := [d] }
  | _ => none }
def FnValidGraphWrongFalsely : Prop := fnValidGraphRow.holds Try.pinned (OpenSpec.ofChange fnValidGraphWrong)

/-- 'laws.FnExactValidGraph': WHATEVER THE INPUT: true; the input reads as it did. -/
def fnExactValidGraphSpec : ChangeSpec := { name := "fnExactValidGraph", fn := fun _ => fun
  | [d] => { results := [.lit (.bool true)], args := [d] }
  | _ => none }
def fnExactValidGraphRow : OpenClaim := { program := "ytfhakhbmbnbneaa", sum := "b032f524a6ad1198081f32c9933ede5520ff5d1879b3b8f70cb685627631f931", func := "loop.example/graphcode/laws.FnExactValidGraph", spec := "fnExactValidGraph", unfollowed := true, recurses := true, plainKeys := false, apart := false }
def FnExactValidGraphSaid : Prop := fnExactValidGraphRow.holds Try.pinned (OpenSpec.ofChange fnExactValidGraphSpec)

/-- ITS FALSE NEIGHBOUR: 'it returns false'. Refute it at one input. -/
def fnExactValidGraphWrong : ChangeSpec := { name := "fnExactValidGraph", fn := fun _ => fun
  | [d] => { results := [.lit (.bool false)], args := [d] }
  | _ => none }
def FnExactValidGraphWrongFalsely : Prop := fnExactValidGraphRow.holds Try.pinned (OpenSpec.ofChange fnExactValidGraphWrong)

/-- 'laws.FnExactEqualTo': WHATEVER THE INPUT: true; the input reads as it did. -/
def fnExactEqualToSpec : ChangeSpec := { name := "fnExactEqualTo", fn := fun _ => fun
  | [d1, d2, d3] => { results := [.lit (.bool true)], args := [d1, d2, d3] }
  | _ => none }
def fnExactEqualToRow : OpenClaim := { program := "ytfhakhbmbnbneaa", sum := "b032f524a6ad1198081f32c9933ede5520ff5d1879b3b8f70cb685627631f931", func := "loop.example/graphcode/laws.FnExactEqualTo", spec := "fnExactEqualTo", unfollowed := true, recurses := true, plainKeys := false, apart := false }
def FnExactEqualToSaid : Prop := fnExactEqualToRow.holds Try.pinned (OpenSpec.ofChange fnExactEqualToSpec)

/-- ITS FALSE NEIGHBOUR: 'it returns false'. Refute it at one input. -/
def fnExactEqualToWrong : ChangeSpec := { name := "fnExactEqualTo", fn := fun _ => fun
  | [d1, d2, d3] => { results := [.lit (.bool false)], args := [d1, d2, d3] }
  | _ => none }
def FnExactEqualToWrongFalsely : Prop := fnExactEqualToRow.holds Try.pinned (OpenSpec.ofChange fnExactEqualToWrong)

/-- 'laws.FnReachOf': WHATEVER THE INPUT: true; the input reads as it did. -/
def fnReachOfSpec : ChangeSpec := { name := "fnReachOf", fn := fun _ => fun
  | [d] => { results := [.lit (.bool true)], args := [d] }
  | _ => none }
def fnReachOfRow : OpenClaim := { program := "ytfhakhbmbnbneaa", sum := "b032f524a6ad1198081f32c9933ede5520ff5d1879b3b8f70cb685627631f931", func := "loop.example/graphcode/laws.FnReachOf", spec := "fnReachOf", unfollowed := true, recurses := true, plainKeys := false, apart := false }
def FnReachOfSaid : Prop := fnReachOfRow.holds Try.pinned (OpenSpec.ofChange fnReachOfSpec)

/-- ITS FALSE NEIGHBOUR: 'it returns false'. Refute it at one input. -/
def fnReachOfWrong : ChangeSpec := { name := "fnReachOf", fn := fun _ => fun
  | [d] => { results := [.lit (.bool false)], args := [d] }
  | _ => none }
def FnReachOfWrongFalsely : Prop := fnReachOfRow.holds Try.pinned (OpenSpec.ofChange fnReachOfWrong)

/-- 'laws.FnExactReachOf': WHATEVER THE INPUT: true; the input reads as it did. -/
def fnExactReachOfSpec : ChangeSpec := { name := "fnExactReachOf", fn := fun _ => fun
  | [d] => { results := [.lit (.bool true)], args := [d] }
  | _ => none }
def fnExactReachOfRow : OpenClaim := { program := "ytfhakhbmbnbneaa", sum := "b032f524a6ad1198081f32c9933ede5520ff5d1879b3b8f70cb685627631f931", func := "loop.example/graphcode/laws.FnExactReachOf", spec := "fnExactReachOf", unfollowed := true, recurses := true, plainKeys := false, apart := false }
def FnExactReachOfSaid : Prop := fnExactReachOfRow.holds Try.pinned (OpenSpec.ofChange fnExactReachOfSpec)

/-- ITS FALSE NEIGHBOUR: 'it returns false'. Refute it at one input. -/
def fnExactReachOfWrong : ChangeSpec := { name := "fnExactReachOf", fn := fun _ => fun
  | [d] => { results := [.lit (.bool false)], args := [d] }
  | _ => none }
def FnExactReachOfWrongFalsely : Prop := fnExactReachOfRow.holds Try.pinned (OpenSpec.ofChange fnExactReachOfWrong)

/-- 'laws.FnExactSameGraph': WHATEVER THE INPUT: true; the input reads as it did. -/
def fnExactSameGraphSpec : ChangeSpec := { name := "fnExactSameGraph", fn := fun _ => fun
  | [d1, d2] => { results := [.lit (.bool true)], args := [d1, d2] }
  | _ => none }
def fnExactSameGraphRow : OpenClaim := { program := "ytfhakhbmbnbneaa", sum := "b032f524a6ad1198081f32c9933ede5520ff5d1879b3b8f70cb685627631f931", func := "loop.example/graphcode/laws.FnExactSameGraph", spec := "fnExactSameGraph", unfollowed := true, recurses := true, plainKeys := false, apart := false }
def FnExactSameGraphSaid : Prop := fnExactSameGraphRow.holds Try.pinned (OpenSpec.ofChange fnExactSameGraphSpec)

/-- ITS FALSE NEIGHBOUR: 'it returns false'. Refute it at one input. -/
def fnExactSameGraphWrong : ChangeSpec := { name := "fnExactSameGraph", fn := fun _ => fun
  | [d1, d2] => { results := [.lit (.bool false)], args := [d1, d2] }
  | _ => none }
def FnExactSameGraphWrongFalsely : Prop := fnExactSameGraphRow.holds Try.pinned (OpenSpec.ofChange fnExactSameGraphWrong)

/-- 'laws.FnExactCodeOf': WHATEVER THE INPUT: true; the input reads as it did. -/
def fnExactCodeOfSpec : ChangeSpec := { name := "fnExactCodeOf", fn := fun _ => fun
  | [d] => { results := [.lit (.bool true)], args := [d] }
  | _ => none }
def fnExactCodeOfRow : OpenClaim := { program := "ytfhakhbmbnbneaa", sum := "b032f524a6ad1198081f32c9933ede5520ff5d1879b3b8f70cb685627631f931", func := "loop.example/graphcode/laws.FnExactCodeOf", spec := "fnExactCodeOf", unfollowed := true, recurses := true, plainKeys := false, apart := false }
def FnExactCodeOfSaid : Prop := fnExactCodeOfRow.holds Try.pinned (OpenSpec.ofChange fnExactCodeOfSpec)

/-- ITS FALSE NEIGHBOUR: 'it returns false'. Refute it at one input. -/
def fnExactCodeOfWrong : ChangeSpec := { name := "fnExactCodeOf", fn := fun _ => fun
  | [d] => { results := [.lit (.bool false)], args := [d] }
  | _ => none }
def FnExactCodeOfWrongFalsely : Prop := fnExactCodeOfRow.holds Try.pinned (OpenSpec.ofChange fnExactCodeOfWrong)

/-- 'laws.FnCodeOf': WHATEVER THE INPUT: true; the input reads as it did. -/
def fnCodeOfSpec : ChangeSpec := { name := "fnCodeOf", fn := fun _ => fun
  | [d] => { results := [.lit (.bool true)], args := [d] }
  | _ => none }
def fnCodeOfRow : OpenClaim := { program := "ytfhakhbmbnbneaa", sum := "b032f524a6ad1198081f32c9933ede5520ff5d1879b3b8f70cb685627631f931", func := "loop.example/graphcode/laws.FnCodeOf", spec := "fnCodeOf", unfollowed := true, recurses := true, plainKeys := false, apart := false }
def FnCodeOfSaid : Prop := fnCodeOfRow.holds Try.pinned (OpenSpec.ofChange fnCodeOfSpec)

/-- ITS FALSE NEIGHBOUR: 'it returns false'. Refute it at one input. -/
def fnCodeOfWrong : ChangeSpec := { name := "fnCodeOf", fn := fun _ => fun
  | [d] => { results := [.lit (.bool false)], args := [d] }
  | _ => none }
def FnCodeOfWrongFalsely : Prop := fnCodeOfRow.holds Try.pinned (OpenSpec.ofChange fnCodeOfWrong)

/-- 'laws.FnExactShallowCopy': WHATEVER THE INPUT: true; the input reads as it did. -/
def fnExactShallowCopySpec : ChangeSpec := { name := "fnExactShallowCopy", fn := fun _ => fun
  | [d] => { results := [.lit (.bool true)], args := [d] }
  | _ => none }
def fnExactShallowCopyRow : OpenClaim := { program := "ytfhakhbmbnbneaa", sum := "b032f524a6ad1198081f32c9933ede5520ff5d1879b3b8f70cb685627631f931", func := "loop.example/graphcode/laws.FnExactShallowCopy", spec := "fnExactShallowCopy", unfollowed := true, recurses := true, plainKeys := false, apart := false }
def FnExactShallowCopySaid : Prop := fnExactShallowCopyRow.holds Try.pinned (OpenSpec.ofChange fnExactShallowCopySpec)

/-- ITS FALSE NEIGHBOUR: 'it returns false'. Refute it at one input. -/
def fnExactShallowCopyWrong : ChangeSpec := { name := "fnExactShallowCopy", fn := fun _ => fun
  | [d] => { results := [.lit (.bool false)], args := [d] }
  | _ => none }
def FnExactShallowCopyWrongFalsely : Prop := fnExactShallowCopyRow.holds Try.pinned (OpenSpec.ofChange fnExactShallowCopyWrong)

/- THE SECOND FORM. 'bulk': how many values and letters a reading holds, each counted each time it is reached (what is shared counts as often as it is met; a slice's spare places count too). A statement '..UptoSaid' is the law's where the arguments, and the package variables that the reading takes, are together of bulk at most 1048576: NARROWER than '..Said'. Prove '..Said' where nothing that the law and all that it calls make is longer than what came in: it says more and counts as full. Else prove '..UptoSaid'. A law counts once. -/
mutual
def uptoBulk {H : Type} : DataW H → Nat
  | .lit (.string bytes) => bytes.length + 1
  | .lit _ => 1
  | .nil => 1
  | .ptr d => uptoBulk d + 1
  | .slice elems spare => uptoBulkAll elems + uptoBulkAll spare + 1
  | .agg parts => uptoBulkAll parts + 1
  | .iface _ d => uptoBulk d + 1
  | .map entries => uptoBulkEntries entries + 1
  | .held _ => 1
def uptoBulkAll {H : Type} : List (DataW H) → Nat
  | [] => 0
  | d :: r => uptoBulk d + uptoBulkAll r
def uptoBulkEntries {H : Type} : List (Lit × DataW H) → Nat
  | [] => 0
  | x :: r => uptoBulkEntry x + uptoBulkEntries r
def uptoBulkEntry {H : Type} : Lit × DataW H → Nat
  | (.string bytes, d) => bytes.length + uptoBulk d + 1
  | (_, d) => uptoBulk d + 1
 end
def uptoSmall : (H : Type) → List (DataW H) → Bool := fun _ ds => decide (uptoBulkAll ds ≤ 1048576)
def OpenSpec.upto (s : _root_.Go.ChangeSpec) : _root_.Go.OpenSpec := { _root_.Go.OpenSpec.ofChange s with cond := some uptoSmall }

/-- 'laws.FnExactEqualDeep', WHERE WHAT IT READS IS OF BULK AT MOST 1048576: true; the input reads as it did. -/
def fnExactEqualDeepUptoRow : OpenClaim := { program := "ytfhakhbmbnbneaa", sum := "b032f524a6ad1198081f32c9933ede5520ff5d1879b3b8f70cb685627631f931", func := "loop.example/graphcode/laws.FnExactEqualDeep", spec := "fnExactEqualDeep", unfollowed := true, recurses := true, plainKeys := false, apart := false, narrowed := true }
def FnExactEqualDeepUptoSaid : Prop := fnExactEqualDeepUptoRow.holds Try.pinned (OpenSpec.upto fnExactEqualDeepSpec)

/-- 'laws.FnExactPrunedGraph', WHERE WHAT IT READS IS OF BULK AT MOST 1048576: true; the input reads as it did. -/
def fnExactPrunedGraphUptoRow : OpenClaim := { program := "ytfhakhbmbnbneaa", sum := "b032f524a6ad1198081f32c9933ede5520ff5d1879b3b8f70cb685627631f931", func := "loop.example/graphcode/laws.FnExactPrunedGraph", spec := "fnExactPrunedGraph", unfollowed := true, recurses := true, plainKeys := false, apart := false, narrowed := true }
def FnExactPrunedGraphUptoSaid : Prop := fnExactPrunedGraphUptoRow.holds Try.pinned (OpenSpec.upto fnExactPrunedGraphSpec)

/-- 'laws.FnPrunedGraph', WHERE WHAT IT READS IS OF BULK AT MOST 1048576: true; the input reads as it did. -/
def fnPrunedGraphUptoRow : OpenClaim := { program := "ytfhakhbmbnbneaa", sum := "b032f524a6ad1198081f32c9933ede5520ff5d1879b3b8f70cb685627631f931", func := "loop.example/graphcode/laws.FnPrunedGraph", spec := "fnPrunedGraph", unfollowed := true, recurses := true, plainKeys := false, apart := false, narrowed := true }
def FnPrunedGraphUptoSaid : Prop := fnPrunedGraphUptoRow.holds Try.pinned (OpenSpec.upto fnPrunedGraphSpec)

/-- 'laws.FnValidGraph', WHERE WHAT IT READS IS OF BULK AT MOST 1048576: true; the input reads as it did. -/
def fnValidGraphUptoRow : OpenClaim := { program := "ytfhakhbmbnbneaa", sum := "b032f524a6ad1198081f32c9933ede5520ff5d1879b3b8f70cb685627631f931", func := "loop.example/graphcode/laws.FnValidGraph", spec := "fnValidGraph", unfollowed := true, recurses := true, plainKeys := false, apart := false, narrowed := true }
def FnValidGraphUptoSaid : Prop := fnValidGraphUptoRow.holds Try.pinned (OpenSpec.upto fnValidGraphSpec)

/-- 'laws.FnExactValidGraph', WHERE WHAT IT READS IS OF BULK AT MOST 1048576: true; the input reads as it did. -/
def fnExactValidGraphUptoRow : OpenClaim := { program := "ytfhakhbmbnbneaa", sum := "b032f524a6ad1198081f32c9933ede5520ff5d1879b3b8f70cb685627631f931", func := "loop.example/graphcode/laws.FnExactValidGraph", spec := "fnExactValidGraph", unfollowed := true, recurses := true, plainKeys := false, apart := false, narrowed := true }
def FnExactValidGraphUptoSaid : Prop := fnExactValidGraphUptoRow.holds Try.pinned (OpenSpec.upto fnExactValidGraphSpec)

/-- 'laws.FnExactEqualTo', WHERE WHAT IT READS IS OF BULK AT MOST 1048576: true; the input reads as it did. -/
def fnExactEqualToUptoRow : OpenClaim := { program := "ytfhakhbmbnbneaa", sum := "b032f524a6ad1198081f32c9933ede5520ff5d1879b3b8f70cb685627631f931", func := "loop.example/graphcode/laws.FnExactEqualTo", spec := "fnExactEqualTo", unfollowed := true, recurses := true, plainKeys := false, apart := false, narrowed := true }
def FnExactEqualToUptoSaid : Prop := fnExactEqualToUptoRow.holds Try.pinned (OpenSpec.upto fnExactEqualToSpec)

/-- 'laws.FnReachOf', WHERE WHAT IT READS IS OF BULK AT MOST 1048576: true; the input reads as it did. -/
def fnReachOfUptoRow : OpenClaim := { program := "ytfhakhbmbnbneaa", sum := "b032f524a6ad1198081f32c9933ede5520ff5d1879b3b8f70cb685627631f931", func := "loop.example/graphcode/laws.FnReachOf", spec := "fnReachOf", unfollowed := true, recurses := true, plainKeys := false, apart := false, narrowed := true }
def FnReachOfUptoSaid : Prop := fnReachOfUptoRow.holds Try.pinned (OpenSpec.upto fnReachOfSpec)

/-- 'laws.FnExactReachOf', WHERE WHAT IT READS IS OF BULK AT MOST 1048576: true; the input reads as it did. -/
def fnExactReachOfUptoRow : OpenClaim := { program := "ytfhakhbmbnbneaa", sum := "b032f524a6ad1198081f32c9933ede5520ff5d1879b3b8f70cb685627631f931", func := "loop.example/graphcode/laws.FnExactReachOf", spec := "fnExactReachOf", unfollowed := true, recurses := true, plainKeys := false, apart := false, narrowed := true }
def FnExactReachOfUptoSaid : Prop := fnExactReachOfUptoRow.holds Try.pinned (OpenSpec.upto fnExactReachOfSpec)

/-- 'laws.FnExactSameGraph', WHERE WHAT IT READS IS OF BULK AT MOST 1048576: true; the input reads as it did. -/
def fnExactSameGraphUptoRow : OpenClaim := { program := "ytfhakhbmbnbneaa", sum := "b032f524a6ad1198081f32c9933ede5520ff5d1879b3b8f70cb685627631f931", func := "loop.example/graphcode/laws.FnExactSameGraph", spec := "fnExactSameGraph", unfollowed := true, recurses := true, plainKeys := false, apart := false, narrowed := true }
def FnExactSameGraphUptoSaid : Prop := fnExactSameGraphUptoRow.holds Try.pinned (OpenSpec.upto fnExactSameGraphSpec)

/-- 'laws.FnExactCodeOf', WHERE WHAT IT READS IS OF BULK AT MOST 1048576: true; the input reads as it did. -/
def fnExactCodeOfUptoRow : OpenClaim := { program := "ytfhakhbmbnbneaa", sum := "b032f524a6ad1198081f32c9933ede5520ff5d1879b3b8f70cb685627631f931", func := "loop.example/graphcode/laws.FnExactCodeOf", spec := "fnExactCodeOf", unfollowed := true, recurses := true, plainKeys := false, apart := false, narrowed := true }
def FnExactCodeOfUptoSaid : Prop := fnExactCodeOfUptoRow.holds Try.pinned (OpenSpec.upto fnExactCodeOfSpec)

/-- 'laws.FnCodeOf', WHERE WHAT IT READS IS OF BULK AT MOST 1048576: true; the input reads as it did. -/
def fnCodeOfUptoRow : OpenClaim := { program := "ytfhakhbmbnbneaa", sum := "b032f524a6ad1198081f32c9933ede5520ff5d1879b3b8f70cb685627631f931", func := "loop.example/graphcode/laws.FnCodeOf", spec := "fnCodeOf", unfollowed := true, recurses := true, plainKeys := false, apart := false, narrowed := true }
def FnCodeOfUptoSaid : Prop := fnCodeOfUptoRow.holds Try.pinned (OpenSpec.upto fnCodeOfSpec)

/-- 'laws.FnExactShallowCopy', WHERE WHAT IT READS IS OF BULK AT MOST 1048576: true; the input reads as it did. -/
def fnExactShallowCopyUptoRow : OpenClaim := { program := "ytfhakhbmbnbneaa", sum := "b032f524a6ad1198081f32c9933ede5520ff5d1879b3b8f70cb685627631f931", func := "loop.example/graphcode/laws.FnExactShallowCopy", spec := "fnExactShallowCopy", unfollowed := true, recurses := true, plainKeys := false, apart := false, narrowed := true }
def FnExactShallowCopyUptoSaid : Prop := fnExactShallowCopyUptoRow.holds Try.pinned (OpenSpec.upto fnExactShallowCopySpec)

end Rows
end Go.Proofs.Ytfhakhbmbnbneaa
