/-
  No cell of these rows narrows 'for every input' (looked for: loops, veiled, ifaces, maps, wideKeys, modest, calm, conditions, laid).
  DERIVED. THE GIVEN ROWS OF THIS SEAT. 12 by the template 'for every input the law returns true; each argument reads behind the call as it read before'; 0 by the template 'total and deterministic' (their statements: YtonppkaobnfldaaTotals.lean).
  GIVEN WITH THE SEED: the statements are not yours to turn. If you find one false, say at which input.
  Laid BY PROGRAM, IN A SANDBOX (cutbox-rows.mjs): the forced cells as the released guide's own fill.sh prints them over the translation 98e4fbf64d9c6f75… (all of the seat's roots in one cut). By AI agents, Wed Nov 11 2026. No macro, syntax, notation, axiom, sorry.
-/
import Derived.Test.YtonppkaobnfldaaChecked
import GoSem.Claim
import GoSem.ClaimJoined
import GoSem.ClaimMapViews
import Derived.JoinedTies
import Derived.KernelRfl
namespace Go.Proofs.Ytonppkaobnfldaa
/- THE CELL 'sum', in the pinned program and in every row, IS THE sha256 OF THE DUMP (.gsa) THAT YtonppkaobnfldaaProg.lean LOADS. Nothing in Lean hashes anything: it is a label: what it is worth is what the hold of that sum in a sandbox is worth. -/
noncomputable def Try.pinned : Pinned := { name := "ytonppkaobnfldaa", sum := "98e4fbf64d9c6f753b0fd148556a0014e9b99073643b44ccfac99975f5ee5088", checked := Try.checked }
namespace Rows
def none {H : Type} : Left H := { results := [], args := [] }

/-- 'laws.FnExactValidOps': WHATEVER THE INPUT: true; the input reads as it did. -/
def fnExactValidOpsSpec : ChangeSpec := { name := "fnExactValidOps", fn := fun _ => fun
  | [d] => { results := [.lit (.bool true)], args := [d] }
  | _ => none }
def fnExactValidOpsRow : OpenClaim := { program := "ytonppkaobnfldaa", sum := "98e4fbf64d9c6f753b0fd148556a0014e9b99073643b44ccfac99975f5ee5088", func := "loop.example/graphcode/laws.FnExactValidOps", spec := "fnExactValidOps", apart := false }
def FnExactValidOpsSaid : Prop := fnExactValidOpsRow.holds Try.pinned (OpenSpec.ofChange fnExactValidOpsSpec)

/-- ITS FALSE NEIGHBOUR: 'it returns false'. Refute it at one input. -/
def fnExactValidOpsWrong : ChangeSpec := { name := "fnExactValidOps", fn := fun _ => fun
  | [d] => { results := [.lit (.bool false)], args := [d] }
  | _ => none }
def FnExactValidOpsWrongFalsely : Prop := fnExactValidOpsRow.holds Try.pinned (OpenSpec.ofChange fnExactValidOpsWrong)

/-- 'laws.FnExactUnframeBytes': WHATEVER THE INPUT: true; the input reads as it did. -/
def fnExactUnframeBytesSpec : ChangeSpec := { name := "fnExactUnframeBytes", fn := fun _ => fun
  | [d] => { results := [.lit (.bool true)], args := [d] }
  | _ => none }
def fnExactUnframeBytesRow : OpenClaim := { program := "ytonppkaobnfldaa", sum := "98e4fbf64d9c6f753b0fd148556a0014e9b99073643b44ccfac99975f5ee5088", func := "loop.example/graphcode/laws.FnExactUnframeBytes", spec := "fnExactUnframeBytes", unfollowed := true, recurses := true, apart := false }
def FnExactUnframeBytesSaid : Prop := fnExactUnframeBytesRow.holds Try.pinned (OpenSpec.ofChange fnExactUnframeBytesSpec)

/-- ITS FALSE NEIGHBOUR: 'it returns false'. Refute it at one input. -/
def fnExactUnframeBytesWrong : ChangeSpec := { name := "fnExactUnframeBytes", fn := fun _ => fun
  | [d] => { results := [.lit (.bool false)], args := [d] }
  | _ => none }
def FnExactUnframeBytesWrongFalsely : Prop := fnExactUnframeBytesRow.holds Try.pinned (OpenSpec.ofChange fnExactUnframeBytesWrong)

/-- 'laws.FnExactIsShort': WHATEVER THE INPUT: true; the input reads as it did. -/
def fnExactIsShortSpec : ChangeSpec := { name := "fnExactIsShort", fn := fun _ => fun
  | [d] => { results := [.lit (.bool true)], args := [d] }
  | _ => none }
def fnExactIsShortRow : OpenClaim := { program := "ytonppkaobnfldaa", sum := "98e4fbf64d9c6f753b0fd148556a0014e9b99073643b44ccfac99975f5ee5088", func := "loop.example/graphcode/laws.FnExactIsShort", spec := "fnExactIsShort", unfollowed := true, recurses := true, apart := false }
def FnExactIsShortSaid : Prop := fnExactIsShortRow.holds Try.pinned (OpenSpec.ofChange fnExactIsShortSpec)

/-- ITS FALSE NEIGHBOUR: 'it returns false'. Refute it at one input. -/
def fnExactIsShortWrong : ChangeSpec := { name := "fnExactIsShort", fn := fun _ => fun
  | [d] => { results := [.lit (.bool false)], args := [d] }
  | _ => none }
def FnExactIsShortWrongFalsely : Prop := fnExactIsShortRow.holds Try.pinned (OpenSpec.ofChange fnExactIsShortWrong)

/-- 'laws.FnExactPlacesOf': WHATEVER THE INPUT: true; the input reads as it did. -/
def fnExactPlacesOfSpec : ChangeSpec := { name := "fnExactPlacesOf", fn := fun _ => fun
  | [d] => { results := [.lit (.bool true)], args := [d] }
  | _ => none }
def fnExactPlacesOfRow : OpenClaim := { program := "ytonppkaobnfldaa", sum := "98e4fbf64d9c6f753b0fd148556a0014e9b99073643b44ccfac99975f5ee5088", func := "loop.example/graphcode/laws.FnExactPlacesOf", spec := "fnExactPlacesOf", apart := false }
def FnExactPlacesOfSaid : Prop := fnExactPlacesOfRow.holds Try.pinned (OpenSpec.ofChange fnExactPlacesOfSpec)

/-- ITS FALSE NEIGHBOUR: 'it returns false'. Refute it at one input. -/
def fnExactPlacesOfWrong : ChangeSpec := { name := "fnExactPlacesOf", fn := fun _ => fun
  | [d] => { results := [.lit (.bool false)], args := [d] }
  | _ => none }
def FnExactPlacesOfWrongFalsely : Prop := fnExactPlacesOfRow.holds Try.pinned (OpenSpec.ofChange fnExactPlacesOfWrong)

/-- 'laws.FnExactSizeOf': WHATEVER THE INPUT: true; the input reads as it did. -/
def fnExactSizeOfSpec : ChangeSpec := { name := "fnExactSizeOf", fn := fun _ => fun
  | [d] => { results := [.lit (.bool true)], args := [d] }
  | _ => none }
def fnExactSizeOfRow : OpenClaim := { program := "ytonppkaobnfldaa", sum := "98e4fbf64d9c6f753b0fd148556a0014e9b99073643b44ccfac99975f5ee5088", func := "loop.example/graphcode/laws.FnExactSizeOf", spec := "fnExactSizeOf", apart := false }
def FnExactSizeOfSaid : Prop := fnExactSizeOfRow.holds Try.pinned (OpenSpec.ofChange fnExactSizeOfSpec)

/-- ITS FALSE NEIGHBOUR: 'it returns false'. Refute it at one input. -/
def fnExactSizeOfWrong : ChangeSpec := { name := "fnExactSizeOf", fn := fun _ => fun
  | [d] => { results := [.lit (.bool false)], args := [d] }
  | _ => none }
def FnExactSizeOfWrongFalsely : Prop := fnExactSizeOfRow.holds Try.pinned (OpenSpec.ofChange fnExactSizeOfWrong)

/-- 'laws.FnExactCountCodes': WHATEVER THE INPUT: true; the input reads as it did. -/
def fnExactCountCodesSpec : ChangeSpec := { name := "fnExactCountCodes", fn := fun _ => fun
  | [d] => { results := [.lit (.bool true)], args := [d] }
  | _ => none }
def fnExactCountCodesRow : OpenClaim := { program := "ytonppkaobnfldaa", sum := "98e4fbf64d9c6f753b0fd148556a0014e9b99073643b44ccfac99975f5ee5088", func := "loop.example/graphcode/laws.FnExactCountCodes", spec := "fnExactCountCodes", apart := false }
def FnExactCountCodesSaid : Prop := fnExactCountCodesRow.holds Try.pinned (OpenSpec.ofChange fnExactCountCodesSpec)

/-- ITS FALSE NEIGHBOUR: 'it returns false'. Refute it at one input. -/
def fnExactCountCodesWrong : ChangeSpec := { name := "fnExactCountCodes", fn := fun _ => fun
  | [d] => { results := [.lit (.bool false)], args := [d] }
  | _ => none }
def FnExactCountCodesWrongFalsely : Prop := fnExactCountCodesRow.holds Try.pinned (OpenSpec.ofChange fnExactCountCodesWrong)

/-- 'laws.FnExactEncodeOps': WHATEVER THE INPUT: true; the input reads as it did. -/
def fnExactEncodeOpsSpec : ChangeSpec := { name := "fnExactEncodeOps", fn := fun _ => fun
  | [d] => { results := [.lit (.bool true)], args := [d] }
  | _ => none }
def fnExactEncodeOpsRow : OpenClaim := { program := "ytonppkaobnfldaa", sum := "98e4fbf64d9c6f753b0fd148556a0014e9b99073643b44ccfac99975f5ee5088", func := "loop.example/graphcode/laws.FnExactEncodeOps", spec := "fnExactEncodeOps", apart := false }
def FnExactEncodeOpsSaid : Prop := fnExactEncodeOpsRow.holds Try.pinned (OpenSpec.ofChange fnExactEncodeOpsSpec)

/-- ITS FALSE NEIGHBOUR: 'it returns false'. Refute it at one input. -/
def fnExactEncodeOpsWrong : ChangeSpec := { name := "fnExactEncodeOps", fn := fun _ => fun
  | [d] => { results := [.lit (.bool false)], args := [d] }
  | _ => none }
def FnExactEncodeOpsWrongFalsely : Prop := fnExactEncodeOpsRow.holds Try.pinned (OpenSpec.ofChange fnExactEncodeOpsWrong)

/-- 'laws.FnExactSplitStops': WHATEVER THE INPUT: true; the input reads as it did. -/
def fnExactSplitStopsSpec : ChangeSpec := { name := "fnExactSplitStops", fn := fun _ => fun
  | [d] => { results := [.lit (.bool true)], args := [d] }
  | _ => none }
def fnExactSplitStopsRow : OpenClaim := { program := "ytonppkaobnfldaa", sum := "98e4fbf64d9c6f753b0fd148556a0014e9b99073643b44ccfac99975f5ee5088", func := "loop.example/graphcode/laws.FnExactSplitStops", spec := "fnExactSplitStops", apart := false }
def FnExactSplitStopsSaid : Prop := fnExactSplitStopsRow.holds Try.pinned (OpenSpec.ofChange fnExactSplitStopsSpec)

/-- ITS FALSE NEIGHBOUR: 'it returns false'. Refute it at one input. -/
def fnExactSplitStopsWrong : ChangeSpec := { name := "fnExactSplitStops", fn := fun _ => fun
  | [d] => { results := [.lit (.bool false)], args := [d] }
  | _ => none }
def FnExactSplitStopsWrongFalsely : Prop := fnExactSplitStopsRow.holds Try.pinned (OpenSpec.ofChange fnExactSplitStopsWrong)

/-- 'laws.FnExactIdlePuts': WHATEVER THE INPUT: true; the input reads as it did. -/
def fnExactIdlePutsSpec : ChangeSpec := { name := "fnExactIdlePuts", fn := fun _ => fun
  | [d] => { results := [.lit (.bool true)], args := [d] }
  | _ => none }
def fnExactIdlePutsRow : OpenClaim := { program := "ytonppkaobnfldaa", sum := "98e4fbf64d9c6f753b0fd148556a0014e9b99073643b44ccfac99975f5ee5088", func := "loop.example/graphcode/laws.FnExactIdlePuts", spec := "fnExactIdlePuts", apart := false }
def FnExactIdlePutsSaid : Prop := fnExactIdlePutsRow.holds Try.pinned (OpenSpec.ofChange fnExactIdlePutsSpec)

/-- ITS FALSE NEIGHBOUR: 'it returns false'. Refute it at one input. -/
def fnExactIdlePutsWrong : ChangeSpec := { name := "fnExactIdlePuts", fn := fun _ => fun
  | [d] => { results := [.lit (.bool false)], args := [d] }
  | _ => none }
def FnExactIdlePutsWrongFalsely : Prop := fnExactIdlePutsRow.holds Try.pinned (OpenSpec.ofChange fnExactIdlePutsWrong)

/-- 'laws.FnExactDecodeTorn': WHATEVER THE INPUT: true; the input reads as it did. -/
def fnExactDecodeTornSpec : ChangeSpec := { name := "fnExactDecodeTorn", fn := fun _ => fun
  | [d] => { results := [.lit (.bool true)], args := [d] }
  | _ => none }
def fnExactDecodeTornRow : OpenClaim := { program := "ytonppkaobnfldaa", sum := "98e4fbf64d9c6f753b0fd148556a0014e9b99073643b44ccfac99975f5ee5088", func := "loop.example/graphcode/laws.FnExactDecodeTorn", spec := "fnExactDecodeTorn", unfollowed := true, recurses := true, apart := false }
def FnExactDecodeTornSaid : Prop := fnExactDecodeTornRow.holds Try.pinned (OpenSpec.ofChange fnExactDecodeTornSpec)

/-- ITS FALSE NEIGHBOUR: 'it returns false'. Refute it at one input. -/
def fnExactDecodeTornWrong : ChangeSpec := { name := "fnExactDecodeTorn", fn := fun _ => fun
  | [d] => { results := [.lit (.bool false)], args := [d] }
  | _ => none }
def FnExactDecodeTornWrongFalsely : Prop := fnExactDecodeTornRow.holds Try.pinned (OpenSpec.ofChange fnExactDecodeTornWrong)

/-- 'laws.FnExactDecodeOps': WHATEVER THE INPUT: true; the input reads as it did. -/
def fnExactDecodeOpsSpec : ChangeSpec := { name := "fnExactDecodeOps", fn := fun _ => fun
  | [d] => { results := [.lit (.bool true)], args := [d] }
  | _ => none }
def fnExactDecodeOpsRow : OpenClaim := { program := "ytonppkaobnfldaa", sum := "98e4fbf64d9c6f753b0fd148556a0014e9b99073643b44ccfac99975f5ee5088", func := "loop.example/graphcode/laws.FnExactDecodeOps", spec := "fnExactDecodeOps", unfollowed := true, recurses := true, apart := false }
def FnExactDecodeOpsSaid : Prop := fnExactDecodeOpsRow.holds Try.pinned (OpenSpec.ofChange fnExactDecodeOpsSpec)

/-- ITS FALSE NEIGHBOUR: 'it returns false'. Refute it at one input. -/
def fnExactDecodeOpsWrong : ChangeSpec := { name := "fnExactDecodeOps", fn := fun _ => fun
  | [d] => { results := [.lit (.bool false)], args := [d] }
  | _ => none }
def FnExactDecodeOpsWrongFalsely : Prop := fnExactDecodeOpsRow.holds Try.pinned (OpenSpec.ofChange fnExactDecodeOpsWrong)

/-- 'laws.FnExactLeanOps': WHATEVER THE INPUT: true; the input reads as it did. -/
def fnExactLeanOpsSpec : ChangeSpec := { name := "fnExactLeanOps", fn := fun _ => fun
  | [d] => { results := [.lit (.bool true)], args := [d] }
  | _ => none }
def fnExactLeanOpsRow : OpenClaim := { program := "ytonppkaobnfldaa", sum := "98e4fbf64d9c6f753b0fd148556a0014e9b99073643b44ccfac99975f5ee5088", func := "loop.example/graphcode/laws.FnExactLeanOps", spec := "fnExactLeanOps", apart := false }
def FnExactLeanOpsSaid : Prop := fnExactLeanOpsRow.holds Try.pinned (OpenSpec.ofChange fnExactLeanOpsSpec)

/-- ITS FALSE NEIGHBOUR: 'it returns false'. Refute it at one input. -/
def fnExactLeanOpsWrong : ChangeSpec := { name := "fnExactLeanOps", fn := fun _ => fun
  | [d] => { results := [.lit (.bool false)], args := [d] }
  | _ => none }
def FnExactLeanOpsWrongFalsely : Prop := fnExactLeanOpsRow.holds Try.pinned (OpenSpec.ofChange fnExactLeanOpsWrong)

/- THE SECOND FORM. 'bulk': how many values and letters a reading holds, each counted each time it is reached (what is shared counts as often as it is met; a slice's spare places count too). A statement '..UptoSaid' is the law's where the arguments, and the package variables that the reading takes, are together of bulk at most 1048576: NARROWER than '..Said'. Prove '..Said' where nothing that the law and all that it calls make is longer than what came in: it says more and counts as full. Else prove '..UptoSaid'. A law counts once. -/
mutual
def uptoBulk {H : Type} : DataW H → Nat
  | .lit (.string bytes) => bytes.length + 1
  | .lit _ => 1
  | .nil => 1
  | .ptr d => uptoBulk d + 1
  | .slice elems spare => uptoBulkAll elems + uptoBulkAll spare + 1
  | .agg parts => uptoBulkAll parts + 1
  | .iface _ d => uptoBulk d + 1
  | .map entries => uptoBulkEntries entries + 1
  | .held _ => 1
def uptoBulkAll {H : Type} : List (DataW H) → Nat
  | [] => 0
  | d :: r => uptoBulk d + uptoBulkAll r
def uptoBulkEntries {H : Type} : List (Lit × DataW H) → Nat
  | [] => 0
  | x :: r => uptoBulkEntry x + uptoBulkEntries r
def uptoBulkEntry {H : Type} : Lit × DataW H → Nat
  | (.string bytes, d) => bytes.length + uptoBulk d + 1
  | (_, d) => uptoBulk d + 1
 end
def uptoSmall : (H : Type) → List (DataW H) → Bool := fun _ ds => decide (uptoBulkAll ds ≤ 1048576)
def OpenSpec.upto (s : _root_.Go.ChangeSpec) : _root_.Go.OpenSpec := { _root_.Go.OpenSpec.ofChange s with cond := some uptoSmall }

/-- 'laws.FnExactValidOps', WHERE WHAT IT READS IS OF BULK AT MOST 1048576: true; the input reads as it did. -/
def fnExactValidOpsUptoRow : OpenClaim := { program := "ytonppkaobnfldaa", sum := "98e4fbf64d9c6f753b0fd148556a0014e9b99073643b44ccfac99975f5ee5088", func := "loop.example/graphcode/laws.FnExactValidOps", spec := "fnExactValidOps", apart := false, narrowed := true }
def FnExactValidOpsUptoSaid : Prop := fnExactValidOpsUptoRow.holds Try.pinned (OpenSpec.upto fnExactValidOpsSpec)

/-- 'laws.FnExactUnframeBytes', WHERE WHAT IT READS IS OF BULK AT MOST 1048576: true; the input reads as it did. -/
def fnExactUnframeBytesUptoRow : OpenClaim := { program := "ytonppkaobnfldaa", sum := "98e4fbf64d9c6f753b0fd148556a0014e9b99073643b44ccfac99975f5ee5088", func := "loop.example/graphcode/laws.FnExactUnframeBytes", spec := "fnExactUnframeBytes", unfollowed := true, recurses := true, apart := false, narrowed := true }
def FnExactUnframeBytesUptoSaid : Prop := fnExactUnframeBytesUptoRow.holds Try.pinned (OpenSpec.upto fnExactUnframeBytesSpec)

/-- 'laws.FnExactIsShort', WHERE WHAT IT READS IS OF BULK AT MOST 1048576: true; the input reads as it did. -/
def fnExactIsShortUptoRow : OpenClaim := { program := "ytonppkaobnfldaa", sum := "98e4fbf64d9c6f753b0fd148556a0014e9b99073643b44ccfac99975f5ee5088", func := "loop.example/graphcode/laws.FnExactIsShort", spec := "fnExactIsShort", unfollowed := true, recurses := true, apart := false, narrowed := true }
def FnExactIsShortUptoSaid : Prop := fnExactIsShortUptoRow.holds Try.pinned (OpenSpec.upto fnExactIsShortSpec)

/-- 'laws.FnExactPlacesOf', WHERE WHAT IT READS IS OF BULK AT MOST 1048576: true; the input reads as it did. -/
def fnExactPlacesOfUptoRow : OpenClaim := { program := "ytonppkaobnfldaa", sum := "98e4fbf64d9c6f753b0fd148556a0014e9b99073643b44ccfac99975f5ee5088", func := "loop.example/graphcode/laws.FnExactPlacesOf", spec := "fnExactPlacesOf", apart := false, narrowed := true }
def FnExactPlacesOfUptoSaid : Prop := fnExactPlacesOfUptoRow.holds Try.pinned (OpenSpec.upto fnExactPlacesOfSpec)

/-- 'laws.FnExactSizeOf', WHERE WHAT IT READS IS OF BULK AT MOST 1048576: true; the input reads as it did. -/
def fnExactSizeOfUptoRow : OpenClaim := { program := "ytonppkaobnfldaa", sum := "98e4fbf64d9c6f753b0fd148556a0014e9b99073643b44ccfac99975f5ee5088", func := "loop.example/graphcode/laws.FnExactSizeOf", spec := "fnExactSizeOf", apart := false, narrowed := true }
def FnExactSizeOfUptoSaid : Prop := fnExactSizeOfUptoRow.holds Try.pinned (OpenSpec.upto fnExactSizeOfSpec)

/-- 'laws.FnExactCountCodes', WHERE WHAT IT READS IS OF BULK AT MOST 1048576: true; the input reads as it did. -/
def fnExactCountCodesUptoRow : OpenClaim := { program := "ytonppkaobnfldaa", sum := "98e4fbf64d9c6f753b0fd148556a0014e9b99073643b44ccfac99975f5ee5088", func := "loop.example/graphcode/laws.FnExactCountCodes", spec := "fnExactCountCodes", apart := false, narrowed := true }
def FnExactCountCodesUptoSaid : Prop := fnExactCountCodesUptoRow.holds Try.pinned (OpenSpec.upto fnExactCountCodesSpec)

/-- 'laws.FnExactEncodeOps', WHERE WHAT IT READS IS OF BULK AT MOST 1048576: true; the input reads as it did. -/
def fnExactEncodeOpsUptoRow : OpenClaim := { program := "ytonppkaobnfldaa", sum := "98e4fbf64d9c6f753b0fd148556a0014e9b99073643b44ccfac99975f5ee5088", func := "loop.example/graphcode/laws.FnExactEncodeOps", spec := "fnExactEncodeOps", apart := false, narrowed := true }
def FnExactEncodeOpsUptoSaid : Prop := fnExactEncodeOpsUptoRow.holds Try.pinned (OpenSpec.upto fnExactEncodeOpsSpec)

/-- 'laws.FnExactSplitStops', WHERE WHAT IT READS IS OF BULK AT MOST 1048576: true; the input reads as it did. -/
def fnExactSplitStopsUptoRow : OpenClaim := { program := "ytonppkaobnfldaa", sum := "98e4fbf64d9c6f753b0fd148556a0014e9b99073643b44ccfac99975f5ee5088", func := "loop.example/graphcode/laws.FnExactSplitStops", spec := "fnExactSplitStops", apart := false, narrowed := true }
def FnExactSplitStopsUptoSaid : Prop := fnExactSplitStopsUptoRow.holds Try.pinned (OpenSpec.upto fnExactSplitStopsSpec)

/-- 'laws.FnExactIdlePuts', WHERE WHAT IT READS IS OF BULK AT MOST 1048576: true; the input reads as it did. -/
def fnExactIdlePutsUptoRow : OpenClaim := { program := "ytonppkaobnfldaa", sum := "98e4fbf64d9c6f753b0fd148556a0014e9b99073643b44ccfac99975f5ee5088", func := "loop.example/graphcode/laws.FnExactIdlePuts", spec := "fnExactIdlePuts", apart := false, narrowed := true }
def FnExactIdlePutsUptoSaid : Prop := fnExactIdlePutsUptoRow.holds Try.pinned (OpenSpec.upto fnExactIdlePutsSpec)

/-- 'laws.FnExactDecodeTorn', WHERE WHAT IT READS IS OF BULK AT MOST 1048576: true; the input reads as it did. -/
def fnExactDecodeTornUptoRow : OpenClaim := { program := "ytonppkaobnfldaa", sum := "98e4fbf64d9c6f753b0fd148556a0014e9b99073643b44ccfac99975f5ee5088", func := "loop.example/graphcode/laws.FnExactDecodeTorn", spec := "fnExactDecodeTorn", unfollowed := true, recurses := true, apart := false, narrowed := true }
def FnExactDecodeTornUptoSaid : Prop := fnExactDecodeTornUptoRow.holds Try.pinned (OpenSpec.upto fnExactDecodeTornSpec)

/-- 'laws.FnExactDecodeOps', WHERE WHAT IT READS IS OF BULK AT MOST 1048576: true; the input reads as it did. -/
def fnExactDecodeOpsUptoRow : OpenClaim := { program := "ytonppkaobnfldaa", sum := "98e4fbf64d9c6f753b0fd148556a0014e9b99073643b44ccfac99975f5ee5088", func := "loop.example/graphcode/laws.FnExactDecodeOps", spec := "fnExactDecodeOps", unfollowed := true, recurses := true, apart := false, narrowed := true }
def FnExactDecodeOpsUptoSaid : Prop := fnExactDecodeOpsUptoRow.holds Try.pinned (OpenSpec.upto fnExactDecodeOpsSpec)

/-- 'laws.FnExactLeanOps', WHERE WHAT IT READS IS OF BULK AT MOST 1048576: true; the input reads as it did. -/
def fnExactLeanOpsUptoRow : OpenClaim := { program := "ytonppkaobnfldaa", sum := "98e4fbf64d9c6f753b0fd148556a0014e9b99073643b44ccfac99975f5ee5088", func := "loop.example/graphcode/laws.FnExactLeanOps", spec := "fnExactLeanOps", apart := false, narrowed := true }
def FnExactLeanOpsUptoSaid : Prop := fnExactLeanOpsUptoRow.holds Try.pinned (OpenSpec.upto fnExactLeanOpsSpec)

end Rows
end Go.Proofs.Ytonppkaobnfldaa
