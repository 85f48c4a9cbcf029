/-
  No cell of these rows narrows 'for every input' (looked for: loops, veiled, ifaces, maps, wideKeys, modest, calm, conditions, laid).
  DERIVED. THE GIVEN ROWS OF THIS SEAT. 8 by the template 'for every input the law returns true; each argument reads behind the call as it read before'; 0 by the template 'total and deterministic' (their statements: YtapaegcombfafaaTotals.lean).
  GIVEN WITH THE SEED: the statements are not yours to turn. If you find one false, say at which input.
  Laid BY PROGRAM, IN A SANDBOX (cutbox-rows.mjs): the forced cells as the released guide's own fill.sh prints them over the translation e65b753d1900315c… (all of the seat's roots in one cut). By AI agents, Wed Nov 11 2026. No macro, syntax, notation, axiom, sorry.
-/
import Derived.Test.YtapaegcombfafaaChecked
import GoSem.Claim
import GoSem.ClaimJoined
import GoSem.ClaimMapViews
import Derived.JoinedTies
import Derived.KernelRfl
namespace Go.Proofs.Ytapaegcombfafaa
/- THE CELL 'sum', in the pinned program and in every row, IS THE sha256 OF THE DUMP (.gsa) THAT YtapaegcombfafaaProg.lean LOADS. Nothing in Lean hashes anything: it is a label: what it is worth is what the hold of that sum in a sandbox is worth. -/
noncomputable def Try.pinned : Pinned := { name := "ytapaegcombfafaa", sum := "e65b753d1900315c681ea8ba6274b65b1216f5f09474935ee73807358675f081", checked := Try.checked }
namespace Rows
def none {H : Type} : Left H := { results := [], args := [] }

/-- 'laws.FnCodeMany': WHATEVER THE INPUT: true; the input reads as it did. -/
def fnCodeManySpec : ChangeSpec := { name := "fnCodeMany", fn := fun _ => fun
  | [d] => { results := [.lit (.bool true)], args := [d] }
  | _ => none }
def fnCodeManyRow : OpenClaim := { program := "ytapaegcombfafaa", sum := "e65b753d1900315c681ea8ba6274b65b1216f5f09474935ee73807358675f081", func := "loop.example/graphcode/laws.FnCodeMany", spec := "fnCodeMany", unfollowed := true, recurses := true, apart := false }
def FnCodeManySaid : Prop := fnCodeManyRow.holds Try.pinned (OpenSpec.ofChange fnCodeManySpec)

/-- ITS FALSE NEIGHBOUR: 'it returns false'. Refute it at one input. -/
def fnCodeManyWrong : ChangeSpec := { name := "fnCodeMany", fn := fun _ => fun
  | [d] => { results := [.lit (.bool false)], args := [d] }
  | _ => none }
def FnCodeManyWrongFalsely : Prop := fnCodeManyRow.holds Try.pinned (OpenSpec.ofChange fnCodeManyWrong)

/-- 'laws.FnExactCodeMany': WHATEVER THE INPUT: true; the input reads as it did. -/
def fnExactCodeManySpec : ChangeSpec := { name := "fnExactCodeMany", fn := fun _ => fun
  | [d1, d2] => { results := [.lit (.bool true)], args := [d1, d2] }
  | _ => none }
def fnExactCodeManyRow : OpenClaim := { program := "ytapaegcombfafaa", sum := "e65b753d1900315c681ea8ba6274b65b1216f5f09474935ee73807358675f081", func := "loop.example/graphcode/laws.FnExactCodeMany", spec := "fnExactCodeMany", unfollowed := true, recurses := true, apart := false }
def FnExactCodeManySaid : Prop := fnExactCodeManyRow.holds Try.pinned (OpenSpec.ofChange fnExactCodeManySpec)

/-- ITS FALSE NEIGHBOUR: 'it returns false'. Refute it at one input. -/
def fnExactCodeManyWrong : ChangeSpec := { name := "fnExactCodeMany", fn := fun _ => fun
  | [d1, d2] => { results := [.lit (.bool false)], args := [d1, d2] }
  | _ => none }
def FnExactCodeManyWrongFalsely : Prop := fnExactCodeManyRow.holds Try.pinned (OpenSpec.ofChange fnExactCodeManyWrong)

/-- 'laws.FnExactSharedOf': WHATEVER THE INPUT: true; the input reads as it did. -/
def fnExactSharedOfSpec : ChangeSpec := { name := "fnExactSharedOf", fn := fun _ => fun
  | [d] => { results := [.lit (.bool true)], args := [d] }
  | _ => none }
def fnExactSharedOfRow : OpenClaim := { program := "ytapaegcombfafaa", sum := "e65b753d1900315c681ea8ba6274b65b1216f5f09474935ee73807358675f081", func := "loop.example/graphcode/laws.FnExactSharedOf", spec := "fnExactSharedOf", unfollowed := true, recurses := true, apart := false }
def FnExactSharedOfSaid : Prop := fnExactSharedOfRow.holds Try.pinned (OpenSpec.ofChange fnExactSharedOfSpec)

/-- ITS FALSE NEIGHBOUR: 'it returns false'. Refute it at one input. -/
def fnExactSharedOfWrong : ChangeSpec := { name := "fnExactSharedOf", fn := fun _ => fun
  | [d] => { results := [.lit (.bool false)], args := [d] }
  | _ => none }
def FnExactSharedOfWrongFalsely : Prop := fnExactSharedOfRow.holds Try.pinned (OpenSpec.ofChange fnExactSharedOfWrong)

/-- 'laws.FnClassesOf': WHATEVER THE INPUT: true; the input reads as it did. -/
def fnClassesOfSpec : ChangeSpec := { name := "fnClassesOf", fn := fun _ => fun
  | [d] => { results := [.lit (.bool true)], args := [d] }
  | _ => none }
def fnClassesOfRow : OpenClaim := { program := "ytapaegcombfafaa", sum := "e65b753d1900315c681ea8ba6274b65b1216f5f09474935ee73807358675f081", func := "loop.example/graphcode/laws.FnClassesOf", spec := "fnClassesOf", unfollowed := true, recurses := true, apart := false }
def FnClassesOfSaid : Prop := fnClassesOfRow.holds Try.pinned (OpenSpec.ofChange fnClassesOfSpec)

/-- ITS FALSE NEIGHBOUR: 'it returns false'. Refute it at one input. -/
def fnClassesOfWrong : ChangeSpec := { name := "fnClassesOf", fn := fun _ => fun
  | [d] => { results := [.lit (.bool false)], args := [d] }
  | _ => none }
def FnClassesOfWrongFalsely : Prop := fnClassesOfRow.holds Try.pinned (OpenSpec.ofChange fnClassesOfWrong)

/-- 'laws.FnExactRenumberGraph': WHATEVER THE INPUT: true; the input reads as it did. -/
def fnExactRenumberGraphSpec : ChangeSpec := { name := "fnExactRenumberGraph", fn := fun _ => fun
  | [d1, d2] => { results := [.lit (.bool true)], args := [d1, d2] }
  | _ => none }
def fnExactRenumberGraphRow : OpenClaim := { program := "ytapaegcombfafaa", sum := "e65b753d1900315c681ea8ba6274b65b1216f5f09474935ee73807358675f081", func := "loop.example/graphcode/laws.FnExactRenumberGraph", spec := "fnExactRenumberGraph", unfollowed := true, recurses := true, apart := false }
def FnExactRenumberGraphSaid : Prop := fnExactRenumberGraphRow.holds Try.pinned (OpenSpec.ofChange fnExactRenumberGraphSpec)

/-- ITS FALSE NEIGHBOUR: 'it returns false'. Refute it at one input. -/
def fnExactRenumberGraphWrong : ChangeSpec := { name := "fnExactRenumberGraph", fn := fun _ => fun
  | [d1, d2] => { results := [.lit (.bool false)], args := [d1, d2] }
  | _ => none }
def FnExactRenumberGraphWrongFalsely : Prop := fnExactRenumberGraphRow.holds Try.pinned (OpenSpec.ofChange fnExactRenumberGraphWrong)

/-- 'laws.FnExactClassesOf': WHATEVER THE INPUT: true; the input reads as it did. -/
def fnExactClassesOfSpec : ChangeSpec := { name := "fnExactClassesOf", fn := fun _ => fun
  | [d] => { results := [.lit (.bool true)], args := [d] }
  | _ => none }
def fnExactClassesOfRow : OpenClaim := { program := "ytapaegcombfafaa", sum := "e65b753d1900315c681ea8ba6274b65b1216f5f09474935ee73807358675f081", func := "loop.example/graphcode/laws.FnExactClassesOf", spec := "fnExactClassesOf", unfollowed := true, recurses := true, apart := false }
def FnExactClassesOfSaid : Prop := fnExactClassesOfRow.holds Try.pinned (OpenSpec.ofChange fnExactClassesOfSpec)

/-- ITS FALSE NEIGHBOUR: 'it returns false'. Refute it at one input. -/
def fnExactClassesOfWrong : ChangeSpec := { name := "fnExactClassesOf", fn := fun _ => fun
  | [d] => { results := [.lit (.bool false)], args := [d] }
  | _ => none }
def FnExactClassesOfWrongFalsely : Prop := fnExactClassesOfRow.holds Try.pinned (OpenSpec.ofChange fnExactClassesOfWrong)

/-- 'laws.FnExactMergeTexts': WHATEVER THE INPUT: true; the input reads as it did. -/
def fnExactMergeTextsSpec : ChangeSpec := { name := "fnExactMergeTexts", fn := fun _ => fun
  | [d] => { results := [.lit (.bool true)], args := [d] }
  | _ => none }
def fnExactMergeTextsRow : OpenClaim := { program := "ytapaegcombfafaa", sum := "e65b753d1900315c681ea8ba6274b65b1216f5f09474935ee73807358675f081", func := "loop.example/graphcode/laws.FnExactMergeTexts", spec := "fnExactMergeTexts", unfollowed := true, recurses := true, apart := false }
def FnExactMergeTextsSaid : Prop := fnExactMergeTextsRow.holds Try.pinned (OpenSpec.ofChange fnExactMergeTextsSpec)

/-- ITS FALSE NEIGHBOUR: 'it returns false'. Refute it at one input. -/
def fnExactMergeTextsWrong : ChangeSpec := { name := "fnExactMergeTexts", fn := fun _ => fun
  | [d] => { results := [.lit (.bool false)], args := [d] }
  | _ => none }
def FnExactMergeTextsWrongFalsely : Prop := fnExactMergeTextsRow.holds Try.pinned (OpenSpec.ofChange fnExactMergeTextsWrong)

/-- 'laws.FnRenumberGraph': WHATEVER THE INPUT: true; the input reads as it did. -/
def fnRenumberGraphSpec : ChangeSpec := { name := "fnRenumberGraph", fn := fun _ => fun
  | [d] => { results := [.lit (.bool true)], args := [d] }
  | _ => none }
def fnRenumberGraphRow : OpenClaim := { program := "ytapaegcombfafaa", sum := "e65b753d1900315c681ea8ba6274b65b1216f5f09474935ee73807358675f081", func := "loop.example/graphcode/laws.FnRenumberGraph", spec := "fnRenumberGraph", unfollowed := true, recurses := true, apart := false }
def FnRenumberGraphSaid : Prop := fnRenumberGraphRow.holds Try.pinned (OpenSpec.ofChange fnRenumberGraphSpec)

/-- ITS FALSE NEIGHBOUR: 'it returns false'. Refute it at one input. -/
def fnRenumberGraphWrong : ChangeSpec := { name := "fnRenumberGraph", fn := fun _ => fun
  | [d] => { results := [.lit (.bool false)], args := [d] }
  | _ => none }
def FnRenumberGraphWrongFalsely : Prop := fnRenumberGraphRow.holds Try.pinned (OpenSpec.ofChange fnRenumberGraphWrong)

/- THE SECOND FORM. 'bulk': how many values and letters a reading holds, each counted each time it is reached (what is shared counts as often as it is met; a slice's spare places count too). A statement '..UptoSaid' is the law's where the arguments, and the package variables that the reading takes, are together of bulk at most 1048576: NARROWER than '..Said'. Prove '..Said' where nothing that the law and all that it calls make is longer than what came in: it says more and counts as full. Else prove '..UptoSaid'. A law counts once. -/
mutual
def uptoBulk {H : Type} : DataW H → Nat
  | .lit (.string bytes) => bytes.length + 1
  | .lit _ => 1
  | .nil => 1
  | .ptr d => uptoBulk d + 1
  | .slice elems spare => uptoBulkAll elems + uptoBulkAll spare + 1
  | .agg parts => uptoBulkAll parts + 1
  | .iface _ d => uptoBulk d + 1
  | .map entries => uptoBulkEntries entries + 1
  | .held _ => 1
def uptoBulkAll {H : Type} : List (DataW H) → Nat
  | [] => 0
  | d :: r => uptoBulk d + uptoBulkAll r
def uptoBulkEntries {H : Type} : List (Lit × DataW H) → Nat
  | [] => 0
  | x :: r => uptoBulkEntry x + uptoBulkEntries r
def uptoBulkEntry {H : Type} : Lit × DataW H → Nat
  | (.string bytes, d) => bytes.length + uptoBulk d + 1
  | (_, d) => uptoBulk d + 1
 end
def uptoSmall : (H : Type) → List (DataW H) → Bool := fun _ ds => decide (uptoBulkAll ds ≤ 1048576)
def OpenSpec.upto (s : _root_.Go.ChangeSpec) : _root_.Go.OpenSpec := { _root_.Go.OpenSpec.ofChange s with cond := some uptoSmall }

/-- 'laws.FnCodeMany', WHERE WHAT IT READS IS OF BULK AT MOST 1048576: true; the input reads as it did. -/
def fnCodeManyUptoRow : OpenClaim := { program := "ytapaegcombfafaa", sum := "e65b753d1900315c681ea8ba6274b65b1216f5f09474935ee73807358675f081", func := "loop.example/graphcode/laws.FnCodeMany", spec := "fnCodeMany", unfollowed := true, recurses := true, apart := false, narrowed := true }
def FnCodeManyUptoSaid : Prop := fnCodeManyUptoRow.holds Try.pinned (OpenSpec.upto fnCodeManySpec)

/-- 'laws.FnExactCodeMany', WHERE WHAT IT READS IS OF BULK AT MOST 1048576: true; the input reads as it did. -/
def fnExactCodeManyUptoRow : OpenClaim := { program := "ytapaegcombfafaa", sum := "e65b753d1900315c681ea8ba6274b65b1216f5f09474935ee73807358675f081", func := "loop.example/graphcode/laws.FnExactCodeMany", spec := "fnExactCodeMany", unfollowed := true, recurses := true, apart := false, narrowed := true }
def FnExactCodeManyUptoSaid : Prop := fnExactCodeManyUptoRow.holds Try.pinned (OpenSpec.upto fnExactCodeManySpec)

/-- 'laws.FnExactSharedOf', WHERE WHAT IT READS IS OF BULK AT MOST 1048576: true; the input reads as it did. -/
def fnExactSharedOfUptoRow : OpenClaim := { program := "ytapaegcombfafaa", sum := "e65b753d1900315c681ea8ba6274b65b1216f5f09474935ee73807358675f081", func := "loop.example/graphcode/laws.FnExactSharedOf", spec := "fnExactSharedOf", unfollowed := true, recurses := true, apart := false, narrowed := true }
def FnExactSharedOfUptoSaid : Prop := fnExactSharedOfUptoRow.holds Try.pinned (OpenSpec.upto fnExactSharedOfSpec)

/-- 'laws.FnClassesOf', WHERE WHAT IT READS IS OF BULK AT MOST 1048576: true; the input reads as it did. -/
def fnClassesOfUptoRow : OpenClaim := { program := "ytapaegcombfafaa", sum := "e65b753d1900315c681ea8ba6274b65b1216f5f09474935ee73807358675f081", func := "loop.example/graphcode/laws.FnClassesOf", spec := "fnClassesOf", unfollowed := true, recurses := true, apart := false, narrowed := true }
def FnClassesOfUptoSaid : Prop := fnClassesOfUptoRow.holds Try.pinned (OpenSpec.upto fnClassesOfSpec)

/-- 'laws.FnExactRenumberGraph', WHERE WHAT IT READS IS OF BULK AT MOST 1048576: true; the input reads as it did. -/
def fnExactRenumberGraphUptoRow : OpenClaim := { program := "ytapaegcombfafaa", sum := "e65b753d1900315c681ea8ba6274b65b1216f5f09474935ee73807358675f081", func := "loop.example/graphcode/laws.FnExactRenumberGraph", spec := "fnExactRenumberGraph", unfollowed := true, recurses := true, apart := false, narrowed := true }
def FnExactRenumberGraphUptoSaid : Prop := fnExactRenumberGraphUptoRow.holds Try.pinned (OpenSpec.upto fnExactRenumberGraphSpec)

/-- 'laws.FnExactClassesOf', WHERE WHAT IT READS IS OF BULK AT MOST 1048576: true; the input reads as it did. -/
def fnExactClassesOfUptoRow : OpenClaim := { program := "ytapaegcombfafaa", sum := "e65b753d1900315c681ea8ba6274b65b1216f5f09474935ee73807358675f081", func := "loop.example/graphcode/laws.FnExactClassesOf", spec := "fnExactClassesOf", unfollowed := true, recurses := true, apart := false, narrowed := true }
def FnExactClassesOfUptoSaid : Prop := fnExactClassesOfUptoRow.holds Try.pinned (OpenSpec.upto fnExactClassesOfSpec)

/-- 'laws.FnExactMergeTexts', WHERE WHAT IT READS IS OF BULK AT MOST 1048576: true; the input reads as it did. -/
def fnExactMergeTextsUptoRow : OpenClaim := { program := "ytapaegcombfafaa", sum := "e65b753d1900315c681ea8ba6274b65b1216f5f09474935ee73807358675f081", func := "loop.example/graphcode/laws.FnExactMergeTexts", spec := "fnExactMergeTexts", unfollowed := true, recurses := true, apart := false, narrowed := true }
def FnExactMergeTextsUptoSaid : Prop := fnExactMergeTextsUptoRow.holds Try.pinned (OpenSpec.upto fnExactMergeTextsSpec)

/-- 'laws.FnRenumberGraph', WHERE WHAT IT READS IS OF BULK AT MOST 1048576: true; the input reads as it did. -/
def fnRenumberGraphUptoRow : OpenClaim := { program := "ytapaegcombfafaa", sum := "e65b753d1900315c681ea8ba6274b65b1216f5f09474935ee73807358675f081", func := "loop.example/graphcode/laws.FnRenumberGraph", spec := "fnRenumberGraph", unfollowed := true, recurses := true, apart := false, narrowed := true }
def FnRenumberGraphUptoSaid : Prop := fnRenumberGraphUptoRow.holds Try.pinned (OpenSpec.upto fnRenumberGraphSpec)

end Rows
end Go.Proofs.Ytapaegcombfafaa
