/-
  No cell of these rows narrows 'for every input' (looked for: loops, veiled, ifaces, maps, wideKeys, modest, calm, conditions, laid).
  DERIVED. THE GIVEN ROWS OF THIS SEAT. 5 by the template 'for every input the law returns true; each argument reads behind the call as it read before'; 0 by the template 'total and deterministic' (their statements: YtnkmbihlkbiccaaTotals.lean).
  GIVEN WITH THE SEED: the statements are not yours to turn. If you find one false, say at which input.
  Laid BY PROGRAM, IN A SANDBOX (cutbox-rows.mjs): the forced cells as the released guide's own fill.sh prints them over the translation f16234908b67837d… (all of the seat's roots in one cut). By AI agents, Wed Nov 11 2026. No macro, syntax, notation, axiom, sorry.
-/
import Derived.Test.YtnkmbihlkbiccaaChecked
import GoSem.Claim
import GoSem.ClaimJoined
import GoSem.ClaimMapViews
import Derived.JoinedTies
import Derived.KernelRfl
namespace Go.Proofs.Ytnkmbihlkbiccaa
/- THE CELL 'sum', in the pinned program and in every row, IS THE sha256 OF THE DUMP (.gsa) THAT YtnkmbihlkbiccaaProg.lean LOADS. Nothing in Lean hashes anything: it is a label: what it is worth is what the hold of that sum in a sandbox is worth. -/
noncomputable def Try.pinned : Pinned := { name := "ytnkmbihlkbiccaa", sum := "f16234908b67837de15cbba5d2bfa0dcdd0e47c50569869cc0eac6dc1e8ba32b", checked := Try.checked }
namespace Rows
def none {H : Type} : Left H := { results := [], args := [] }

/-- 'laws.FnExactConstants': WHATEVER THE INPUT: true; the input reads as it did. -/
def fnExactConstantsSpec : ChangeSpec := { name := "fnExactConstants", fn := fun _ => fun
  | [] => { results := [.lit (.bool true)], args := [] }
  | _ => none }
def fnExactConstantsRow : OpenClaim := { program := "ytnkmbihlkbiccaa", sum := "f16234908b67837de15cbba5d2bfa0dcdd0e47c50569869cc0eac6dc1e8ba32b", func := "loop.example/graphcode/laws.FnExactConstants", spec := "fnExactConstants", apart := false }
def FnExactConstantsSaid : Prop := fnExactConstantsRow.holds Try.pinned (OpenSpec.ofChange fnExactConstantsSpec)

/-- ITS FALSE NEIGHBOUR: 'it returns false'. Refute it at one input. -/
def fnExactConstantsWrong : ChangeSpec := { name := "fnExactConstants", fn := fun _ => fun
  | [] => { results := [.lit (.bool false)], args := [] }
  | _ => none }
def FnExactConstantsWrongFalsely : Prop := fnExactConstantsRow.holds Try.pinned (OpenSpec.ofChange fnExactConstantsWrong)

/-- 'laws.FnExactTakesOf': WHATEVER THE INPUT: true; the input reads as it did. -/
def fnExactTakesOfSpec : ChangeSpec := { name := "fnExactTakesOf", fn := fun _ => fun
  | [d] => { results := [.lit (.bool true)], args := [d] }
  | _ => none }
def fnExactTakesOfRow : OpenClaim := { program := "ytnkmbihlkbiccaa", sum := "f16234908b67837de15cbba5d2bfa0dcdd0e47c50569869cc0eac6dc1e8ba32b", func := "loop.example/graphcode/laws.FnExactTakesOf", spec := "fnExactTakesOf", apart := false }
def FnExactTakesOfSaid : Prop := fnExactTakesOfRow.holds Try.pinned (OpenSpec.ofChange fnExactTakesOfSpec)

/-- ITS FALSE NEIGHBOUR: 'it returns false'. Refute it at one input. -/
def fnExactTakesOfWrong : ChangeSpec := { name := "fnExactTakesOf", fn := fun _ => fun
  | [d] => { results := [.lit (.bool false)], args := [d] }
  | _ => none }
def FnExactTakesOfWrongFalsely : Prop := fnExactTakesOfRow.holds Try.pinned (OpenSpec.ofChange fnExactTakesOfWrong)

/-- 'laws.FnTakesOf': WHATEVER THE INPUT: true; the input reads as it did. -/
def fnTakesOfSpec : ChangeSpec := { name := "fnTakesOf", fn := fun _ => fun
  | [d] => { results := [.lit (.bool true)], args := [d] }
  | _ => none }
def fnTakesOfRow : OpenClaim := { program := "ytnkmbihlkbiccaa", sum := "f16234908b67837de15cbba5d2bfa0dcdd0e47c50569869cc0eac6dc1e8ba32b", func := "loop.example/graphcode/laws.FnTakesOf", spec := "fnTakesOf", apart := false }
def FnTakesOfSaid : Prop := fnTakesOfRow.holds Try.pinned (OpenSpec.ofChange fnTakesOfSpec)

/-- ITS FALSE NEIGHBOUR: 'it returns false'. Refute it at one input. -/
def fnTakesOfWrong : ChangeSpec := { name := "fnTakesOf", fn := fun _ => fun
  | [d] => { results := [.lit (.bool false)], args := [d] }
  | _ => none }
def FnTakesOfWrongFalsely : Prop := fnTakesOfRow.holds Try.pinned (OpenSpec.ofChange fnTakesOfWrong)

/-- 'laws.FnExactFrameBytes': WHATEVER THE INPUT: true; the input reads as it did. -/
def fnExactFrameBytesSpec : ChangeSpec := { name := "fnExactFrameBytes", fn := fun _ => fun
  | [d1, d2] => { results := [.lit (.bool true)], args := [d1, d2] }
  | _ => none }
def fnExactFrameBytesRow : OpenClaim := { program := "ytnkmbihlkbiccaa", sum := "f16234908b67837de15cbba5d2bfa0dcdd0e47c50569869cc0eac6dc1e8ba32b", func := "loop.example/graphcode/laws.FnExactFrameBytes", spec := "fnExactFrameBytes", unfollowed := true, recurses := true, apart := false }
def FnExactFrameBytesSaid : Prop := fnExactFrameBytesRow.holds Try.pinned (OpenSpec.ofChange fnExactFrameBytesSpec)

/-- ITS FALSE NEIGHBOUR: 'it returns false'. Refute it at one input. -/
def fnExactFrameBytesWrong : ChangeSpec := { name := "fnExactFrameBytes", fn := fun _ => fun
  | [d1, d2] => { results := [.lit (.bool false)], args := [d1, d2] }
  | _ => none }
def FnExactFrameBytesWrongFalsely : Prop := fnExactFrameBytesRow.holds Try.pinned (OpenSpec.ofChange fnExactFrameBytesWrong)

/-- 'laws.FnExactUnframeTorn': WHATEVER THE INPUT: true; the input reads as it did. -/
def fnExactUnframeTornSpec : ChangeSpec := { name := "fnExactUnframeTorn", fn := fun _ => fun
  | [d] => { results := [.lit (.bool true)], args := [d] }
  | _ => none }
def fnExactUnframeTornRow : OpenClaim := { program := "ytnkmbihlkbiccaa", sum := "f16234908b67837de15cbba5d2bfa0dcdd0e47c50569869cc0eac6dc1e8ba32b", func := "loop.example/graphcode/laws.FnExactUnframeTorn", spec := "fnExactUnframeTorn", unfollowed := true, recurses := true, apart := false }
def FnExactUnframeTornSaid : Prop := fnExactUnframeTornRow.holds Try.pinned (OpenSpec.ofChange fnExactUnframeTornSpec)

/-- ITS FALSE NEIGHBOUR: 'it returns false'. Refute it at one input. -/
def fnExactUnframeTornWrong : ChangeSpec := { name := "fnExactUnframeTorn", fn := fun _ => fun
  | [d] => { results := [.lit (.bool false)], args := [d] }
  | _ => none }
def FnExactUnframeTornWrongFalsely : Prop := fnExactUnframeTornRow.holds Try.pinned (OpenSpec.ofChange fnExactUnframeTornWrong)

/- THE SECOND FORM. 'bulk': how many values and letters a reading holds, each counted each time it is reached (what is shared counts as often as it is met; a slice's spare places count too). A statement '..UptoSaid' is the law's where the arguments, and the package variables that the reading takes, are together of bulk at most 1048576: NARROWER than '..Said'. Prove '..Said' where nothing that the law and all that it calls make is longer than what came in: it says more and counts as full. Else prove '..UptoSaid'. A law counts once. -/
mutual
def uptoBulk {H : Type} : DataW H → Nat
  | .lit (.string bytes) => bytes.length + 1
  | .lit _ => 1
  | .nil => 1
  | .ptr d => uptoBulk d + 1
  | .slice elems spare => uptoBulkAll elems + uptoBulkAll spare + 1
  | .agg parts => uptoBulkAll parts + 1
  | .iface _ d => uptoBulk d + 1
  | .map entries => uptoBulkEntries entries + 1
  | .held _ => 1
def uptoBulkAll {H : Type} : List (DataW H) → Nat
  | [] => 0
  | d :: r => uptoBulk d + uptoBulkAll r
def uptoBulkEntries {H : Type} : List (Lit × DataW H) → Nat
  | [] => 0
  | x :: r => uptoBulkEntry x + uptoBulkEntries r
def uptoBulkEntry {H : Type} : Lit × DataW H → Nat
  | (.string bytes, d) => bytes.length + uptoBulk d + 1
  | (_, d) => uptoBulk d + 1
 end
def uptoSmall : (H : Type) → List (DataW H) → Bool := fun _ ds => decide (uptoBulkAll ds ≤ 1048576)
def OpenSpec.upto (s : _root_.Go.ChangeSpec) : _root_.Go.OpenSpec := { _root_.Go.OpenSpec.ofChange s with cond := some uptoSmall }

/-- 'laws.FnExactConstants', WHERE WHAT IT READS IS OF BULK AT MOST 1048576: true; the input reads as it did. -/
def fnExactConstantsUptoRow : OpenClaim := { program := "ytnkmbihlkbiccaa", sum := "f16234908b67837de15cbba5d2bfa0dcdd0e47c50569869cc0eac6dc1e8ba32b", func := "loop.example/graphcode/laws.FnExactConstants", spec := "fnExactConstants", apart := false, narrowed := true }
def FnExactConstantsUptoSaid : Prop := fnExactConstantsUptoRow.holds Try.pinned (OpenSpec.upto fnExactConstantsSpec)

/-- 'laws.FnExactTakesOf', WHERE WHAT IT READS IS OF BULK AT MOST 1048576: true; the input reads as it did. -/
def fnExactTakesOfUptoRow : OpenClaim := { program := "ytnkmbihlkbiccaa", sum := "f16234908b67837de15cbba5d2bfa0dcdd0e47c50569869cc0eac6dc1e8ba32b", func := "loop.example/graphcode/laws.FnExactTakesOf", spec := "fnExactTakesOf", apart := false, narrowed := true }
def FnExactTakesOfUptoSaid : Prop := fnExactTakesOfUptoRow.holds Try.pinned (OpenSpec.upto fnExactTakesOfSpec)

/-- 'laws.FnTakesOf', WHERE WHAT IT READS IS OF BULK AT MOST 1048576: true; the input reads as it did. -/
def fnTakesOfUptoRow : OpenClaim := { program := "ytnkmbihlkbiccaa", sum := "f16234908b67837de15cbba5d2bfa0dcdd0e47c50569869cc0eac6dc1e8ba32b", func := "loop.example/graphcode/laws.FnTakesOf", spec := "fnTakesOf", apart := false, narrowed := true }
def FnTakesOfUptoSaid : Prop := fnTakesOfUptoRow.holds Try.pinned (OpenSpec.upto fnTakesOfSpec)

/-- 'laws.FnExactFrameBytes', WHERE WHAT IT READS IS OF BULK AT MOST 1048576: true; the input reads as it did. -/
def fnExactFrameBytesUptoRow : OpenClaim := { program := "ytnkmbihlkbiccaa", sum := "f16234908b67837de15cbba5d2bfa0dcdd0e47c50569869cc0eac6dc1e8ba32b", func := "loop.example/graphcode/laws.FnExactFrameBytes", spec := "fnExactFrameBytes", unfollowed := true, recurses := true, apart := false, narrowed := true }
def FnExactFrameBytesUptoSaid : Prop := fnExactFrameBytesUptoRow.holds Try.pinned (OpenSpec.upto fnExactFrameBytesSpec)

/-- 'laws.FnExactUnframeTorn', WHERE WHAT IT READS IS OF BULK AT MOST 1048576: true; the input reads as it did. -/
def fnExactUnframeTornUptoRow : OpenClaim := { program := "ytnkmbihlkbiccaa", sum := "f16234908b67837de15cbba5d2bfa0dcdd0e47c50569869cc0eac6dc1e8ba32b", func := "loop.example/graphcode/laws.FnExactUnframeTorn", spec := "fnExactUnframeTorn", unfollowed := true, recurses := true, apart := false, narrowed := true }
def FnExactUnframeTornUptoSaid : Prop := fnExactUnframeTornUptoRow.holds Try.pinned (OpenSpec.upto fnExactUnframeTornSpec)

end Rows
end Go.Proofs.Ytnkmbihlkbiccaa
