/-
  No cell of these rows narrows 'for every input' (looked for: loops, veiled, ifaces, maps, wideKeys, modest, calm, conditions, laid).
  DERIVED. THE GIVEN ROWS OF THIS SEAT. 9 by the template 'for every input the law returns true; each argument reads behind the call as it read before'; 0 by the template 'total and deterministic' (their statements: YtbokjhdhpmmpfaaTotals.lean).
  GIVEN WITH THE SEED: the statements are not yours to turn. If you find one false, say at which input.
  Laid BY PROGRAM, IN A SANDBOX (cutbox-rows.mjs): the forced cells as the released guide's own fill.sh prints them over the translation d6959127ec32ceff… (all of the seat's roots in one cut). By AI agents, Wed Nov 11 2026. No macro, syntax, notation, axiom, sorry.
-/
import Derived.Test.YtbokjhdhpmmpfaaChecked
import GoSem.Claim
import GoSem.ClaimJoined
import GoSem.ClaimMapViews
import Derived.JoinedTies
import Derived.KernelRfl
namespace Go.Proofs.Ytbokjhdhpmmpfaa
/- THE CELL 'sum', in the pinned program and in every row, IS THE sha256 OF THE DUMP (.gsa) THAT YtbokjhdhpmmpfaaProg.lean LOADS. Nothing in Lean hashes anything: it is a label: what it is worth is what the hold of that sum in a sandbox is worth. -/
noncomputable def Try.pinned : Pinned := { name := "ytbokjhdhpmmpfaa", sum := "d6959127ec32ceff94cbf89ddac84e3e9f7064ea561429a51d5d6ba5f0b13b50", checked := Try.checked }
namespace Rows
def none {H : Type} : Left H := { results := [], args := [] }

/-- 'laws.FnExactRecoverStream': WHATEVER THE INPUT: true; the input reads as it did. -/
def fnExactRecoverStreamSpec : ChangeSpec := { name := "fnExactRecoverStream", fn := fun _ => fun
  | [d] => { results := [.lit (.bool true)], args := [d] }
  | _ => none }
def fnExactRecoverStreamRow : OpenClaim := { program := "ytbokjhdhpmmpfaa", sum := "d6959127ec32ceff94cbf89ddac84e3e9f7064ea561429a51d5d6ba5f0b13b50", func := "loop.example/graphcode/laws.FnExactRecoverStream", spec := "fnExactRecoverStream", unfollowed := true, recurses := true, apart := false }
def FnExactRecoverStreamSaid : Prop := fnExactRecoverStreamRow.holds Try.pinned (OpenSpec.ofChange fnExactRecoverStreamSpec)

/-- ITS FALSE NEIGHBOUR: 'it returns false'. Refute it at one input. -/
def fnExactRecoverStreamWrong : ChangeSpec := { name := "fnExactRecoverStream", fn := fun _ => fun
  | [d] => { results := [.lit (.bool false)], args := [d] }
  | _ => none }
def FnExactRecoverStreamWrongFalsely : Prop := fnExactRecoverStreamRow.holds Try.pinned (OpenSpec.ofChange fnExactRecoverStreamWrong)

/-- 'laws.FnExactStreamBytes': WHATEVER THE INPUT: true; the input reads as it did. -/
def fnExactStreamBytesSpec : ChangeSpec := { name := "fnExactStreamBytes", fn := fun _ => fun
  | [d1, d2] => { results := [.lit (.bool true)], args := [d1, d2] }
  | _ => none }
def fnExactStreamBytesRow : OpenClaim := { program := "ytbokjhdhpmmpfaa", sum := "d6959127ec32ceff94cbf89ddac84e3e9f7064ea561429a51d5d6ba5f0b13b50", func := "loop.example/graphcode/laws.FnExactStreamBytes", spec := "fnExactStreamBytes", unfollowed := true, recurses := true, apart := false }
def FnExactStreamBytesSaid : Prop := fnExactStreamBytesRow.holds Try.pinned (OpenSpec.ofChange fnExactStreamBytesSpec)

/-- ITS FALSE NEIGHBOUR: 'it returns false'. Refute it at one input. -/
def fnExactStreamBytesWrong : ChangeSpec := { name := "fnExactStreamBytes", fn := fun _ => fun
  | [d1, d2] => { results := [.lit (.bool false)], args := [d1, d2] }
  | _ => none }
def FnExactStreamBytesWrongFalsely : Prop := fnExactStreamBytesRow.holds Try.pinned (OpenSpec.ofChange fnExactStreamBytesWrong)

/-- 'laws.FnExactBombGraph': WHATEVER THE INPUT: true; the input reads as it did. -/
def fnExactBombGraphSpec : ChangeSpec := { name := "fnExactBombGraph", fn := fun _ => fun
  | [d] => { results := [.lit (.bool true)], args := [d] }
  | _ => none }
def fnExactBombGraphRow : OpenClaim := { program := "ytbokjhdhpmmpfaa", sum := "d6959127ec32ceff94cbf89ddac84e3e9f7064ea561429a51d5d6ba5f0b13b50", func := "loop.example/graphcode/laws.FnExactBombGraph", spec := "fnExactBombGraph", apart := false }
def FnExactBombGraphSaid : Prop := fnExactBombGraphRow.holds Try.pinned (OpenSpec.ofChange fnExactBombGraphSpec)

/-- ITS FALSE NEIGHBOUR: 'it returns false'. Refute it at one input. -/
def fnExactBombGraphWrong : ChangeSpec := { name := "fnExactBombGraph", fn := fun _ => fun
  | [d] => { results := [.lit (.bool false)], args := [d] }
  | _ => none }
def FnExactBombGraphWrongFalsely : Prop := fnExactBombGraphRow.holds Try.pinned (OpenSpec.ofChange fnExactBombGraphWrong)

/-- 'laws.FnExactValidRules': WHATEVER THE INPUT: true; the input reads as it did. -/
def fnExactValidRulesSpec : ChangeSpec := { name := "fnExactValidRules", fn := fun _ => fun
  | [d] => { results := [.lit (.bool true)], args := [d] }
  | _ => none }
def fnExactValidRulesRow : OpenClaim := { program := "ytbokjhdhpmmpfaa", sum := "d6959127ec32ceff94cbf89ddac84e3e9f7064ea561429a51d5d6ba5f0b13b50", func := "loop.example/graphcode/laws.FnExactValidRules", spec := "fnExactValidRules", apart := false }
def FnExactValidRulesSaid : Prop := fnExactValidRulesRow.holds Try.pinned (OpenSpec.ofChange fnExactValidRulesSpec)

/-- ITS FALSE NEIGHBOUR: 'it returns false'. Refute it at one input. -/
def fnExactValidRulesWrong : ChangeSpec := { name := "fnExactValidRules", fn := fun _ => fun
  | [d] => { results := [.lit (.bool false)], args := [d] }
  | _ => none }
def FnExactValidRulesWrongFalsely : Prop := fnExactValidRulesRow.holds Try.pinned (OpenSpec.ofChange fnExactValidRulesWrong)

/-- 'laws.FnExactRulesAllow': WHATEVER THE INPUT: true; the input reads as it did. -/
def fnExactRulesAllowSpec : ChangeSpec := { name := "fnExactRulesAllow", fn := fun _ => fun
  | [d1, d2] => { results := [.lit (.bool true)], args := [d1, d2] }
  | _ => none }
def fnExactRulesAllowRow : OpenClaim := { program := "ytbokjhdhpmmpfaa", sum := "d6959127ec32ceff94cbf89ddac84e3e9f7064ea561429a51d5d6ba5f0b13b50", func := "loop.example/graphcode/laws.FnExactRulesAllow", spec := "fnExactRulesAllow", unfollowed := true, recurses := true, apart := false }
def FnExactRulesAllowSaid : Prop := fnExactRulesAllowRow.holds Try.pinned (OpenSpec.ofChange fnExactRulesAllowSpec)

/-- ITS FALSE NEIGHBOUR: 'it returns false'. Refute it at one input. -/
def fnExactRulesAllowWrong : ChangeSpec := { name := "fnExactRulesAllow", fn := fun _ => fun
  | [d1, d2] => { results := [.lit (.bool false)], args := [d1, d2] }
  | _ => none }
def FnExactRulesAllowWrongFalsely : Prop := fnExactRulesAllowRow.holds Try.pinned (OpenSpec.ofChange fnExactRulesAllowWrong)

/-- 'laws.FnValidRules': WHATEVER THE INPUT: true; the input reads as it did. -/
def fnValidRulesSpec : ChangeSpec := { name := "fnValidRules", fn := fun _ => fun
  | [d] => { results := [.lit (.bool true)], args := [d] }
  | _ => none }
def fnValidRulesRow : OpenClaim := { program := "ytbokjhdhpmmpfaa", sum := "d6959127ec32ceff94cbf89ddac84e3e9f7064ea561429a51d5d6ba5f0b13b50", func := "loop.example/graphcode/laws.FnValidRules", spec := "fnValidRules", apart := false }
def FnValidRulesSaid : Prop := fnValidRulesRow.holds Try.pinned (OpenSpec.ofChange fnValidRulesSpec)

/-- ITS FALSE NEIGHBOUR: 'it returns false'. Refute it at one input. -/
def fnValidRulesWrong : ChangeSpec := { name := "fnValidRules", fn := fun _ => fun
  | [d] => { results := [.lit (.bool false)], args := [d] }
  | _ => none }
def FnValidRulesWrongFalsely : Prop := fnValidRulesRow.holds Try.pinned (OpenSpec.ofChange fnValidRulesWrong)

/-- 'laws.FnExactNewMachine': WHATEVER THE INPUT: true; the input reads as it did. -/
def fnExactNewMachineSpec : ChangeSpec := { name := "fnExactNewMachine", fn := fun _ => fun
  | [d] => { results := [.lit (.bool true)], args := [d] }
  | _ => none }
def fnExactNewMachineRow : OpenClaim := { program := "ytbokjhdhpmmpfaa", sum := "d6959127ec32ceff94cbf89ddac84e3e9f7064ea561429a51d5d6ba5f0b13b50", func := "loop.example/graphcode/laws.FnExactNewMachine", spec := "fnExactNewMachine", apart := false }
def FnExactNewMachineSaid : Prop := fnExactNewMachineRow.holds Try.pinned (OpenSpec.ofChange fnExactNewMachineSpec)

/-- ITS FALSE NEIGHBOUR: 'it returns false'. Refute it at one input. -/
def fnExactNewMachineWrong : ChangeSpec := { name := "fnExactNewMachine", fn := fun _ => fun
  | [d] => { results := [.lit (.bool false)], args := [d] }
  | _ => none }
def FnExactNewMachineWrongFalsely : Prop := fnExactNewMachineRow.holds Try.pinned (OpenSpec.ofChange fnExactNewMachineWrong)

/-- 'laws.FnExactValidMachine': WHATEVER THE INPUT: true; the input reads as it did. -/
def fnExactValidMachineSpec : ChangeSpec := { name := "fnExactValidMachine", fn := fun _ => fun
  | [d] => { results := [.lit (.bool true)], args := [d] }
  | _ => none }
def fnExactValidMachineRow : OpenClaim := { program := "ytbokjhdhpmmpfaa", sum := "d6959127ec32ceff94cbf89ddac84e3e9f7064ea561429a51d5d6ba5f0b13b50", func := "loop.example/graphcode/laws.FnExactValidMachine", spec := "fnExactValidMachine", apart := false }
def FnExactValidMachineSaid : Prop := fnExactValidMachineRow.holds Try.pinned (OpenSpec.ofChange fnExactValidMachineSpec)

/-- ITS FALSE NEIGHBOUR: 'it returns false'. Refute it at one input. -/
def fnExactValidMachineWrong : ChangeSpec := { name := "fnExactValidMachine", fn := fun _ => fun
  | [d] => { results := [.lit (.bool false)], args := [d] }
  | _ => none }
def FnExactValidMachineWrongFalsely : Prop := fnExactValidMachineRow.holds Try.pinned (OpenSpec.ofChange fnExactValidMachineWrong)

/-- 'laws.FnNewMachine': WHATEVER THE INPUT: true; the input reads as it did. -/
def fnNewMachineSpec : ChangeSpec := { name := "fnNewMachine", fn := fun _ => fun
  | [d] => { results := [.lit (.bool true)], args := [d] }
  | _ => none }
def fnNewMachineRow : OpenClaim := { program := "ytbokjhdhpmmpfaa", sum := "d6959127ec32ceff94cbf89ddac84e3e9f7064ea561429a51d5d6ba5f0b13b50", func := "loop.example/graphcode/laws.FnNewMachine", spec := "fnNewMachine", unfollowed := true, recurses := true, apart := false }
def FnNewMachineSaid : Prop := fnNewMachineRow.holds Try.pinned (OpenSpec.ofChange fnNewMachineSpec)

/-- ITS FALSE NEIGHBOUR: 'it returns false'. Refute it at one input. -/
def fnNewMachineWrong : ChangeSpec := { name := "fnNewMachine", fn := fun _ => fun
  | [d] => { results := [.lit (.bool false)], args := [d] }
  | _ => none }
def FnNewMachineWrongFalsely : Prop := fnNewMachineRow.holds Try.pinned (OpenSpec.ofChange fnNewMachineWrong)

/- THE SECOND FORM. 'bulk': how many values and letters a reading holds, each counted each time it is reached (what is shared counts as often as it is met; a slice's spare places count too). A statement '..UptoSaid' is the law's where the arguments, and the package variables that the reading takes, are together of bulk at most 1048576: NARROWER than '..Said'. Prove '..Said' where nothing that the law and all that it calls make is longer than what came in: it says more and counts as full. Else prove '..UptoSaid'. A law counts once. -/
mutual
def uptoBulk {H : Type} : DataW H → Nat
  | .lit (.string bytes) => bytes.length + 1
  | .lit _ => 1
  | .nil => 1
  | .ptr d => uptoBulk d + 1
  | .slice elems spare => uptoBulkAll elems + uptoBulkAll spare + 1
  | .agg parts => uptoBulkAll parts + 1
  | .iface _ d => uptoBulk d + 1
  | .map entries => uptoBulkEntries entries + 1
  | .held _ => 1
def uptoBulkAll {H : Type} : List (DataW H) → Nat
  | [] => 0
  | d :: r => uptoBulk d + uptoBulkAll r
def uptoBulkEntries {H : Type} : List (Lit × DataW H) → Nat
  | [] => 0
  | x :: r => uptoBulkEntry x + uptoBulkEntries r
def uptoBulkEntry {H : Type} : Lit × DataW H → Nat
  | (.string bytes, d) => bytes.length + uptoBulk d + 1
  | (_, d) => uptoBulk d + 1
 end
def uptoSmall : (H : Type) → List (DataW H) → Bool := fun _ ds => decide (uptoBulkAll ds ≤ 1048576)
def OpenSpec.upto (s : _root_.Go.ChangeSpec) : _root_.Go.OpenSpec := { _root_.Go.OpenSpec.ofChange s with cond := some uptoSmall }

/-- 'laws.FnExactRecoverStream', WHERE WHAT IT READS IS OF BULK AT MOST 1048576: true; the input reads as it did. -/
def fnExactRecoverStreamUptoRow : OpenClaim := { program := "ytbokjhdhpmmpfaa", sum := "d6959127ec32ceff94cbf89ddac84e3e9f7064ea561429a51d5d6ba5f0b13b50", func := "loop.example/graphcode/laws.FnExactRecoverStream", spec := "fnExactRecoverStream", unfollowed := true, recurses := true, apart := false, narrowed := true }
def FnExactRecoverStreamUptoSaid : Prop := fnExactRecoverStreamUptoRow.holds Try.pinned (OpenSpec.upto fnExactRecoverStreamSpec)

/-- 'laws.FnExactStreamBytes', WHERE WHAT IT READS IS OF BULK AT MOST 1048576: true; the input reads as it did. -/
def fnExactStreamBytesUptoRow : OpenClaim := { program := "ytbokjhdhpmmpfaa", sum := "d6959127ec32ceff94cbf89ddac84e3e9f7064ea561429a51d5d6ba5f0b13b50", func := "loop.example/graphcode/laws.FnExactStreamBytes", spec := "fnExactStreamBytes", unfollowed := true, recurses := true, apart := false, narrowed := true }
def FnExactStreamBytesUptoSaid : Prop := fnExactStreamBytesUptoRow.holds Try.pinned (OpenSpec.upto fnExactStreamBytesSpec)

/-- 'laws.FnExactBombGraph', WHERE WHAT IT READS IS OF BULK AT MOST 1048576: true; the input reads as it did. -/
def fnExactBombGraphUptoRow : OpenClaim := { program := "ytbokjhdhpmmpfaa", sum := "d6959127ec32ceff94cbf89ddac84e3e9f7064ea561429a51d5d6ba5f0b13b50", func := "loop.example/graphcode/laws.FnExactBombGraph", spec := "fnExactBombGraph", apart := false, narrowed := true }
def FnExactBombGraphUptoSaid : Prop := fnExactBombGraphUptoRow.holds Try.pinned (OpenSpec.upto fnExactBombGraphSpec)

/-- 'laws.FnExactValidRules', WHERE WHAT IT READS IS OF BULK AT MOST 1048576: true; the input reads as it did. -/
def fnExactValidRulesUptoRow : OpenClaim := { program := "ytbokjhdhpmmpfaa", sum := "d6959127ec32ceff94cbf89ddac84e3e9f7064ea561429a51d5d6ba5f0b13b50", func := "loop.example/graphcode/laws.FnExactValidRules", spec := "fnExactValidRules", apart := false, narrowed := true }
def FnExactValidRulesUptoSaid : Prop := fnExactValidRulesUptoRow.holds Try.pinned (OpenSpec.upto fnExactValidRulesSpec)

/-- 'laws.FnExactRulesAllow', WHERE WHAT IT READS IS OF BULK AT MOST 1048576: true; the input reads as it did. -/
def fnExactRulesAllowUptoRow : OpenClaim := { program := "ytbokjhdhpmmpfaa", sum := "d6959127ec32ceff94cbf89ddac84e3e9f7064ea561429a51d5d6ba5f0b13b50", func := "loop.example/graphcode/laws.FnExactRulesAllow", spec := "fnExactRulesAllow", unfollowed := true, recurses := true, apart := false, narrowed := true }
def FnExactRulesAllowUptoSaid : Prop := fnExactRulesAllowUptoRow.holds Try.pinned (OpenSpec.upto fnExactRulesAllowSpec)

/-- 'laws.FnValidRules', WHERE WHAT IT READS IS OF BULK AT MOST 1048576: true; the input reads as it did. -/
def fnValidRulesUptoRow : OpenClaim := { program := "ytbokjhdhpmmpfaa", sum := "d6959127ec32ceff94cbf89ddac84e3e9f7064ea561429a51d5d6ba5f0b13b50", func := "loop.example/graphcode/laws.FnValidRules", spec := "fnValidRules", apart := false, narrowed := true }
def FnValidRulesUptoSaid : Prop := fnValidRulesUptoRow.holds Try.pinned (OpenSpec.upto fnValidRulesSpec)

/-- 'laws.FnExactNewMachine', WHERE WHAT IT READS IS OF BULK AT MOST 1048576: true; the input reads as it did. -/
def fnExactNewMachineUptoRow : OpenClaim := { program := "ytbokjhdhpmmpfaa", sum := "d6959127ec32ceff94cbf89ddac84e3e9f7064ea561429a51d5d6ba5f0b13b50", func := "loop.example/graphcode/laws.FnExactNewMachine", spec := "fnExactNewMachine", apart := false, narrowed := true }
def FnExactNewMachineUptoSaid : Prop := fnExactNewMachineUptoRow.holds Try.pinned (OpenSpec.upto fnExactNewMachineSpec)

/-- 'laws.FnExactValidMachine', WHERE WHAT IT READS IS OF BULK AT MOST 1048576: true; the input reads as it did. -/
def fnExactValidMachineUptoRow : OpenClaim := { program := "ytbokjhdhpmmpfaa", sum := "d6959127ec32ceff94cbf89ddac84e3e9f7064ea561429a51d5d6ba5f0b13b50", func := "loop.example/graphcode/laws.FnExactValidMachine", spec := "fnExactValidMachine", apart := false, narrowed := true }
def FnExactValidMachineUptoSaid : Prop := fnExactValidMachineUptoRow.holds Try.pinned (OpenSpec.upto fnExactValidMachineSpec)

/-- 'laws.FnNewMachine', WHERE WHAT IT READS IS OF BULK AT MOST 1048576: true; the input reads as it did. -/
def fnNewMachineUptoRow : OpenClaim := { program := "ytbokjhdhpmmpfaa", sum := "d6959127ec32ceff94cbf89ddac84e3e9f7064ea561429a51d5d6ba5f0b13b50", func := "loop.example/graphcode/laws.FnNewMachine", spec := "fnNewMachine", unfollowed := true, recurses := true, apart := false, narrowed := true }
def FnNewMachineUptoSaid : Prop := fnNewMachineUptoRow.holds Try.pinned (OpenSpec.upto fnNewMachineSpec)

end Rows
end Go.Proofs.Ytbokjhdhpmmpfaa
