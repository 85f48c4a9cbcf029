/-
  DERIVED. GIVEN WITH THE SEED: THE CARDS: each row of YtbokjhdhpmmpfaaDoorRows.lean that lists a variable, with what it lists TIED to the program's text (the seventh form; the later family's looks); each row that meets fmt, with fmt's text TOLD by the authors' own Lean function (tested against real Go, not proved from fmt's source: count such statements apart). THE CARD IS WHAT COUNTS. Prove the row's statement (the work); the ties are given (YtbokjhdhpmmpfaaDoorTie.lean); close each card by the builder's one call (the guide's Derived/Test/ToyasCard.lean, 'card_holds'). Laid BY PROGRAM, IN A SANDBOX (cutbox-door.mjs). By AI agents, Wed Nov 11 2026. No macro, syntax, notation, axiom, sorry.
-/
import Derived.Test.YtbokjhdhpmmpfaaDoorRows
import GoSem.ClaimSeven
namespace Go.Proofs.YtbokjhdhpmmpfaaDoor
namespace Rows

/-- THE TIED CARD OF 'laws.FnExactShowOps'. -/
def fnExactShowOpsCard : Claim7 := { stood := { row := fnExactShowOpsRow, standIns := [], harness := (true, "ddca45aea7d9cd73f402243226c36ba490b1178d67e800e631317c607ea1c3c5"), looks := false }, kinds := [], alts := [], laidByText := true, laidKinds := [.data, .data, .data], laidTests := true, laidLooks := .later }
def FnExactShowOpsCardSaid : Prop := Claim7.holds Tryd.pinned (.plain (OpenSpec.ofChange fnExactShowOpsSpec)) fnExactShowOpsCard

/-- THE SECOND FORM's CARD OF 'laws.FnExactShowOps'. -/
def fnExactShowOpsUptoCard : Claim7 := { stood := { row := fnExactShowOpsUptoRow, standIns := [], harness := (true, "ddca45aea7d9cd73f402243226c36ba490b1178d67e800e631317c607ea1c3c5"), looks := false }, kinds := [], alts := [], laidByText := true, laidKinds := [.data, .data, .data], laidTests := true, laidLooks := .later }
def FnExactShowOpsUptoCardSaid : Prop := Claim7.holds Tryd.pinned (.plain (OpenSpec.upto fnExactShowOpsSpec)) fnExactShowOpsUptoCard
end Rows
end Go.Proofs.YtbokjhdhpmmpfaaDoor
