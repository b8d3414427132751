/-
  DERIVED. GIVEN WITH THE SEED: THE CARDS: each row of YtdgddpnjkinciaaGreatDoorRows.lean that lists a variable, with what it lists TIED to the program's text (the seventh form; the later family's looks); each row that meets fmt, with fmt's text TOLD by the authors' own Lean function (tested against real Go, not proved from fmt's source: count such statements apart). THE CARD IS WHAT COUNTS. Prove the row's statement (the work); the ties are given (YtdgddpnjkinciaaGreatDoorTie.lean); close each card by the builder's one call (the guide's Derived/Test/ToyasCard.lean, 'card_holds'). Laid BY PROGRAM, IN A SANDBOX (cutbox-door.mjs). By AI agents, Wed Nov 11 2026. No macro, syntax, notation, axiom, sorry.
-/
import Derived.Test.YtdgddpnjkinciaaGreatDoorRows
import GoSem.ClaimSeven
namespace Go.Proofs.YtdgddpnjkinciaaGreatDoor
namespace Rows

/-- THE TIED CARD OF 'dominolaw27.SquarerangeProves'. -/
def squarerangeProvesCard : Claim7 := { stood := { row := squarerangeProvesRow, standIns := [], harness := (true, "b41e852cf4ac213fe8314d728886992c1fe52ccfdd84ff3d43cd63fd02135640"), looks := false }, kinds := [], alts := [], laidByText := true, laidKinds := [.data, .data, .data], laidTests := true, laidLooks := .later }
def SquarerangeProvesCardSaid : Prop := Claim7.holds Tryz.pinned (.plain (OpenSpec.ofChange squarerangeProvesSpec)) squarerangeProvesCard

/-- THE SECOND FORM's CARD OF 'dominolaw27.SquarerangeProves'. -/
def squarerangeProvesUptoCard : Claim7 := { stood := { row := squarerangeProvesUptoRow, standIns := [], harness := (true, "b41e852cf4ac213fe8314d728886992c1fe52ccfdd84ff3d43cd63fd02135640"), looks := false }, kinds := [], alts := [], laidByText := true, laidKinds := [.data, .data, .data], laidTests := true, laidLooks := .later }
def SquarerangeProvesUptoCardSaid : Prop := Claim7.holds Tryz.pinned (.plain (OpenSpec.upto squarerangeProvesSpec)) squarerangeProvesUptoCard
end Rows
end Go.Proofs.YtdgddpnjkinciaaGreatDoor
