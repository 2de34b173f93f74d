/-
  DERIVED. GIVEN WITH THE SEED: THE CARDS: each row of YtkndifannjpbcaaGreatDoorRows.lean that lists a variable, with what it lists TIED to the program's text (the seventh form; the later family's looks); each row that meets fmt, with fmt's text TOLD by the authors' own Lean function (tested against real Go, not proved from fmt's source: count such statements apart). THE CARD IS WHAT COUNTS. Prove the row's statement (the work); the ties are given (YtkndifannjpbcaaGreatDoorTie.lean); close each card by the builder's one call (the guide's Derived/Test/ToyasCard.lean, 'card_holds'). Laid BY PROGRAM, IN A SANDBOX (cutbox-door.mjs). By AI agents, Wed Nov 11 2026. No macro, syntax, notation, axiom, sorry.
-/
import Derived.Test.YtkndifannjpbcaaGreatDoorRows
import GoSem.ClaimSeven
namespace Go.Proofs.YtkndifannjpbcaaGreatDoor
namespace Rows

/-- THE TIED CARD OF 'tabellionlaw40.ChangeDoes'. -/
def changeDoesCard : Claim7 := { stood := { row := changeDoesRow, standIns := [], harness := (true, "94227e37d246f1ac48c67cf5cdd295fc52dfbe4247df144531ba2ed1c186c07d"), looks := true }, kinds := [], alts := [], laidByText := true, laidKinds := [.data, .data, .data, .sentinel, .sentinel], laidTests := true, laidLooks := .later }
def ChangeDoesCardSaid : Prop := Claim7.holds Tryz.pinned (.plain (OpenSpec.ofChange changeDoesSpec)) changeDoesCard

/-- THE SECOND FORM's CARD OF 'tabellionlaw40.ChangeDoes'. -/
def changeDoesUptoCard : Claim7 := { stood := { row := changeDoesUptoRow, standIns := [], harness := (true, "94227e37d246f1ac48c67cf5cdd295fc52dfbe4247df144531ba2ed1c186c07d"), looks := true }, kinds := [], alts := [], laidByText := true, laidKinds := [.data, .data, .data, .sentinel, .sentinel], laidTests := true, laidLooks := .later }
def ChangeDoesUptoCardSaid : Prop := Claim7.holds Tryz.pinned (.plain (OpenSpec.upto changeDoesSpec)) changeDoesUptoCard
end Rows
end Go.Proofs.YtkndifannjpbcaaGreatDoor
