/-
  DERIVED. GIVEN WITH THE SEED: THE CARDS: each row of YtmebkghdkeeobaaGreatDoorRows.lean that lists a variable, with what it lists TIED to the program's text (the seventh form; the later family's looks); each row that meets fmt, with fmt's text TOLD by the authors' own Lean function (tested against real Go, not proved from fmt's source: count such statements apart). THE CARD IS WHAT COUNTS. Prove the row's statement (the work); the ties are given (YtmebkghdkeeobaaGreatDoorTie.lean); close each card by the builder's one call (the guide's Derived/Test/ToyasCard.lean, 'card_holds'). Laid BY PROGRAM, IN A SANDBOX (cutbox-door.mjs). By AI agents, Wed Nov 11 2026. No macro, syntax, notation, axiom, sorry.
-/
import Derived.Test.YtmebkghdkeeobaaGreatDoorRows
import GoSem.ClaimSeven
namespace Go.Proofs.YtmebkghdkeeobaaGreatDoor
namespace Rows

/-- THE TIED CARD OF 'tabellionlaw43.SpaceSays'. -/
def spaceSaysCard : Claim7 := { stood := { row := spaceSaysRow, standIns := [], harness := (true, "e8910bf9286c0400fa934dca4e40ecd573010e8ece8a6fa46aa716add2629c66"), looks := true }, kinds := [], alts := [], laidByText := true, laidKinds := [.data, .data, .data, .sentinel, .sentinel], laidTests := true, laidLooks := .later }
def SpaceSaysCardSaid : Prop := Claim7.holds Tryz.pinned (.plain (OpenSpec.ofChange spaceSaysSpec)) spaceSaysCard

/-- THE TIED CARD OF 'tabellionlaw43.SpaceOnce'. -/
def spaceOnceCard : Claim7 := { stood := { row := spaceOnceRow, standIns := [], harness := (true, "e8910bf9286c0400fa934dca4e40ecd573010e8ece8a6fa46aa716add2629c66"), looks := true }, kinds := [], alts := [], laidByText := true, laidKinds := [.data, .data, .data, .sentinel, .sentinel], laidTests := true, laidLooks := .later }
def SpaceOnceCardSaid : Prop := Claim7.holds Tryz.pinned (.plain (OpenSpec.ofChange spaceOnceSpec)) spaceOnceCard

/-- THE TIED CARD OF 'tabellionlaw43.SpaceRefuses'. -/
def spaceRefusesCard : Claim7 := { stood := { row := spaceRefusesRow, standIns := [], harness := (true, "e8910bf9286c0400fa934dca4e40ecd573010e8ece8a6fa46aa716add2629c66"), looks := true }, kinds := [], alts := [], laidByText := true, laidKinds := [.data, .data, .data, .sentinel, .sentinel], laidTests := true, laidLooks := .later }
def SpaceRefusesCardSaid : Prop := Claim7.holds Tryz.pinned (.plain (OpenSpec.ofChange spaceRefusesSpec)) spaceRefusesCard

/-- THE SECOND FORM's CARD OF 'tabellionlaw43.SpaceSays'. -/
def spaceSaysUptoCard : Claim7 := { stood := { row := spaceSaysUptoRow, standIns := [], harness := (true, "e8910bf9286c0400fa934dca4e40ecd573010e8ece8a6fa46aa716add2629c66"), looks := true }, kinds := [], alts := [], laidByText := true, laidKinds := [.data, .data, .data, .sentinel, .sentinel], laidTests := true, laidLooks := .later }
def SpaceSaysUptoCardSaid : Prop := Claim7.holds Tryz.pinned (.plain (OpenSpec.upto spaceSaysSpec)) spaceSaysUptoCard

/-- THE SECOND FORM's CARD OF 'tabellionlaw43.SpaceOnce'. -/
def spaceOnceUptoCard : Claim7 := { stood := { row := spaceOnceUptoRow, standIns := [], harness := (true, "e8910bf9286c0400fa934dca4e40ecd573010e8ece8a6fa46aa716add2629c66"), looks := true }, kinds := [], alts := [], laidByText := true, laidKinds := [.data, .data, .data, .sentinel, .sentinel], laidTests := true, laidLooks := .later }
def SpaceOnceUptoCardSaid : Prop := Claim7.holds Tryz.pinned (.plain (OpenSpec.upto spaceOnceSpec)) spaceOnceUptoCard

/-- THE SECOND FORM's CARD OF 'tabellionlaw43.SpaceRefuses'. -/
def spaceRefusesUptoCard : Claim7 := { stood := { row := spaceRefusesUptoRow, standIns := [], harness := (true, "e8910bf9286c0400fa934dca4e40ecd573010e8ece8a6fa46aa716add2629c66"), looks := true }, kinds := [], alts := [], laidByText := true, laidKinds := [.data, .data, .data, .sentinel, .sentinel], laidTests := true, laidLooks := .later }
def SpaceRefusesUptoCardSaid : Prop := Claim7.holds Tryz.pinned (.plain (OpenSpec.upto spaceRefusesSpec)) spaceRefusesUptoCard
end Rows
end Go.Proofs.YtmebkghdkeeobaaGreatDoor
