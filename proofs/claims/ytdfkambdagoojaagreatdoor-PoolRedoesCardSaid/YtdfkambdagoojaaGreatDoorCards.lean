/-
  DERIVED. GIVEN WITH THE SEED: THE CARDS: each row of YtdfkambdagoojaaGreatDoorRows.lean that lists a variable, with what it lists TIED to the program's text (the seventh form; the later family's looks); each row that meets fmt, with fmt's text TOLD by the authors' own Lean function (tested against real Go, not proved from fmt's source: count such statements apart). THE CARD IS WHAT COUNTS. Prove the row's statement (the work); the ties are given (YtdfkambdagoojaaGreatDoorTie.lean); close each card by the builder's one call (the guide's Derived/Test/ToyasCard.lean, 'card_holds'). Laid BY PROGRAM, IN A SANDBOX (cutbox-door.mjs). By AI agents, Wed Nov 11 2026. No macro, syntax, notation, axiom, sorry.
-/
import Derived.Test.YtdfkambdagoojaaGreatDoorRows
import GoSem.ClaimSeven
namespace Go.Proofs.YtdfkambdagoojaaGreatDoor
namespace Rows

/-- THE TIED CARD OF 'tabellionlaw41.PoolAhead'. -/
def poolAheadCard : Claim7 := { stood := { row := poolAheadRow, standIns := [], harness := (true, "a0bf9e2258aaee7865c6d3b3efdbfe619461b0262eed786ea35ea654c0cbca2c"), looks := true }, kinds := [], alts := [], laidByText := true, laidKinds := [.data, .data, .data, .sentinel, .sentinel], laidTests := true, laidLooks := .later }
def PoolAheadCardSaid : Prop := Claim7.holds Tryz.pinned (.plain (OpenSpec.ofChange poolAheadSpec)) poolAheadCard

/-- THE TIED CARD OF 'tabellionlaw41.PoolPlays'. -/
def poolPlaysCard : Claim7 := { stood := { row := poolPlaysRow, standIns := [], harness := (true, "a0bf9e2258aaee7865c6d3b3efdbfe619461b0262eed786ea35ea654c0cbca2c"), looks := true }, kinds := [], alts := [], laidByText := true, laidKinds := [.data, .data, .data, .sentinel, .sentinel], laidTests := true, laidLooks := .later }
def PoolPlaysCardSaid : Prop := Claim7.holds Tryz.pinned (.plain (OpenSpec.ofChange poolPlaysSpec)) poolPlaysCard

/-- THE TIED CARD OF 'tabellionlaw41.PoolRedoes'. -/
def poolRedoesCard : Claim7 := { stood := { row := poolRedoesRow, standIns := [], harness := (true, "a0bf9e2258aaee7865c6d3b3efdbfe619461b0262eed786ea35ea654c0cbca2c"), looks := true }, kinds := [], alts := [], laidByText := true, laidKinds := [.data, .data, .data, .sentinel, .sentinel], laidTests := true, laidLooks := .later }
def PoolRedoesCardSaid : Prop := Claim7.holds Tryz.pinned (.plain (OpenSpec.ofChange poolRedoesSpec)) poolRedoesCard

/-- THE SECOND FORM's CARD OF 'tabellionlaw41.PoolAhead'. -/
def poolAheadUptoCard : Claim7 := { stood := { row := poolAheadUptoRow, standIns := [], harness := (true, "a0bf9e2258aaee7865c6d3b3efdbfe619461b0262eed786ea35ea654c0cbca2c"), looks := true }, kinds := [], alts := [], laidByText := true, laidKinds := [.data, .data, .data, .sentinel, .sentinel], laidTests := true, laidLooks := .later }
def PoolAheadUptoCardSaid : Prop := Claim7.holds Tryz.pinned (.plain (OpenSpec.upto poolAheadSpec)) poolAheadUptoCard

/-- THE SECOND FORM's CARD OF 'tabellionlaw41.PoolPlays'. -/
def poolPlaysUptoCard : Claim7 := { stood := { row := poolPlaysUptoRow, standIns := [], harness := (true, "a0bf9e2258aaee7865c6d3b3efdbfe619461b0262eed786ea35ea654c0cbca2c"), looks := true }, kinds := [], alts := [], laidByText := true, laidKinds := [.data, .data, .data, .sentinel, .sentinel], laidTests := true, laidLooks := .later }
def PoolPlaysUptoCardSaid : Prop := Claim7.holds Tryz.pinned (.plain (OpenSpec.upto poolPlaysSpec)) poolPlaysUptoCard

/-- THE SECOND FORM's CARD OF 'tabellionlaw41.PoolRedoes'. -/
def poolRedoesUptoCard : Claim7 := { stood := { row := poolRedoesUptoRow, standIns := [], harness := (true, "a0bf9e2258aaee7865c6d3b3efdbfe619461b0262eed786ea35ea654c0cbca2c"), looks := true }, kinds := [], alts := [], laidByText := true, laidKinds := [.data, .data, .data, .sentinel, .sentinel], laidTests := true, laidLooks := .later }
def PoolRedoesUptoCardSaid : Prop := Claim7.holds Tryz.pinned (.plain (OpenSpec.upto poolRedoesSpec)) poolRedoesUptoCard
end Rows
end Go.Proofs.YtdfkambdagoojaaGreatDoor
