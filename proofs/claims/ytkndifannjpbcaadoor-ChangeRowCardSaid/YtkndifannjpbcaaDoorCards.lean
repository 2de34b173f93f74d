/-
  DERIVED. GIVEN WITH THE SEED: THE CARDS: each row of YtkndifannjpbcaaDoorRows.lean that lists a variable, with what it lists TIED to the program's text (the seventh form; the later family's looks); each row that meets fmt, with fmt's text TOLD by the authors' own Lean function (tested against real Go, not proved from fmt's source: count such statements apart). THE CARD IS WHAT COUNTS. Prove the row's statement (the work); the ties are given (YtkndifannjpbcaaDoorTie.lean); close each card by the builder's one call (the guide's Derived/Test/ToyasCard.lean, 'card_holds'). Laid BY PROGRAM, IN A SANDBOX (cutbox-door.mjs). By AI agents, Wed Nov 11 2026. No macro, syntax, notation, axiom, sorry.
-/
import Derived.Test.YtkndifannjpbcaaDoorRows
import GoSem.ClaimSeven
namespace Go.Proofs.YtkndifannjpbcaaDoor
namespace Rows

/-- THE TIED CARD OF 'tabellionlaw40.ChangeBack'. -/
def changeBackCard : Claim7 := { stood := { row := changeBackRow, standIns := [], harness := (true, "41e4e83a7632fbc2de90fd01cead74f68ae61a4f913d7eea39adc50d39e2059f"), looks := true }, kinds := [], alts := [], laidByText := true, laidKinds := [.data, .data, .data, .sentinel, .sentinel], laidTests := true, laidLooks := .later }
def ChangeBackCardSaid : Prop := Claim7.holds Tryd.pinned (.plain (OpenSpec.ofChange changeBackSpec)) changeBackCard

/-- THE TIED CARD OF 'tabellionlaw40.ChangeRow'. -/
def changeRowCard : Claim7 := { stood := { row := changeRowRow, standIns := [], harness := (true, "41e4e83a7632fbc2de90fd01cead74f68ae61a4f913d7eea39adc50d39e2059f"), looks := true }, kinds := [], alts := [], laidByText := true, laidKinds := [.data, .data, .data, .sentinel, .sentinel], laidTests := true, laidLooks := .later }
def ChangeRowCardSaid : Prop := Claim7.holds Tryd.pinned (.plain (OpenSpec.ofChange changeRowSpec)) changeRowCard

/-- THE SECOND FORM's CARD OF 'tabellionlaw40.ChangeBack'. -/
def changeBackUptoCard : Claim7 := { stood := { row := changeBackUptoRow, standIns := [], harness := (true, "41e4e83a7632fbc2de90fd01cead74f68ae61a4f913d7eea39adc50d39e2059f"), looks := true }, kinds := [], alts := [], laidByText := true, laidKinds := [.data, .data, .data, .sentinel, .sentinel], laidTests := true, laidLooks := .later }
def ChangeBackUptoCardSaid : Prop := Claim7.holds Tryd.pinned (.plain (OpenSpec.upto changeBackSpec)) changeBackUptoCard

/-- THE SECOND FORM's CARD OF 'tabellionlaw40.ChangeRow'. -/
def changeRowUptoCard : Claim7 := { stood := { row := changeRowUptoRow, standIns := [], harness := (true, "41e4e83a7632fbc2de90fd01cead74f68ae61a4f913d7eea39adc50d39e2059f"), looks := true }, kinds := [], alts := [], laidByText := true, laidKinds := [.data, .data, .data, .sentinel, .sentinel], laidTests := true, laidLooks := .later }
def ChangeRowUptoCardSaid : Prop := Claim7.holds Tryd.pinned (.plain (OpenSpec.upto changeRowSpec)) changeRowUptoCard
end Rows
end Go.Proofs.YtkndifannjpbcaaDoor
