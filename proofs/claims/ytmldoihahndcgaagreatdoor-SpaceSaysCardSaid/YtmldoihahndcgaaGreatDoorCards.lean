/-
  DERIVED. GIVEN WITH THE SEED: THE CARDS: each row of YtmldoihahndcgaaGreatDoorRows.lean that lists a variable, with what it lists TIED to the program's text (the seventh form; the later family's looks); each row that meets fmt, with fmt's text TOLD by the authors' own Lean function (tested against real Go, not proved from fmt's source: count such statements apart). THE CARD IS WHAT COUNTS. Prove the row's statement (the work); the ties are given (YtmldoihahndcgaaGreatDoorTie.lean); close each card by the builder's one call (the guide's Derived/Test/ToyasCard.lean, 'card_holds'). Laid BY PROGRAM, IN A SANDBOX (cutbox-door.mjs). By AI agents, Wed Nov 11 2026. No macro, syntax, notation, axiom, sorry.
-/
import Derived.Test.YtmldoihahndcgaaGreatDoorRows
import GoSem.ClaimSeven
namespace Go.Proofs.YtmldoihahndcgaaGreatDoor
namespace Rows

/-- THE TIED CARD OF 'tabellionlaw43.SpaceSays'. -/
def spaceSaysCard : Claim7 := { stood := { row := spaceSaysRow, standIns := [], harness := (true, "ee5b8dc399a53be0885a14815efb2ea639946a1a2fd9f95a0760590c7a981b48"), looks := true }, kinds := [], alts := [], laidByText := true, laidKinds := [.data, .data, .data, .sentinel, .sentinel], laidTests := true, laidLooks := .later }
def SpaceSaysCardSaid : Prop := Claim7.holds Tryz.pinned (.plain (OpenSpec.ofChange spaceSaysSpec)) spaceSaysCard

/-- THE TIED CARD OF 'tabellionlaw44.HeapKeeps'. -/
def heapKeepsCard : Claim7 := { stood := { row := heapKeepsRow, standIns := [], harness := (true, "ee5b8dc399a53be0885a14815efb2ea639946a1a2fd9f95a0760590c7a981b48"), looks := true }, kinds := [], alts := [], laidByText := true, laidKinds := [.data, .data, .data, .sentinel, .sentinel], laidTests := true, laidLooks := .later }
def HeapKeepsCardSaid : Prop := Claim7.holds Tryz.pinned (.plain (OpenSpec.ofChange heapKeepsSpec)) heapKeepsCard

/-- THE TIED CARD OF 'tabellionlaw44.HeapDrops'. -/
def heapDropsCard : Claim7 := { stood := { row := heapDropsRow, standIns := [], harness := (true, "ee5b8dc399a53be0885a14815efb2ea639946a1a2fd9f95a0760590c7a981b48"), looks := true }, kinds := [], alts := [], laidByText := true, laidKinds := [.data, .data, .data, .sentinel, .sentinel], laidTests := true, laidLooks := .later }
def HeapDropsCardSaid : Prop := Claim7.holds Tryz.pinned (.plain (OpenSpec.ofChange heapDropsSpec)) heapDropsCard

/-- THE TIED CARD OF 'tabellionlaw44.HeapPlays'. -/
def heapPlaysCard : Claim7 := { stood := { row := heapPlaysRow, standIns := [], harness := (true, "ee5b8dc399a53be0885a14815efb2ea639946a1a2fd9f95a0760590c7a981b48"), looks := true }, kinds := [], alts := [], laidByText := true, laidKinds := [.data, .data, .data, .sentinel, .sentinel], laidTests := true, laidLooks := .later }
def HeapPlaysCardSaid : Prop := Claim7.holds Tryz.pinned (.plain (OpenSpec.ofChange heapPlaysSpec)) heapPlaysCard

/-- THE TIED CARD OF 'tabellionlaw41.PoolPlays'. -/
def poolPlaysCard : Claim7 := { stood := { row := poolPlaysRow, standIns := [], harness := (true, "ee5b8dc399a53be0885a14815efb2ea639946a1a2fd9f95a0760590c7a981b48"), looks := true }, kinds := [], alts := [], laidByText := true, laidKinds := [.data, .data, .data, .sentinel, .sentinel], laidTests := true, laidLooks := .later }
def PoolPlaysCardSaid : Prop := Claim7.holds Tryz.pinned (.plain (OpenSpec.ofChange poolPlaysSpec)) poolPlaysCard

/-- THE SECOND FORM's CARD OF 'tabellionlaw43.SpaceSays'. -/
def spaceSaysUptoCard : Claim7 := { stood := { row := spaceSaysUptoRow, standIns := [], harness := (true, "ee5b8dc399a53be0885a14815efb2ea639946a1a2fd9f95a0760590c7a981b48"), looks := true }, kinds := [], alts := [], laidByText := true, laidKinds := [.data, .data, .data, .sentinel, .sentinel], laidTests := true, laidLooks := .later }
def SpaceSaysUptoCardSaid : Prop := Claim7.holds Tryz.pinned (.plain (OpenSpec.upto spaceSaysSpec)) spaceSaysUptoCard

/-- THE SECOND FORM's CARD OF 'tabellionlaw44.HeapKeeps'. -/
def heapKeepsUptoCard : Claim7 := { stood := { row := heapKeepsUptoRow, standIns := [], harness := (true, "ee5b8dc399a53be0885a14815efb2ea639946a1a2fd9f95a0760590c7a981b48"), looks := true }, kinds := [], alts := [], laidByText := true, laidKinds := [.data, .data, .data, .sentinel, .sentinel], laidTests := true, laidLooks := .later }
def HeapKeepsUptoCardSaid : Prop := Claim7.holds Tryz.pinned (.plain (OpenSpec.upto heapKeepsSpec)) heapKeepsUptoCard

/-- THE SECOND FORM's CARD OF 'tabellionlaw44.HeapDrops'. -/
def heapDropsUptoCard : Claim7 := { stood := { row := heapDropsUptoRow, standIns := [], harness := (true, "ee5b8dc399a53be0885a14815efb2ea639946a1a2fd9f95a0760590c7a981b48"), looks := true }, kinds := [], alts := [], laidByText := true, laidKinds := [.data, .data, .data, .sentinel, .sentinel], laidTests := true, laidLooks := .later }
def HeapDropsUptoCardSaid : Prop := Claim7.holds Tryz.pinned (.plain (OpenSpec.upto heapDropsSpec)) heapDropsUptoCard

/-- THE SECOND FORM's CARD OF 'tabellionlaw44.HeapPlays'. -/
def heapPlaysUptoCard : Claim7 := { stood := { row := heapPlaysUptoRow, standIns := [], harness := (true, "ee5b8dc399a53be0885a14815efb2ea639946a1a2fd9f95a0760590c7a981b48"), looks := true }, kinds := [], alts := [], laidByText := true, laidKinds := [.data, .data, .data, .sentinel, .sentinel], laidTests := true, laidLooks := .later }
def HeapPlaysUptoCardSaid : Prop := Claim7.holds Tryz.pinned (.plain (OpenSpec.upto heapPlaysSpec)) heapPlaysUptoCard

/-- THE SECOND FORM's CARD OF 'tabellionlaw41.PoolPlays'. -/
def poolPlaysUptoCard : Claim7 := { stood := { row := poolPlaysUptoRow, standIns := [], harness := (true, "ee5b8dc399a53be0885a14815efb2ea639946a1a2fd9f95a0760590c7a981b48"), looks := true }, kinds := [], alts := [], laidByText := true, laidKinds := [.data, .data, .data, .sentinel, .sentinel], laidTests := true, laidLooks := .later }
def PoolPlaysUptoCardSaid : Prop := Claim7.holds Tryz.pinned (.plain (OpenSpec.upto poolPlaysSpec)) poolPlaysUptoCard
end Rows
end Go.Proofs.YtmldoihahndcgaaGreatDoor
