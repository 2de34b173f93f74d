/-
  DERIVED. GIVEN WITH THE SEED: THE CARDS: each row of YtpogpkonojhakaaGreatDoorRows.lean that lists a variable, with what it lists TIED to the program's text (the seventh form; the later family's looks); each row that meets fmt, with fmt's text TOLD by the authors' own Lean function (tested against real Go, not proved from fmt's source: count such statements apart). THE CARD IS WHAT COUNTS. Prove the row's statement (the work); the ties are given (YtpogpkonojhakaaGreatDoorTie.lean); close each card by the builder's one call (the guide's Derived/Test/ToyasCard.lean, 'card_holds'). Laid BY PROGRAM, IN A SANDBOX (cutbox-door.mjs). By AI agents, Wed Nov 11 2026. No macro, syntax, notation, axiom, sorry.
-/
import Derived.Test.YtpogpkonojhakaaGreatDoorRows
import GoSem.ClaimSeven
namespace Go.Proofs.YtpogpkonojhakaaGreatDoor
namespace Rows

/-- THE TIED CARD OF 'tabellionlaw44.HeapKeeps'. -/
def heapKeepsCard : Claim7 := { stood := { row := heapKeepsRow, standIns := [], harness := (true, "35182863ba25d58e93eb0a5c0ca23cbbccc40fbe8d5a871f0c0b804ad1a1670b"), looks := true }, kinds := [], alts := [], laidByText := true, laidKinds := [.data, .data, .data, .sentinel, .sentinel], laidTests := true, laidLooks := .later }
def HeapKeepsCardSaid : Prop := Claim7.holds Tryz.pinned (.plain (OpenSpec.ofChange heapKeepsSpec)) heapKeepsCard

/-- THE TIED CARD OF 'tabellionlaw44.HeapDrops'. -/
def heapDropsCard : Claim7 := { stood := { row := heapDropsRow, standIns := [], harness := (true, "35182863ba25d58e93eb0a5c0ca23cbbccc40fbe8d5a871f0c0b804ad1a1670b"), looks := true }, kinds := [], alts := [], laidByText := true, laidKinds := [.data, .data, .data, .sentinel, .sentinel], laidTests := true, laidLooks := .later }
def HeapDropsCardSaid : Prop := Claim7.holds Tryz.pinned (.plain (OpenSpec.ofChange heapDropsSpec)) heapDropsCard

/-- THE TIED CARD OF 'tabellionlaw44.HeapPlays'. -/
def heapPlaysCard : Claim7 := { stood := { row := heapPlaysRow, standIns := [], harness := (true, "35182863ba25d58e93eb0a5c0ca23cbbccc40fbe8d5a871f0c0b804ad1a1670b"), looks := true }, kinds := [], alts := [], laidByText := true, laidKinds := [.data, .data, .data, .sentinel, .sentinel], laidTests := true, laidLooks := .later }
def HeapPlaysCardSaid : Prop := Claim7.holds Tryz.pinned (.plain (OpenSpec.ofChange heapPlaysSpec)) heapPlaysCard

/-- THE SECOND FORM's CARD OF 'tabellionlaw44.HeapKeeps'. -/
def heapKeepsUptoCard : Claim7 := { stood := { row := heapKeepsUptoRow, standIns := [], harness := (true, "35182863ba25d58e93eb0a5c0ca23cbbccc40fbe8d5a871f0c0b804ad1a1670b"), looks := true }, kinds := [], alts := [], laidByText := true, laidKinds := [.data, .data, .data, .sentinel, .sentinel], laidTests := true, laidLooks := .later }
def HeapKeepsUptoCardSaid : Prop := Claim7.holds Tryz.pinned (.plain (OpenSpec.upto heapKeepsSpec)) heapKeepsUptoCard

/-- THE SECOND FORM's CARD OF 'tabellionlaw44.HeapDrops'. -/
def heapDropsUptoCard : Claim7 := { stood := { row := heapDropsUptoRow, standIns := [], harness := (true, "35182863ba25d58e93eb0a5c0ca23cbbccc40fbe8d5a871f0c0b804ad1a1670b"), looks := true }, kinds := [], alts := [], laidByText := true, laidKinds := [.data, .data, .data, .sentinel, .sentinel], laidTests := true, laidLooks := .later }
def HeapDropsUptoCardSaid : Prop := Claim7.holds Tryz.pinned (.plain (OpenSpec.upto heapDropsSpec)) heapDropsUptoCard

/-- THE SECOND FORM's CARD OF 'tabellionlaw44.HeapPlays'. -/
def heapPlaysUptoCard : Claim7 := { stood := { row := heapPlaysUptoRow, standIns := [], harness := (true, "35182863ba25d58e93eb0a5c0ca23cbbccc40fbe8d5a871f0c0b804ad1a1670b"), looks := true }, kinds := [], alts := [], laidByText := true, laidKinds := [.data, .data, .data, .sentinel, .sentinel], laidTests := true, laidLooks := .later }
def HeapPlaysUptoCardSaid : Prop := Claim7.holds Tryz.pinned (.plain (OpenSpec.upto heapPlaysSpec)) heapPlaysUptoCard
end Rows
end Go.Proofs.YtpogpkonojhakaaGreatDoor
