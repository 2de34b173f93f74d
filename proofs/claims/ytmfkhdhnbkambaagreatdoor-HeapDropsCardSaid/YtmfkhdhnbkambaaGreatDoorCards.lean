/-
  DERIVED. GIVEN WITH THE SEED: THE CARDS: each row of YtmfkhdhnbkambaaGreatDoorRows.lean that lists a variable, with what it lists TIED to the program's text (the seventh form; the later family's looks); each row that meets fmt, with fmt's text TOLD by the authors' own Lean function (tested against real Go, not proved from fmt's source: count such statements apart). THE CARD IS WHAT COUNTS. Prove the row's statement (the work); the ties are given (YtmfkhdhnbkambaaGreatDoorTie.lean); close each card by the builder's one call (the guide's Derived/Test/ToyasCard.lean, 'card_holds'). Laid BY PROGRAM, IN A SANDBOX (cutbox-door.mjs). By AI agents, Wed Nov 11 2026. No macro, syntax, notation, axiom, sorry.
-/
import Derived.Test.YtmfkhdhnbkambaaGreatDoorRows
import GoSem.ClaimSeven
namespace Go.Proofs.YtmfkhdhnbkambaaGreatDoor
namespace Rows

/-- THE TIED CARD OF 'tabellionlaw41.PoolKeeps'. -/
def poolKeepsCard : Claim7 := { stood := { row := poolKeepsRow, standIns := [], harness := (true, "147117b8339515a3af1f64460fe96b7b925f93e1cfd705863119f97a0f6083ea"), looks := true }, kinds := [], alts := [], laidByText := true, laidKinds := [.data, .data, .data, .sentinel, .sentinel], laidTests := true, laidLooks := .later }
def PoolKeepsCardSaid : Prop := Claim7.holds Tryz.pinned (.plain (OpenSpec.ofChange poolKeepsSpec)) poolKeepsCard

/-- THE TIED CARD OF 'tabellionlaw44.HeapKeeps'. -/
def heapKeepsCard : Claim7 := { stood := { row := heapKeepsRow, standIns := [], harness := (true, "147117b8339515a3af1f64460fe96b7b925f93e1cfd705863119f97a0f6083ea"), looks := true }, kinds := [], alts := [], laidByText := true, laidKinds := [.data, .data, .data, .sentinel, .sentinel], laidTests := true, laidLooks := .later }
def HeapKeepsCardSaid : Prop := Claim7.holds Tryz.pinned (.plain (OpenSpec.ofChange heapKeepsSpec)) heapKeepsCard

/-- THE TIED CARD OF 'tabellionlaw44.HeapDrops'. -/
def heapDropsCard : Claim7 := { stood := { row := heapDropsRow, standIns := [], harness := (true, "147117b8339515a3af1f64460fe96b7b925f93e1cfd705863119f97a0f6083ea"), looks := true }, kinds := [], alts := [], laidByText := true, laidKinds := [.data, .data, .data, .sentinel, .sentinel], laidTests := true, laidLooks := .later }
def HeapDropsCardSaid : Prop := Claim7.holds Tryz.pinned (.plain (OpenSpec.ofChange heapDropsSpec)) heapDropsCard

/-- THE SECOND FORM's CARD OF 'tabellionlaw41.PoolKeeps'. -/
def poolKeepsUptoCard : Claim7 := { stood := { row := poolKeepsUptoRow, standIns := [], harness := (true, "147117b8339515a3af1f64460fe96b7b925f93e1cfd705863119f97a0f6083ea"), looks := true }, kinds := [], alts := [], laidByText := true, laidKinds := [.data, .data, .data, .sentinel, .sentinel], laidTests := true, laidLooks := .later }
def PoolKeepsUptoCardSaid : Prop := Claim7.holds Tryz.pinned (.plain (OpenSpec.upto poolKeepsSpec)) poolKeepsUptoCard

/-- THE SECOND FORM's CARD OF 'tabellionlaw44.HeapKeeps'. -/
def heapKeepsUptoCard : Claim7 := { stood := { row := heapKeepsUptoRow, standIns := [], harness := (true, "147117b8339515a3af1f64460fe96b7b925f93e1cfd705863119f97a0f6083ea"), looks := true }, kinds := [], alts := [], laidByText := true, laidKinds := [.data, .data, .data, .sentinel, .sentinel], laidTests := true, laidLooks := .later }
def HeapKeepsUptoCardSaid : Prop := Claim7.holds Tryz.pinned (.plain (OpenSpec.upto heapKeepsSpec)) heapKeepsUptoCard

/-- THE SECOND FORM's CARD OF 'tabellionlaw44.HeapDrops'. -/
def heapDropsUptoCard : Claim7 := { stood := { row := heapDropsUptoRow, standIns := [], harness := (true, "147117b8339515a3af1f64460fe96b7b925f93e1cfd705863119f97a0f6083ea"), looks := true }, kinds := [], alts := [], laidByText := true, laidKinds := [.data, .data, .data, .sentinel, .sentinel], laidTests := true, laidLooks := .later }
def HeapDropsUptoCardSaid : Prop := Claim7.holds Tryz.pinned (.plain (OpenSpec.upto heapDropsSpec)) heapDropsUptoCard
end Rows
end Go.Proofs.YtmfkhdhnbkambaaGreatDoor
