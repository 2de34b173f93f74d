/-
  No cell of these rows narrows 'for every input' (looked for: loops, veiled, ifaces, maps, wideKeys, modest, calm, conditions, laid).
  DERIVED. THE GIVEN ROWS OF THIS SEAT. 3 by the template 'for every input the law returns true; each argument reads behind the call as it read before'; 0 by the template 'total and deterministic' (their statements: YthfglhafphfhiaaTotals.lean).
  GIVEN WITH THE SEED: the statements are not yours to turn. If you find one false, say at which input.
  Laid BY PROGRAM, IN A SANDBOX (cutbox-rows.mjs): the forced cells as the released guide's own fill.sh prints them over the translation 16ac0642f0a0b0fb… (all of the seat's roots in one cut). By AI agents, Wed Nov 11 2026. No macro, syntax, notation, axiom, sorry.
-/
import Derived.Test.YthfglhafphfhiaaChecked
import GoSem.Claim
import GoSem.ClaimJoined
import GoSem.ClaimMapViews
import Derived.JoinedTies
import Derived.KernelRfl
namespace Go.Proofs.Ythfglhafphfhiaa
/- THE CELL 'sum', in the pinned program and in every row, IS THE sha256 OF THE DUMP (.gsa) THAT YthfglhafphfhiaaProg.lean LOADS. Nothing in Lean hashes anything: it is a label: what it is worth is what the hold of that sum in a sandbox is worth. -/
noncomputable def Try.pinned : Pinned := { name := "ythfglhafphfhiaa", sum := "16ac0642f0a0b0fb18b4a0793f9bb5e495dd6eaf83da3a509850c3b1da9cd09b", checked := Try.checked }
namespace Rows
def none {H : Type} : Left H := { results := [], args := [] }

/-- 'tabellionlaw42.TxnNotes': WHATEVER THE INPUT: true; the input reads as it did. -/
def txnNotesSpec : ChangeSpec := { name := "txnNotes", fn := fun _ => fun
  | [d1, d2] => { results := [.lit (.bool true)], args := [d1, d2] }
  | _ => none }
def txnNotesRow : OpenClaim := { program := "ythfglhafphfhiaa", sum := "16ac0642f0a0b0fb18b4a0793f9bb5e495dd6eaf83da3a509850c3b1da9cd09b", func := "tabellion/tabellionlaw42.TxnNotes", spec := "txnNotes", inPlace := ["internal/abi.NoEscape", "internal/bytealg.MakeNoZero"], unfollowed := true, recurses := true, apart := false }
def TxnNotesSaid : Prop := txnNotesRow.holds Try.pinned (OpenSpec.ofChange txnNotesSpec)

/-- ITS FALSE NEIGHBOUR: 'it returns false'. Refute it at one input. -/
def txnNotesWrong : ChangeSpec := { name := "txnNotes", fn := fun _ => fun
  | [d1, d2] => { results := [.lit (.bool false)], args := [d1, d2] }
  | _ => none }
def TxnNotesWrongFalsely : Prop := txnNotesRow.holds Try.pinned (OpenSpec.ofChange txnNotesWrong)

/-- 'tabellionlaw42.TxnLists': WHATEVER THE INPUT: true; the input reads as it did. -/
def txnListsSpec : ChangeSpec := { name := "txnLists", fn := fun _ => fun
  | [d1, d2] => { results := [.lit (.bool true)], args := [d1, d2] }
  | _ => none }
def txnListsRow : OpenClaim := { program := "ythfglhafphfhiaa", sum := "16ac0642f0a0b0fb18b4a0793f9bb5e495dd6eaf83da3a509850c3b1da9cd09b", func := "tabellion/tabellionlaw42.TxnLists", spec := "txnLists", inPlace := ["internal/abi.NoEscape", "internal/bytealg.MakeNoZero"], unfollowed := true, recurses := true, apart := false }
def TxnListsSaid : Prop := txnListsRow.holds Try.pinned (OpenSpec.ofChange txnListsSpec)

/-- ITS FALSE NEIGHBOUR: 'it returns false'. Refute it at one input. -/
def txnListsWrong : ChangeSpec := { name := "txnLists", fn := fun _ => fun
  | [d1, d2] => { results := [.lit (.bool false)], args := [d1, d2] }
  | _ => none }
def TxnListsWrongFalsely : Prop := txnListsRow.holds Try.pinned (OpenSpec.ofChange txnListsWrong)

/-- 'tabellionlaw42.TxnSafe': WHATEVER THE INPUT: true; the input reads as it did. -/
def txnSafeSpec : ChangeSpec := { name := "txnSafe", fn := fun _ => fun
  | [d1, d2] => { results := [.lit (.bool true)], args := [d1, d2] }
  | _ => none }
def txnSafeRow : OpenClaim := { program := "ythfglhafphfhiaa", sum := "16ac0642f0a0b0fb18b4a0793f9bb5e495dd6eaf83da3a509850c3b1da9cd09b", func := "tabellion/tabellionlaw42.TxnSafe", spec := "txnSafe", inPlace := ["internal/abi.NoEscape", "internal/bytealg.MakeNoZero"], unfollowed := true, recurses := true, apart := false }
def TxnSafeSaid : Prop := txnSafeRow.holds Try.pinned (OpenSpec.ofChange txnSafeSpec)

/-- ITS FALSE NEIGHBOUR: 'it returns false'. Refute it at one input. -/
def txnSafeWrong : ChangeSpec := { name := "txnSafe", fn := fun _ => fun
  | [d1, d2] => { results := [.lit (.bool false)], args := [d1, d2] }
  | _ => none }
def TxnSafeWrongFalsely : Prop := txnSafeRow.holds Try.pinned (OpenSpec.ofChange txnSafeWrong)

/- THE SECOND FORM. 'bulk': how many values and letters a reading holds, each counted each time it is reached (what is shared counts as often as it is met; a slice's spare places count too). A statement '..UptoSaid' is the law's where the arguments, and the package variables that the reading takes, are together of bulk at most 1048576: NARROWER than '..Said'. Prove '..Said' where nothing that the law and all that it calls make is longer than what came in: it says more and counts as full. Else prove '..UptoSaid'. A law counts once. -/
mutual
def uptoBulk {H : Type} : DataW H → Nat
  | .lit (.string bytes) => bytes.length + 1
  | .lit _ => 1
  | .nil => 1
  | .ptr d => uptoBulk d + 1
  | .slice elems spare => uptoBulkAll elems + uptoBulkAll spare + 1
  | .agg parts => uptoBulkAll parts + 1
  | .iface _ d => uptoBulk d + 1
  | .map entries => uptoBulkEntries entries + 1
  | .held _ => 1
def uptoBulkAll {H : Type} : List (DataW H) → Nat
  | [] => 0
  | d :: r => uptoBulk d + uptoBulkAll r
def uptoBulkEntries {H : Type} : List (Lit × DataW H) → Nat
  | [] => 0
  | x :: r => uptoBulkEntry x + uptoBulkEntries r
def uptoBulkEntry {H : Type} : Lit × DataW H → Nat
  | (.string bytes, d) => bytes.length + uptoBulk d + 1
  | (_, d) => uptoBulk d + 1
 end
def uptoSmall : (H : Type) → List (DataW H) → Bool := fun _ ds => decide (uptoBulkAll ds ≤ 1048576)
def OpenSpec.upto (s : _root_.Go.ChangeSpec) : _root_.Go.OpenSpec := { _root_.Go.OpenSpec.ofChange s with cond := some uptoSmall }

/-- 'tabellionlaw42.TxnNotes', WHERE WHAT IT READS IS OF BULK AT MOST 1048576: true; the input reads as it did. -/
def txnNotesUptoRow : OpenClaim := { program := "ythfglhafphfhiaa", sum := "16ac0642f0a0b0fb18b4a0793f9bb5e495dd6eaf83da3a509850c3b1da9cd09b", func := "tabellion/tabellionlaw42.TxnNotes", spec := "txnNotes", inPlace := ["internal/abi.NoEscape", "internal/bytealg.MakeNoZero"], unfollowed := true, recurses := true, apart := false, narrowed := true }
def TxnNotesUptoSaid : Prop := txnNotesUptoRow.holds Try.pinned (OpenSpec.upto txnNotesSpec)

/-- 'tabellionlaw42.TxnLists', WHERE WHAT IT READS IS OF BULK AT MOST 1048576: true; the input reads as it did. -/
def txnListsUptoRow : OpenClaim := { program := "ythfglhafphfhiaa", sum := "16ac0642f0a0b0fb18b4a0793f9bb5e495dd6eaf83da3a509850c3b1da9cd09b", func := "tabellion/tabellionlaw42.TxnLists", spec := "txnLists", inPlace := ["internal/abi.NoEscape", "internal/bytealg.MakeNoZero"], unfollowed := true, recurses := true, apart := false, narrowed := true }
def TxnListsUptoSaid : Prop := txnListsUptoRow.holds Try.pinned (OpenSpec.upto txnListsSpec)

/-- 'tabellionlaw42.TxnSafe', WHERE WHAT IT READS IS OF BULK AT MOST 1048576: true; the input reads as it did. -/
def txnSafeUptoRow : OpenClaim := { program := "ythfglhafphfhiaa", sum := "16ac0642f0a0b0fb18b4a0793f9bb5e495dd6eaf83da3a509850c3b1da9cd09b", func := "tabellion/tabellionlaw42.TxnSafe", spec := "txnSafe", inPlace := ["internal/abi.NoEscape", "internal/bytealg.MakeNoZero"], unfollowed := true, recurses := true, apart := false, narrowed := true }
def TxnSafeUptoSaid : Prop := txnSafeUptoRow.holds Try.pinned (OpenSpec.upto txnSafeSpec)

end Rows
end Go.Proofs.Ythfglhafphfhiaa
