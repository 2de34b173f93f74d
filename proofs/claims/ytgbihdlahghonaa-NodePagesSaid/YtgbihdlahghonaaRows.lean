/-
  No cell of these rows narrows 'for every input' (looked for: loops, veiled, ifaces, maps, wideKeys, modest, calm, conditions, laid).
  DERIVED. THE GIVEN ROWS OF THIS SEAT. 11 by the template 'for every input the law returns true; each argument reads behind the call as it read before'; 0 by the template 'total and deterministic' (their statements: YtgbihdlahghonaaTotals.lean).
  GIVEN WITH THE SEED: the statements are not yours to turn. If you find one false, say at which input.
  Laid BY PROGRAM, IN A SANDBOX (cutbox-rows.mjs): the forced cells as the released guide's own fill.sh prints them over the translation dd4c48f4aeb4498a… (all of the seat's roots in one cut). By AI agents, Wed Nov 11 2026. No macro, syntax, notation, axiom, sorry.
-/
import Derived.Test.YtgbihdlahghonaaChecked
import GoSem.Claim
import GoSem.ClaimJoined
import GoSem.ClaimMapViews
import Derived.JoinedTies
import Derived.KernelRfl
namespace Go.Proofs.Ytgbihdlahghonaa
/- THE CELL 'sum', in the pinned program and in every row, IS THE sha256 OF THE DUMP (.gsa) THAT YtgbihdlahghonaaProg.lean LOADS. Nothing in Lean hashes anything: it is a label: what it is worth is what the hold of that sum in a sandbox is worth. -/
noncomputable def Try.pinned : Pinned := { name := "ytgbihdlahghonaa", sum := "dd4c48f4aeb4498a9dc0b5f39ec78e7eb3b5892616cbbfc7d84c173cfcd5ed0b", checked := Try.checked }
namespace Rows
def none {H : Type} : Left H := { results := [], args := [] }

/-- 'tabellionlaw37.PageLooks': WHATEVER THE INPUT: true; the input reads as it did. -/
def pageLooksSpec : ChangeSpec := { name := "pageLooks", fn := fun _ => fun
  | [d1, d2] => { results := [.lit (.bool true)], args := [d1, d2] }
  | _ => none }
def pageLooksRow : OpenClaim := { program := "ytgbihdlahghonaa", sum := "dd4c48f4aeb4498a9dc0b5f39ec78e7eb3b5892616cbbfc7d84c173cfcd5ed0b", func := "tabellion/tabellionlaw37.PageLooks", spec := "pageLooks", inPlace := ["internal/abi.NoEscape", "internal/bytealg.MakeNoZero"], apart := false }
def PageLooksSaid : Prop := pageLooksRow.holds Try.pinned (OpenSpec.ofChange pageLooksSpec)

/-- ITS FALSE NEIGHBOUR: 'it returns false'. Refute it at one input. -/
def pageLooksWrong : ChangeSpec := { name := "pageLooks", fn := fun _ => fun
  | [d1, d2] => { results := [.lit (.bool false)], args := [d1, d2] }
  | _ => none }
def PageLooksWrongFalsely : Prop := pageLooksRow.holds Try.pinned (OpenSpec.ofChange pageLooksWrong)

/-- 'tabellionlaw37.PageRoom': WHATEVER THE INPUT: true; the input reads as it did. -/
def pageRoomSpec : ChangeSpec := { name := "pageRoom", fn := fun _ => fun
  | [d1, d2, d3] => { results := [.lit (.bool true)], args := [d1, d2, d3] }
  | _ => none }
def pageRoomRow : OpenClaim := { program := "ytgbihdlahghonaa", sum := "dd4c48f4aeb4498a9dc0b5f39ec78e7eb3b5892616cbbfc7d84c173cfcd5ed0b", func := "tabellion/tabellionlaw37.PageRoom", spec := "pageRoom", inPlace := ["internal/abi.NoEscape", "internal/bytealg.MakeNoZero"], apart := false }
def PageRoomSaid : Prop := pageRoomRow.holds Try.pinned (OpenSpec.ofChange pageRoomSpec)

/-- ITS FALSE NEIGHBOUR: 'it returns false'. Refute it at one input. -/
def pageRoomWrong : ChangeSpec := { name := "pageRoom", fn := fun _ => fun
  | [d1, d2, d3] => { results := [.lit (.bool false)], args := [d1, d2, d3] }
  | _ => none }
def PageRoomWrongFalsely : Prop := pageRoomRow.holds Try.pinned (OpenSpec.ofChange pageRoomWrong)

/-- 'tabellionlaw37.PageMakes': WHATEVER THE INPUT: true; the input reads as it did. -/
def pageMakesSpec : ChangeSpec := { name := "pageMakes", fn := fun _ => fun
  | [d1, d2] => { results := [.lit (.bool true)], args := [d1, d2] }
  | _ => none }
def pageMakesRow : OpenClaim := { program := "ytgbihdlahghonaa", sum := "dd4c48f4aeb4498a9dc0b5f39ec78e7eb3b5892616cbbfc7d84c173cfcd5ed0b", func := "tabellion/tabellionlaw37.PageMakes", spec := "pageMakes", inPlace := ["internal/abi.NoEscape", "internal/bytealg.MakeNoZero"], apart := false }
def PageMakesSaid : Prop := pageMakesRow.holds Try.pinned (OpenSpec.ofChange pageMakesSpec)

/-- ITS FALSE NEIGHBOUR: 'it returns false'. Refute it at one input. -/
def pageMakesWrong : ChangeSpec := { name := "pageMakes", fn := fun _ => fun
  | [d1, d2] => { results := [.lit (.bool false)], args := [d1, d2] }
  | _ => none }
def PageMakesWrongFalsely : Prop := pageMakesRow.holds Try.pinned (OpenSpec.ofChange pageMakesWrong)

/-- 'tabellionlaw37.PageChanges': WHATEVER THE INPUT: true; the input reads as it did. -/
def pageChangesSpec : ChangeSpec := { name := "pageChanges", fn := fun _ => fun
  | [d1, d2, d3] => { results := [.lit (.bool true)], args := [d1, d2, d3] }
  | _ => none }
def pageChangesRow : OpenClaim := { program := "ytgbihdlahghonaa", sum := "dd4c48f4aeb4498a9dc0b5f39ec78e7eb3b5892616cbbfc7d84c173cfcd5ed0b", func := "tabellion/tabellionlaw37.PageChanges", spec := "pageChanges", inPlace := ["internal/abi.NoEscape", "internal/bytealg.MakeNoZero"], apart := false }
def PageChangesSaid : Prop := pageChangesRow.holds Try.pinned (OpenSpec.ofChange pageChangesSpec)

/-- ITS FALSE NEIGHBOUR: 'it returns false'. Refute it at one input. -/
def pageChangesWrong : ChangeSpec := { name := "pageChanges", fn := fun _ => fun
  | [d1, d2, d3] => { results := [.lit (.bool false)], args := [d1, d2, d3] }
  | _ => none }
def PageChangesWrongFalsely : Prop := pageChangesRow.holds Try.pinned (OpenSpec.ofChange pageChangesWrong)

/-- 'tabellionlaw37.PageOthers': WHATEVER THE INPUT: true; the input reads as it did. -/
def pageOthersSpec : ChangeSpec := { name := "pageOthers", fn := fun _ => fun
  | [d1, d2, d3] => { results := [.lit (.bool true)], args := [d1, d2, d3] }
  | _ => none }
def pageOthersRow : OpenClaim := { program := "ytgbihdlahghonaa", sum := "dd4c48f4aeb4498a9dc0b5f39ec78e7eb3b5892616cbbfc7d84c173cfcd5ed0b", func := "tabellion/tabellionlaw37.PageOthers", spec := "pageOthers", inPlace := ["internal/abi.NoEscape", "internal/bytealg.MakeNoZero"], apart := false }
def PageOthersSaid : Prop := pageOthersRow.holds Try.pinned (OpenSpec.ofChange pageOthersSpec)

/-- ITS FALSE NEIGHBOUR: 'it returns false'. Refute it at one input. -/
def pageOthersWrong : ChangeSpec := { name := "pageOthers", fn := fun _ => fun
  | [d1, d2, d3] => { results := [.lit (.bool false)], args := [d1, d2, d3] }
  | _ => none }
def PageOthersWrongFalsely : Prop := pageOthersRow.holds Try.pinned (OpenSpec.ofChange pageOthersWrong)

/-- 'tabellionlaw37.PageBack': WHATEVER THE INPUT: true; the input reads as it did. -/
def pageBackSpec : ChangeSpec := { name := "pageBack", fn := fun _ => fun
  | [d1, d2, d3] => { results := [.lit (.bool true)], args := [d1, d2, d3] }
  | _ => none }
def pageBackRow : OpenClaim := { program := "ytgbihdlahghonaa", sum := "dd4c48f4aeb4498a9dc0b5f39ec78e7eb3b5892616cbbfc7d84c173cfcd5ed0b", func := "tabellion/tabellionlaw37.PageBack", spec := "pageBack", inPlace := ["internal/abi.NoEscape", "internal/bytealg.MakeNoZero"], apart := false }
def PageBackSaid : Prop := pageBackRow.holds Try.pinned (OpenSpec.ofChange pageBackSpec)

/-- ITS FALSE NEIGHBOUR: 'it returns false'. Refute it at one input. -/
def pageBackWrong : ChangeSpec := { name := "pageBack", fn := fun _ => fun
  | [d1, d2, d3] => { results := [.lit (.bool false)], args := [d1, d2, d3] }
  | _ => none }
def PageBackWrongFalsely : Prop := pageBackRow.holds Try.pinned (OpenSpec.ofChange pageBackWrong)

/-- 'tabellionlaw45.NodePages': WHATEVER THE INPUT: true; the input reads as it did. -/
def nodePagesSpec : ChangeSpec := { name := "nodePages", fn := fun _ => fun
  | [d1, d2] => { results := [.lit (.bool true)], args := [d1, d2] }
  | _ => none }
def nodePagesRow : OpenClaim := { program := "ytgbihdlahghonaa", sum := "dd4c48f4aeb4498a9dc0b5f39ec78e7eb3b5892616cbbfc7d84c173cfcd5ed0b", func := "tabellion/tabellionlaw45.NodePages", spec := "nodePages", inPlace := ["internal/abi.NoEscape", "internal/bytealg.MakeNoZero", "internal/bytealg.abigen_runtime_cmpstring"], unfollowed := true, recurses := true, apart := false }
def NodePagesSaid : Prop := nodePagesRow.holds Try.pinned (OpenSpec.ofChange nodePagesSpec)

/-- ITS FALSE NEIGHBOUR: 'it returns false'. Refute it at one input. -/
def nodePagesWrong : ChangeSpec := { name := "nodePages", fn := fun _ => fun
  | [d1, d2] => { results := [.lit (.bool false)], args := [d1, d2] }
  | _ => none }
def NodePagesWrongFalsely : Prop := nodePagesRow.holds Try.pinned (OpenSpec.ofChange nodePagesWrong)

/-- 'tabellionlaw45.NodeFinds': WHATEVER THE INPUT: true; the input reads as it did. -/
def nodeFindsSpec : ChangeSpec := { name := "nodeFinds", fn := fun _ => fun
  | [d1, d2] => { results := [.lit (.bool true)], args := [d1, d2] }
  | _ => none }
def nodeFindsRow : OpenClaim := { program := "ytgbihdlahghonaa", sum := "dd4c48f4aeb4498a9dc0b5f39ec78e7eb3b5892616cbbfc7d84c173cfcd5ed0b", func := "tabellion/tabellionlaw45.NodeFinds", spec := "nodeFinds", inPlace := ["internal/abi.NoEscape", "internal/bytealg.MakeNoZero", "internal/bytealg.abigen_runtime_cmpstring"], unfollowed := true, recurses := true, apart := false }
def NodeFindsSaid : Prop := nodeFindsRow.holds Try.pinned (OpenSpec.ofChange nodeFindsSpec)

/-- ITS FALSE NEIGHBOUR: 'it returns false'. Refute it at one input. -/
def nodeFindsWrong : ChangeSpec := { name := "nodeFinds", fn := fun _ => fun
  | [d1, d2] => { results := [.lit (.bool false)], args := [d1, d2] }
  | _ => none }
def NodeFindsWrongFalsely : Prop := nodeFindsRow.holds Try.pinned (OpenSpec.ofChange nodeFindsWrong)

/-- 'tabellionlaw45.NodeSplits': WHATEVER THE INPUT: true; the input reads as it did. -/
def nodeSplitsSpec : ChangeSpec := { name := "nodeSplits", fn := fun _ => fun
  | [d] => { results := [.lit (.bool true)], args := [d] }
  | _ => none }
def nodeSplitsRow : OpenClaim := { program := "ytgbihdlahghonaa", sum := "dd4c48f4aeb4498a9dc0b5f39ec78e7eb3b5892616cbbfc7d84c173cfcd5ed0b", func := "tabellion/tabellionlaw45.NodeSplits", spec := "nodeSplits", inPlace := ["internal/abi.NoEscape", "internal/bytealg.MakeNoZero", "internal/bytealg.abigen_runtime_cmpstring"], unfollowed := true, recurses := true, apart := false }
def NodeSplitsSaid : Prop := nodeSplitsRow.holds Try.pinned (OpenSpec.ofChange nodeSplitsSpec)

/-- ITS FALSE NEIGHBOUR: 'it returns false'. Refute it at one input. -/
def nodeSplitsWrong : ChangeSpec := { name := "nodeSplits", fn := fun _ => fun
  | [d] => { results := [.lit (.bool false)], args := [d] }
  | _ => none }
def NodeSplitsWrongFalsely : Prop := nodeSplitsRow.holds Try.pinned (OpenSpec.ofChange nodeSplitsWrong)

/-- 'tabellionlaw45.NodeSays': WHATEVER THE INPUT: true; the input reads as it did. -/
def nodeSaysSpec : ChangeSpec := { name := "nodeSays", fn := fun _ => fun
  | [d1, d2, d3, d4] => { results := [.lit (.bool true)], args := [d1, d2, d3, d4] }
  | _ => none }
def nodeSaysRow : OpenClaim := { program := "ytgbihdlahghonaa", sum := "dd4c48f4aeb4498a9dc0b5f39ec78e7eb3b5892616cbbfc7d84c173cfcd5ed0b", func := "tabellion/tabellionlaw45.NodeSays", spec := "nodeSays", inPlace := ["internal/abi.NoEscape", "internal/bytealg.MakeNoZero", "internal/bytealg.abigen_runtime_cmpstring"], unfollowed := true, recurses := true, apart := false }
def NodeSaysSaid : Prop := nodeSaysRow.holds Try.pinned (OpenSpec.ofChange nodeSaysSpec)

/-- ITS FALSE NEIGHBOUR: 'it returns false'. Refute it at one input. -/
def nodeSaysWrong : ChangeSpec := { name := "nodeSays", fn := fun _ => fun
  | [d1, d2, d3, d4] => { results := [.lit (.bool false)], args := [d1, d2, d3, d4] }
  | _ => none }
def NodeSaysWrongFalsely : Prop := nodeSaysRow.holds Try.pinned (OpenSpec.ofChange nodeSaysWrong)

/-- 'tabellionlaw45.NodeOrder': WHATEVER THE INPUT: true; the input reads as it did. -/
def nodeOrderSpec : ChangeSpec := { name := "nodeOrder", fn := fun _ => fun
  | [d1, d2, d3, d4] => { results := [.lit (.bool true)], args := [d1, d2, d3, d4] }
  | _ => none }
def nodeOrderRow : OpenClaim := { program := "ytgbihdlahghonaa", sum := "dd4c48f4aeb4498a9dc0b5f39ec78e7eb3b5892616cbbfc7d84c173cfcd5ed0b", func := "tabellion/tabellionlaw45.NodeOrder", spec := "nodeOrder", inPlace := ["internal/bytealg.abigen_runtime_cmpstring", "internal/abi.NoEscape", "internal/bytealg.MakeNoZero"], unfollowed := true, recurses := true, apart := false }
def NodeOrderSaid : Prop := nodeOrderRow.holds Try.pinned (OpenSpec.ofChange nodeOrderSpec)

/-- ITS FALSE NEIGHBOUR: 'it returns false'. Refute it at one input. -/
def nodeOrderWrong : ChangeSpec := { name := "nodeOrder", fn := fun _ => fun
  | [d1, d2, d3, d4] => { results := [.lit (.bool false)], args := [d1, d2, d3, d4] }
  | _ => none }
def NodeOrderWrongFalsely : Prop := nodeOrderRow.holds Try.pinned (OpenSpec.ofChange nodeOrderWrong)

/- THE SECOND FORM. 'bulk': how many values and letters a reading holds, each counted each time it is reached (what is shared counts as often as it is met; a slice's spare places count too). A statement '..UptoSaid' is the law's where the arguments, and the package variables that the reading takes, are together of bulk at most 1048576: NARROWER than '..Said'. Prove '..Said' where nothing that the law and all that it calls make is longer than what came in: it says more and counts as full. Else prove '..UptoSaid'. A law counts once. -/
mutual
def uptoBulk {H : Type} : DataW H → Nat
  | .lit (.string bytes) => bytes.length + 1
  | .lit _ => 1
  | .nil => 1
  | .ptr d => uptoBulk d + 1
  | .slice elems spare => uptoBulkAll elems + uptoBulkAll spare + 1
  | .agg parts => uptoBulkAll parts + 1
  | .iface _ d => uptoBulk d + 1
  | .map entries => uptoBulkEntries entries + 1
  | .held _ => 1
def uptoBulkAll {H : Type} : List (DataW H) → Nat
  | [] => 0
  | d :: r => uptoBulk d + uptoBulkAll r
def uptoBulkEntries {H : Type} : List (Lit × DataW H) → Nat
  | [] => 0
  | x :: r => uptoBulkEntry x + uptoBulkEntries r
def uptoBulkEntry {H : Type} : Lit × DataW H → Nat
  | (.string bytes, d) => bytes.length + uptoBulk d + 1
  | (_, d) => uptoBulk d + 1
 end
def uptoSmall : (H : Type) → List (DataW H) → Bool := fun _ ds => decide (uptoBulkAll ds ≤ 1048576)
def OpenSpec.upto (s : _root_.Go.ChangeSpec) : _root_.Go.OpenSpec := { _root_.Go.OpenSpec.ofChange s with cond := some uptoSmall }

/-- 'tabellionlaw37.PageLooks', WHERE WHAT IT READS IS OF BULK AT MOST 1048576: true; the input reads as it did. -/
def pageLooksUptoRow : OpenClaim := { program := "ytgbihdlahghonaa", sum := "dd4c48f4aeb4498a9dc0b5f39ec78e7eb3b5892616cbbfc7d84c173cfcd5ed0b", func := "tabellion/tabellionlaw37.PageLooks", spec := "pageLooks", inPlace := ["internal/abi.NoEscape", "internal/bytealg.MakeNoZero"], apart := false, narrowed := true }
def PageLooksUptoSaid : Prop := pageLooksUptoRow.holds Try.pinned (OpenSpec.upto pageLooksSpec)

/-- 'tabellionlaw37.PageRoom', WHERE WHAT IT READS IS OF BULK AT MOST 1048576: true; the input reads as it did. -/
def pageRoomUptoRow : OpenClaim := { program := "ytgbihdlahghonaa", sum := "dd4c48f4aeb4498a9dc0b5f39ec78e7eb3b5892616cbbfc7d84c173cfcd5ed0b", func := "tabellion/tabellionlaw37.PageRoom", spec := "pageRoom", inPlace := ["internal/abi.NoEscape", "internal/bytealg.MakeNoZero"], apart := false, narrowed := true }
def PageRoomUptoSaid : Prop := pageRoomUptoRow.holds Try.pinned (OpenSpec.upto pageRoomSpec)

/-- 'tabellionlaw37.PageMakes', WHERE WHAT IT READS IS OF BULK AT MOST 1048576: true; the input reads as it did. -/
def pageMakesUptoRow : OpenClaim := { program := "ytgbihdlahghonaa", sum := "dd4c48f4aeb4498a9dc0b5f39ec78e7eb3b5892616cbbfc7d84c173cfcd5ed0b", func := "tabellion/tabellionlaw37.PageMakes", spec := "pageMakes", inPlace := ["internal/abi.NoEscape", "internal/bytealg.MakeNoZero"], apart := false, narrowed := true }
def PageMakesUptoSaid : Prop := pageMakesUptoRow.holds Try.pinned (OpenSpec.upto pageMakesSpec)

/-- 'tabellionlaw37.PageChanges', WHERE WHAT IT READS IS OF BULK AT MOST 1048576: true; the input reads as it did. -/
def pageChangesUptoRow : OpenClaim := { program := "ytgbihdlahghonaa", sum := "dd4c48f4aeb4498a9dc0b5f39ec78e7eb3b5892616cbbfc7d84c173cfcd5ed0b", func := "tabellion/tabellionlaw37.PageChanges", spec := "pageChanges", inPlace := ["internal/abi.NoEscape", "internal/bytealg.MakeNoZero"], apart := false, narrowed := true }
def PageChangesUptoSaid : Prop := pageChangesUptoRow.holds Try.pinned (OpenSpec.upto pageChangesSpec)

/-- 'tabellionlaw37.PageOthers', WHERE WHAT IT READS IS OF BULK AT MOST 1048576: true; the input reads as it did. -/
def pageOthersUptoRow : OpenClaim := { program := "ytgbihdlahghonaa", sum := "dd4c48f4aeb4498a9dc0b5f39ec78e7eb3b5892616cbbfc7d84c173cfcd5ed0b", func := "tabellion/tabellionlaw37.PageOthers", spec := "pageOthers", inPlace := ["internal/abi.NoEscape", "internal/bytealg.MakeNoZero"], apart := false, narrowed := true }
def PageOthersUptoSaid : Prop := pageOthersUptoRow.holds Try.pinned (OpenSpec.upto pageOthersSpec)

/-- 'tabellionlaw37.PageBack', WHERE WHAT IT READS IS OF BULK AT MOST 1048576: true; the input reads as it did. -/
def pageBackUptoRow : OpenClaim := { program := "ytgbihdlahghonaa", sum := "dd4c48f4aeb4498a9dc0b5f39ec78e7eb3b5892616cbbfc7d84c173cfcd5ed0b", func := "tabellion/tabellionlaw37.PageBack", spec := "pageBack", inPlace := ["internal/abi.NoEscape", "internal/bytealg.MakeNoZero"], apart := false, narrowed := true }
def PageBackUptoSaid : Prop := pageBackUptoRow.holds Try.pinned (OpenSpec.upto pageBackSpec)

/-- 'tabellionlaw45.NodePages', WHERE WHAT IT READS IS OF BULK AT MOST 1048576: true; the input reads as it did. -/
def nodePagesUptoRow : OpenClaim := { program := "ytgbihdlahghonaa", sum := "dd4c48f4aeb4498a9dc0b5f39ec78e7eb3b5892616cbbfc7d84c173cfcd5ed0b", func := "tabellion/tabellionlaw45.NodePages", spec := "nodePages", inPlace := ["internal/abi.NoEscape", "internal/bytealg.MakeNoZero", "internal/bytealg.abigen_runtime_cmpstring"], unfollowed := true, recurses := true, apart := false, narrowed := true }
def NodePagesUptoSaid : Prop := nodePagesUptoRow.holds Try.pinned (OpenSpec.upto nodePagesSpec)

/-- 'tabellionlaw45.NodeFinds', WHERE WHAT IT READS IS OF BULK AT MOST 1048576: true; the input reads as it did. -/
def nodeFindsUptoRow : OpenClaim := { program := "ytgbihdlahghonaa", sum := "dd4c48f4aeb4498a9dc0b5f39ec78e7eb3b5892616cbbfc7d84c173cfcd5ed0b", func := "tabellion/tabellionlaw45.NodeFinds", spec := "nodeFinds", inPlace := ["internal/abi.NoEscape", "internal/bytealg.MakeNoZero", "internal/bytealg.abigen_runtime_cmpstring"], unfollowed := true, recurses := true, apart := false, narrowed := true }
def NodeFindsUptoSaid : Prop := nodeFindsUptoRow.holds Try.pinned (OpenSpec.upto nodeFindsSpec)

/-- 'tabellionlaw45.NodeSplits', WHERE WHAT IT READS IS OF BULK AT MOST 1048576: true; the input reads as it did. -/
def nodeSplitsUptoRow : OpenClaim := { program := "ytgbihdlahghonaa", sum := "dd4c48f4aeb4498a9dc0b5f39ec78e7eb3b5892616cbbfc7d84c173cfcd5ed0b", func := "tabellion/tabellionlaw45.NodeSplits", spec := "nodeSplits", inPlace := ["internal/abi.NoEscape", "internal/bytealg.MakeNoZero", "internal/bytealg.abigen_runtime_cmpstring"], unfollowed := true, recurses := true, apart := false, narrowed := true }
def NodeSplitsUptoSaid : Prop := nodeSplitsUptoRow.holds Try.pinned (OpenSpec.upto nodeSplitsSpec)

/-- 'tabellionlaw45.NodeSays', WHERE WHAT IT READS IS OF BULK AT MOST 1048576: true; the input reads as it did. -/
def nodeSaysUptoRow : OpenClaim := { program := "ytgbihdlahghonaa", sum := "dd4c48f4aeb4498a9dc0b5f39ec78e7eb3b5892616cbbfc7d84c173cfcd5ed0b", func := "tabellion/tabellionlaw45.NodeSays", spec := "nodeSays", inPlace := ["internal/abi.NoEscape", "internal/bytealg.MakeNoZero", "internal/bytealg.abigen_runtime_cmpstring"], unfollowed := true, recurses := true, apart := false, narrowed := true }
def NodeSaysUptoSaid : Prop := nodeSaysUptoRow.holds Try.pinned (OpenSpec.upto nodeSaysSpec)

/-- 'tabellionlaw45.NodeOrder', WHERE WHAT IT READS IS OF BULK AT MOST 1048576: true; the input reads as it did. -/
def nodeOrderUptoRow : OpenClaim := { program := "ytgbihdlahghonaa", sum := "dd4c48f4aeb4498a9dc0b5f39ec78e7eb3b5892616cbbfc7d84c173cfcd5ed0b", func := "tabellion/tabellionlaw45.NodeOrder", spec := "nodeOrder", inPlace := ["internal/bytealg.abigen_runtime_cmpstring", "internal/abi.NoEscape", "internal/bytealg.MakeNoZero"], unfollowed := true, recurses := true, apart := false, narrowed := true }
def NodeOrderUptoSaid : Prop := nodeOrderUptoRow.holds Try.pinned (OpenSpec.upto nodeOrderSpec)

end Rows
end Go.Proofs.Ytgbihdlahghonaa
