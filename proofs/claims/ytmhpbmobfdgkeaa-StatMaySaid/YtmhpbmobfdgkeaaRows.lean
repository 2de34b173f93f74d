/-
  No cell of these rows narrows 'for every input' (looked for: loops, veiled, ifaces, maps, wideKeys, modest, calm, conditions, laid).
  DERIVED. THE GIVEN ROWS OF THIS SEAT. 3 by the template 'for every input the law returns true; each argument reads behind the call as it read before'; 0 by the template 'total and deterministic' (their statements: YtmhpbmobfdgkeaaTotals.lean).
  GIVEN WITH THE SEED: the statements are not yours to turn. If you find one false, say at which input.
  Laid BY PROGRAM, IN A SANDBOX (cutbox-rows.mjs): the forced cells as the released guide's own fill.sh prints them over the translation 2d422256cf1f7417… (all of the seat's roots in one cut). By AI agents, Wed Nov 11 2026. No macro, syntax, notation, axiom, sorry.
-/
import Derived.Test.YtmhpbmobfdgkeaaChecked
import GoSem.Claim
import GoSem.ClaimJoined
import GoSem.ClaimMapViews
import Derived.JoinedTies
import Derived.KernelRfl
namespace Go.Proofs.Ytmhpbmobfdgkeaa
/- THE CELL 'sum', in the pinned program and in every row, IS THE sha256 OF THE DUMP (.gsa) THAT YtmhpbmobfdgkeaaProg.lean LOADS. Nothing in Lean hashes anything: it is a label: what it is worth is what the hold of that sum in a sandbox is worth. -/
noncomputable def Try.pinned : Pinned := { name := "ytmhpbmobfdgkeaa", sum := "2d422256cf1f7417c40901c9bb10b3916c38ca67c2f9e2470332c4d3af3b3884", checked := Try.checked }
namespace Rows
def none {H : Type} : Left H := { results := [], args := [] }

/-- 'tabellionlaw23.StatOf': WHATEVER THE INPUT: true; the input reads as it did. -/
def statOfSpec : ChangeSpec := { name := "statOf", fn := fun _ => fun
  | [d1, d2, d3, d4] => { results := [.lit (.bool true)], args := [d1, d2, d3, d4] }
  | _ => none }
def statOfRow : OpenClaim := { program := "ytmhpbmobfdgkeaa", sum := "2d422256cf1f7417c40901c9bb10b3916c38ca67c2f9e2470332c4d3af3b3884", func := "tabellion/tabellionlaw23.StatOf", spec := "statOf", inPlace := ["internal/bytealg.abigen_runtime_cmpstring"], unfollowed := true, recurses := true, apart := false }
def StatOfSaid : Prop := statOfRow.holds Try.pinned (OpenSpec.ofChange statOfSpec)

/-- ITS FALSE NEIGHBOUR: 'it returns false'. Refute it at one input. -/
def statOfWrong : ChangeSpec := { name := "statOf", fn := fun _ => fun
  | [d1, d2, d3, d4] => { results := [.lit (.bool false)], args := [d1, d2, d3, d4] }
  | _ => none }
def StatOfWrongFalsely : Prop := statOfRow.holds Try.pinned (OpenSpec.ofChange statOfWrong)

/-- 'tabellionlaw23.StatMay': WHATEVER THE INPUT: true; the input reads as it did. -/
def statMaySpec : ChangeSpec := { name := "statMay", fn := fun _ => fun
  | [d1, d2, d3] => { results := [.lit (.bool true)], args := [d1, d2, d3] }
  | _ => none }
def statMayRow : OpenClaim := { program := "ytmhpbmobfdgkeaa", sum := "2d422256cf1f7417c40901c9bb10b3916c38ca67c2f9e2470332c4d3af3b3884", func := "tabellion/tabellionlaw23.StatMay", spec := "statMay", inPlace := ["internal/bytealg.abigen_runtime_cmpstring"], unfollowed := true, recurses := true, apart := false }
def StatMaySaid : Prop := statMayRow.holds Try.pinned (OpenSpec.ofChange statMaySpec)

/-- ITS FALSE NEIGHBOUR: 'it returns false'. Refute it at one input. -/
def statMayWrong : ChangeSpec := { name := "statMay", fn := fun _ => fun
  | [d1, d2, d3] => { results := [.lit (.bool false)], args := [d1, d2, d3] }
  | _ => none }
def StatMayWrongFalsely : Prop := statMayRow.holds Try.pinned (OpenSpec.ofChange statMayWrong)

/-- 'tabellionlaw23.StatRight': WHATEVER THE INPUT: true; the input reads as it did. -/
def statRightSpec : ChangeSpec := { name := "statRight", fn := fun _ => fun
  | [d1, d2, d3] => { results := [.lit (.bool true)], args := [d1, d2, d3] }
  | _ => none }
def statRightRow : OpenClaim := { program := "ytmhpbmobfdgkeaa", sum := "2d422256cf1f7417c40901c9bb10b3916c38ca67c2f9e2470332c4d3af3b3884", func := "tabellion/tabellionlaw23.StatRight", spec := "statRight", inPlace := ["internal/bytealg.abigen_runtime_cmpstring"], unfollowed := true, recurses := true, apart := false }
def StatRightSaid : Prop := statRightRow.holds Try.pinned (OpenSpec.ofChange statRightSpec)

/-- ITS FALSE NEIGHBOUR: 'it returns false'. Refute it at one input. -/
def statRightWrong : ChangeSpec := { name := "statRight", fn := fun _ => fun
  | [d1, d2, d3] => { results := [.lit (.bool false)], args := [d1, d2, d3] }
  | _ => none }
def StatRightWrongFalsely : Prop := statRightRow.holds Try.pinned (OpenSpec.ofChange statRightWrong)

/- THE SECOND FORM. 'bulk': how many values and letters a reading holds, each counted each time it is reached (what is shared counts as often as it is met; a slice's spare places count too). A statement '..UptoSaid' is the law's where the arguments, and the package variables that the reading takes, are together of bulk at most 1048576: NARROWER than '..Said'. Prove '..Said' where nothing that the law and all that it calls make is longer than what came in: it says more and counts as full. Else prove '..UptoSaid'. A law counts once. -/
mutual
def uptoBulk {H : Type} : DataW H → Nat
  | .lit (.string bytes) => bytes.length + 1
  | .lit _ => 1
  | .nil => 1
  | .ptr d => uptoBulk d + 1
  | .slice elems spare => uptoBulkAll elems + uptoBulkAll spare + 1
  | .agg parts => uptoBulkAll parts + 1
  | .iface _ d => uptoBulk d + 1
  | .map entries => uptoBulkEntries entries + 1
  | .held _ => 1
def uptoBulkAll {H : Type} : List (DataW H) → Nat
  | [] => 0
  | d :: r => uptoBulk d + uptoBulkAll r
def uptoBulkEntries {H : Type} : List (Lit × DataW H) → Nat
  | [] => 0
  | x :: r => uptoBulkEntry x + uptoBulkEntries r
def uptoBulkEntry {H : Type} : Lit × DataW H → Nat
  | (.string bytes, d) => bytes.length + uptoBulk d + 1
  | (_, d) => uptoBulk d + 1
 end
def uptoSmall : (H : Type) → List (DataW H) → Bool := fun _ ds => decide (uptoBulkAll ds ≤ 1048576)
def OpenSpec.upto (s : _root_.Go.ChangeSpec) : _root_.Go.OpenSpec := { _root_.Go.OpenSpec.ofChange s with cond := some uptoSmall }

/-- 'tabellionlaw23.StatOf', WHERE WHAT IT READS IS OF BULK AT MOST 1048576: true; the input reads as it did. -/
def statOfUptoRow : OpenClaim := { program := "ytmhpbmobfdgkeaa", sum := "2d422256cf1f7417c40901c9bb10b3916c38ca67c2f9e2470332c4d3af3b3884", func := "tabellion/tabellionlaw23.StatOf", spec := "statOf", inPlace := ["internal/bytealg.abigen_runtime_cmpstring"], unfollowed := true, recurses := true, apart := false, narrowed := true }
def StatOfUptoSaid : Prop := statOfUptoRow.holds Try.pinned (OpenSpec.upto statOfSpec)

/-- 'tabellionlaw23.StatMay', WHERE WHAT IT READS IS OF BULK AT MOST 1048576: true; the input reads as it did. -/
def statMayUptoRow : OpenClaim := { program := "ytmhpbmobfdgkeaa", sum := "2d422256cf1f7417c40901c9bb10b3916c38ca67c2f9e2470332c4d3af3b3884", func := "tabellion/tabellionlaw23.StatMay", spec := "statMay", inPlace := ["internal/bytealg.abigen_runtime_cmpstring"], unfollowed := true, recurses := true, apart := false, narrowed := true }
def StatMayUptoSaid : Prop := statMayUptoRow.holds Try.pinned (OpenSpec.upto statMaySpec)

/-- 'tabellionlaw23.StatRight', WHERE WHAT IT READS IS OF BULK AT MOST 1048576: true; the input reads as it did. -/
def statRightUptoRow : OpenClaim := { program := "ytmhpbmobfdgkeaa", sum := "2d422256cf1f7417c40901c9bb10b3916c38ca67c2f9e2470332c4d3af3b3884", func := "tabellion/tabellionlaw23.StatRight", spec := "statRight", inPlace := ["internal/bytealg.abigen_runtime_cmpstring"], unfollowed := true, recurses := true, apart := false, narrowed := true }
def StatRightUptoSaid : Prop := statRightUptoRow.holds Try.pinned (OpenSpec.upto statRightSpec)

end Rows
end Go.Proofs.Ytmhpbmobfdgkeaa
