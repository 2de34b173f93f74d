/-
  No cell of these rows narrows 'for every input' (looked for: loops, veiled, ifaces, maps, wideKeys, modest, calm, conditions, laid).
  DERIVED. THE GIVEN ROWS OF THIS SEAT. 3 by the template 'for every input the law returns true; each argument reads behind the call as it read before'; 0 by the template 'total and deterministic' (their statements: YtilakddepaplhaaGreatTotals.lean).
  GIVEN WITH THE SEED: the statements are not yours to turn. If you find one false, say at which input.
  Laid BY PROGRAM, IN A SANDBOX (cutbox-rows.mjs): the forced cells as the released guide's own fill.sh prints them over the translation a7c5fff3ed00b9c9… (all of the seat's roots in one cut). By AI agents, Wed Nov 11 2026. No macro, syntax, notation, axiom, sorry.
-/
import Derived.Test.YtilakddepaplhaaGreatChecked
import GoSem.Claim
import GoSem.ClaimJoined
import GoSem.ClaimMapViews
import Derived.JoinedTies
import Derived.KernelRfl
namespace Go.Proofs.YtilakddepaplhaaGreat
/- THE CELL 'sum', in the pinned program and in every row, IS THE sha256 OF THE DUMP (.gsa) THAT YtilakddepaplhaaGreatProg.lean LOADS. Nothing in Lean hashes anything: it is a label: what it is worth is what the hold of that sum in a sandbox is worth. -/
noncomputable def Tryz.pinned : Pinned := { name := "ytilakddepaplhaagreat", sum := "a7c5fff3ed00b9c94fde37ef90802b45220549626e3781d8ae57cb40e02347a4", checked := Tryz.checked }
namespace Rows
def none {H : Type} : Left H := { results := [], args := [] }

/-- 'tabellionlaw48.CkptPlays': WHATEVER THE INPUT: true; the input reads as it did. -/
def ckptPlaysSpec : ChangeSpec := { name := "ckptPlays", fn := fun _ => fun
  | [d1, d2] => { results := [.lit (.bool true)], args := [d1, d2] }
  | _ => none }
def ckptPlaysRow : OpenClaim := { program := "ytilakddepaplhaagreat", sum := "a7c5fff3ed00b9c94fde37ef90802b45220549626e3781d8ae57cb40e02347a4", func := "tabellion/tabellionlaw48.CkptPlays", spec := "ckptPlays", inPlace := ["internal/abi.NoEscape", "internal/bytealg.MakeNoZero"], unfollowed := true, recurses := true, apart := false }
def CkptPlaysSaid : Prop := ckptPlaysRow.holds Tryz.pinned (OpenSpec.ofChange ckptPlaysSpec)

/-- ITS FALSE NEIGHBOUR: 'it returns false'. Refute it at one input. -/
def ckptPlaysWrong : ChangeSpec := { name := "ckptPlays", fn := fun _ => fun
  | [d1, d2] => { results := [.lit (.bool false)], args := [d1, d2] }
  | _ => none }
def CkptPlaysWrongFalsely : Prop := ckptPlaysRow.holds Tryz.pinned (OpenSpec.ofChange ckptPlaysWrong)

/-- 'tabellionlaw48.CkptBare': WHATEVER THE INPUT: true; the input reads as it did. -/
def ckptBareSpec : ChangeSpec := { name := "ckptBare", fn := fun _ => fun
  | [d1, d2] => { results := [.lit (.bool true)], args := [d1, d2] }
  | _ => none }
def ckptBareRow : OpenClaim := { program := "ytilakddepaplhaagreat", sum := "a7c5fff3ed00b9c94fde37ef90802b45220549626e3781d8ae57cb40e02347a4", func := "tabellion/tabellionlaw48.CkptBare", spec := "ckptBare", inPlace := ["internal/abi.NoEscape", "internal/bytealg.MakeNoZero"], unfollowed := true, recurses := true, apart := false }
def CkptBareSaid : Prop := ckptBareRow.holds Tryz.pinned (OpenSpec.ofChange ckptBareSpec)

/-- ITS FALSE NEIGHBOUR: 'it returns false'. Refute it at one input. -/
def ckptBareWrong : ChangeSpec := { name := "ckptBare", fn := fun _ => fun
  | [d1, d2] => { results := [.lit (.bool false)], args := [d1, d2] }
  | _ => none }
def CkptBareWrongFalsely : Prop := ckptBareRow.holds Tryz.pinned (OpenSpec.ofChange ckptBareWrong)

/-- 'tabellionlaw48.CkptSafe': WHATEVER THE INPUT: true; the input reads as it did. -/
def ckptSafeSpec : ChangeSpec := { name := "ckptSafe", fn := fun _ => fun
  | [d1, d2] => { results := [.lit (.bool true)], args := [d1, d2] }
  | _ => none }
def ckptSafeRow : OpenClaim := { program := "ytilakddepaplhaagreat", sum := "a7c5fff3ed00b9c94fde37ef90802b45220549626e3781d8ae57cb40e02347a4", func := "tabellion/tabellionlaw48.CkptSafe", spec := "ckptSafe", inPlace := ["internal/abi.NoEscape", "internal/bytealg.MakeNoZero"], unfollowed := true, recurses := true, apart := false }
def CkptSafeSaid : Prop := ckptSafeRow.holds Tryz.pinned (OpenSpec.ofChange ckptSafeSpec)

/-- ITS FALSE NEIGHBOUR: 'it returns false'. Refute it at one input. -/
def ckptSafeWrong : ChangeSpec := { name := "ckptSafe", fn := fun _ => fun
  | [d1, d2] => { results := [.lit (.bool false)], args := [d1, d2] }
  | _ => none }
def CkptSafeWrongFalsely : Prop := ckptSafeRow.holds Tryz.pinned (OpenSpec.ofChange ckptSafeWrong)

/- THE SECOND FORM. 'bulk': how many values and letters a reading holds, each counted each time it is reached (what is shared counts as often as it is met; a slice's spare places count too). A statement '..UptoSaid' is the law's where the arguments, and the package variables that the reading takes, are together of bulk at most 1048576: NARROWER than '..Said'. Prove '..Said' where nothing that the law and all that it calls make is longer than what came in: it says more and counts as full. Else prove '..UptoSaid'. A law counts once. -/
mutual
def uptoBulk {H : Type} : DataW H → Nat
  | .lit (.string bytes) => bytes.length + 1
  | .lit _ => 1
  | .nil => 1
  | .ptr d => uptoBulk d + 1
  | .slice elems spare => uptoBulkAll elems + uptoBulkAll spare + 1
  | .agg parts => uptoBulkAll parts + 1
  | .iface _ d => uptoBulk d + 1
  | .map entries => uptoBulkEntries entries + 1
  | .held _ => 1
def uptoBulkAll {H : Type} : List (DataW H) → Nat
  | [] => 0
  | d :: r => uptoBulk d + uptoBulkAll r
def uptoBulkEntries {H : Type} : List (Lit × DataW H) → Nat
  | [] => 0
  | x :: r => uptoBulkEntry x + uptoBulkEntries r
def uptoBulkEntry {H : Type} : Lit × DataW H → Nat
  | (.string bytes, d) => bytes.length + uptoBulk d + 1
  | (_, d) => uptoBulk d + 1
 end
def uptoSmall : (H : Type) → List (DataW H) → Bool := fun _ ds => decide (uptoBulkAll ds ≤ 1048576)
def OpenSpec.upto (s : _root_.Go.ChangeSpec) : _root_.Go.OpenSpec := { _root_.Go.OpenSpec.ofChange s with cond := some uptoSmall }

/-- 'tabellionlaw48.CkptPlays', WHERE WHAT IT READS IS OF BULK AT MOST 1048576: true; the input reads as it did. -/
def ckptPlaysUptoRow : OpenClaim := { program := "ytilakddepaplhaagreat", sum := "a7c5fff3ed00b9c94fde37ef90802b45220549626e3781d8ae57cb40e02347a4", func := "tabellion/tabellionlaw48.CkptPlays", spec := "ckptPlays", inPlace := ["internal/abi.NoEscape", "internal/bytealg.MakeNoZero"], unfollowed := true, recurses := true, apart := false, narrowed := true }
def CkptPlaysUptoSaid : Prop := ckptPlaysUptoRow.holds Tryz.pinned (OpenSpec.upto ckptPlaysSpec)

/-- 'tabellionlaw48.CkptBare', WHERE WHAT IT READS IS OF BULK AT MOST 1048576: true; the input reads as it did. -/
def ckptBareUptoRow : OpenClaim := { program := "ytilakddepaplhaagreat", sum := "a7c5fff3ed00b9c94fde37ef90802b45220549626e3781d8ae57cb40e02347a4", func := "tabellion/tabellionlaw48.CkptBare", spec := "ckptBare", inPlace := ["internal/abi.NoEscape", "internal/bytealg.MakeNoZero"], unfollowed := true, recurses := true, apart := false, narrowed := true }
def CkptBareUptoSaid : Prop := ckptBareUptoRow.holds Tryz.pinned (OpenSpec.upto ckptBareSpec)

/-- 'tabellionlaw48.CkptSafe', WHERE WHAT IT READS IS OF BULK AT MOST 1048576: true; the input reads as it did. -/
def ckptSafeUptoRow : OpenClaim := { program := "ytilakddepaplhaagreat", sum := "a7c5fff3ed00b9c94fde37ef90802b45220549626e3781d8ae57cb40e02347a4", func := "tabellion/tabellionlaw48.CkptSafe", spec := "ckptSafe", inPlace := ["internal/abi.NoEscape", "internal/bytealg.MakeNoZero"], unfollowed := true, recurses := true, apart := false, narrowed := true }
def CkptSafeUptoSaid : Prop := ckptSafeUptoRow.holds Tryz.pinned (OpenSpec.upto ckptSafeSpec)

end Rows
end Go.Proofs.YtilakddepaplhaaGreat
