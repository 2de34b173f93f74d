/- The frame shared by the statements of this seat: what a walk that only makes memory owes the row; the arguments read behind the call as they did. -/
import Derived.Test.YtmhpbmobfdgkeaaRows
import Derived.WalkKit
import Derived.ProofKit
import Derived.OpenShut
import Derived.SizedLaws
import Derived.Below
import Derived.Carry
import Derived.ChangeSame
import Derived.Lib.SmallJoins
import Derived.Test.YtmhpbmobfdgkeaaProg
import Derived.WalkSpells
import Derived.WalkLawsBesides
import Derived.Lib.Hide
import Derived.Lib.ConvBytes
import Derived.Shelf.Small.Strs
import Derived.Shelf.Small.Wraps
import Derived.Shelf.GgClosure.StringsIndexFuncTop
import Derived.Shelf.SlSortCmp.NoneTotal
import Derived.Lib.AppendStr
import Derived.RegionTactic
import Derived.BigRegion
import Derived.ChangeAlike
import Derived.Lib.UnsafeStr
import Derived.Lib.Builder
import Derived.Deep.QuietTactic
import Derived.BigQuiet
import Derived.Deep.DeepCutAuto
import Derived.Deep.LoopGhost
import Derived.Deep.RegionHeld3
import Derived.Deep.AppendLies
import Derived.Deep.MidRow
import Derived.Laws.ResultCell
import Derived.Laws.Tables
import Derived.Laws.StructEq
import Derived.Laws.CopyOwn
import Derived.Laws.MakeOwn
import Derived.Laws.OwnMore
import Derived.Maps.AppendAt
import Derived.OwnWalk
import Derived.IntWalk
import Derived.Lib.Bytealg
import Derived.Lib.Small
namespace Go.Proofs.Ytmhpbmobfdgkeaa
open Go.ChangeShapes Go.WideShapes Go.ChangeAt Go.RowKit
theorem own : ownKnob Try.prog.godebug = none := by kernel_rfl
theorem bnd {n : Int} (h : (Lit.int .i64 n).wf = true) : -9223372036854775808 ≤ n ∧ n ≤ 9223372036854775807 := bounds_i64 h
theorem laidOut : laidOutB Try.prog = true := by kernel_rfl
section
variable {H : Type} {enc : TypeId × Value → H} {P : Program}
theorem trodAll_again (hl : laidOutB P = true) {W W' : World} (hb : Below W.heap.size W W') {sp : Nat → Bool} : ∀ {ts : List TypeId} {vs : List Value} {ds : List (DataW H)} {ps : List MemPlace}, (ts.all fun t => P.readableRec t && decide (t < P.types.size)) = true →
    DataW.TrodAll enc P W 0 (fun _ => true) true ts vs ds ps → (∀ x ∈ ps, x.block < W.heap.size) → (∀ x ∈ ps, sp x.block = true) → DataW.TrodAll enc P W' 0 sp true ts vs ds ps := by
  intro ts
  induction ts with
  | nil =>
    intro vs ds ps _ h _ _
    obtain ⟨rfl, rfl, rfl⟩ := trodAll_nil h
    exact trodAll_mk0
  | cons t ts ih =>
    intro vs ds ps hr h hlt hsp
    obtain ⟨v, vs', d, ds', p, q, rfl, rfl, rfl, h0, h1⟩ := trodAll_cons h
    simp only [List.all_cons, Bool.and_eq_true] at hr
    obtain ⟨⟨hr1, hr2⟩, hr3⟩ := hr
    refine trodAll_cons_mk (WideElems.Trod_stays hl hr1 (of_decide_eq_true hr2) h0 (fun x hx => hb.same (hlt x (List.mem_append_left _ hx))) (fun x hx => hsp x (List.mem_append_left _ hx))) ?_
    exact ih (by simpa using hr3) h1 (fun x hx => hlt x (List.mem_append_right _ hx)) (fun x hx => hsp x (List.mem_append_right _ hx))
theorem post_again {f : Func} {s : ChangeSpec} {apart fresh handsOn again : Bool} {W W' : World} {args : Array Value} {v : Value} {ds gs : List (DataW H)} {before pa pv : List MemPlace}
    (hW : DataW.Whole enc P f.params.toList s.vars apart W args.toList ds gs before)
    (hres : ∀ (b : Nat) (sp : Nat → Bool) (hd : Bool), DataW.TrodAll enc P W' b sp hd f.resultTypes.toList (v.resultList f.resultTypes.size) (s.fn H (ds ++ gs)).results [])
    (hargs : ∀ sp : Nat → Bool, (∀ p ∈ before, sp p.block = true) → DataW.TrodAll enc P W' 0 sp true f.params.toList args.toList (s.fn H (ds ++ gs)).args pa)
    (hvars : ∀ sp : Nat → Bool, (∀ p ∈ before, sp p.block = true) → DataW.TrodVars enc P W' sp s.vars (s.fn H (ds ++ gs)).vars pv)
    (hps : before = pa ++ pv) (hb : Below W.heap.size W W')
    (hok : ∀ (j : Nat) (t : TypeId) (r : Value), f.resultTypes[j]? = some t → (v.resultList f.resultTypes.size)[j]? = some r → Value.okWide P W' .any 0 t r) :
    s.post enc P f apart fresh handsOn again W args v W' := by
  have hlt : ∀ p ∈ before, p.block < W.heap.size := fun p hp => hW.lt p hp
  have hold : ∀ p ∈ before, (fun b => decide (b < W.heap.size)) p.block = true := fun p hp => by simpa using hlt p hp
  refine ⟨ds, gs, before, [], pa, pv, hW, hres _ _ _, hargs _ hold, hvars _ hold, World.keptBut_mono (fun p hp => ⟨hp, ?_⟩) (hb.frame (· ∈ before)), fun _ => ?_⟩
  · rw [hps, List.mem_append] at hp
    exact Or.inr hp
  · obtain ⟨_, _, _, _, _, hz, hn⟩ := hW
    refine ⟨hok, _, _, ([] ++ pa) ++ pv, ⟨[] ++ pa, pv, trodAll_append (hargs _ (fun _ _ => rfl)) (hres _ _ _), hvars _ (fun _ _ => rfl), rfl, ?_, ?_⟩, ?_⟩
    · intro b off hp
      have hin : MemPlace.cell b off ∈ before := by rw [hps]; simpa using hp
      rw [hb.frozen (hlt _ hin)]
      exact hz b off hin
    · intro ha
      have := hn ha
      rw [hps] at this
      simpa using this
    · intro p hp _
      rw [hps]
      simpa using hp
end
section
variable {H : Type} {enc : TypeId × Value → H} {w : World} {base : Nat} {spare : Nat → Bool} {held : Bool}
end
end Go.Proofs.Ytmhpbmobfdgkeaa
/- The plain mathematics of package octet: numbers in bytes, the sum of a text. -/
namespace Oct
/-- The number as an int. -/
def intOf (u : Nat) : Int := if u < 9223372036854775808 then (u : Int) else (u : Int) - 18446744073709551616
def there (len : Nat) (at_ size : Int) : Bool := decide (1 ≤ size) && decide (size ≤ 8) && decide (0 ≤ at_) && decide (at_ + size ≤ len)
end Oct
/- The walks over package octet: numbers in bytes. -/
namespace Go.Proofs.Ytmhpbmobfdgkeaa
open Go.RowKit
end Go.Proofs.Ytmhpbmobfdgkeaa
/- The walks over the reference of chapter 5: numbers in bytes, the sum. -/
namespace Go.Proofs.Ytmhpbmobfdgkeaa
open Go.RowKit
end Go.Proofs.Ytmhpbmobfdgkeaa
/-
  DERIVED: THE SHELF's CONTRACTS AT THIS DUMP, IN PLAIN WORDS (tools/lay-plain.mjs out of 'TryShelf.lean', which tools/lay-shelf.mjs wrote): THE SAME DECLARATIONS UNDER THE SAME NAMES: 'import', 'namespace', 'open', 'def', 'theorem' AND NOTHING ELSE: no command of the shelf's: FOR A HAND-IN. Each laying: the table of numbers ('.._ren') and one theorem, a field a fact of the dump's own or the kernel's comparison; each contract: ONE APPLICATION.
-/
namespace Go.Proofs
open Go.Shelf
def Try.lays106_ren : Go.Shelf.Ren := ⟨fun | 106 => 29 | 213 => 58 | 265 => 70 | n => n, fun | 9 => 9 | 3 => 3 | n => n, fun | n => n⟩
theorem Try.lays106 : Go.Proofs.Lays.n106 Try.prog Try.lays106_ren := {
  mixed := by kernel_rfl
  f106 := Try.func29.trans (congrArg some (by kernel_rfl))
  f213 := Try.func58.trans (congrArg some (by kernel_rfl))
  f265 := Try.func70.trans (congrArg some (by kernel_rfl))
  t3 := Try.underlying3
  a3 := Try.isAgg3
  z3 := Try.sizeOf3
  v3 := Try.zeroValue3
  t9 := Try.underlying9
  a9 := Try.isAgg9
  z9 := Try.sizeOf9
  v9 := Try.zeroValue9 }
open Go.RowKit in
/-- strings.Compare. -/
theorem Try.strings_Compare (a b : ByteArray) (w : World) :
    Calls Try.prog 29 #[.string a, .string b] w fun e w' => e = .returned (.int .i64 (Lib.compareBytes a.data.toList b.data.toList)) ∧ w' = w := Any.strings_Compare Try.lays106 a b w
def Try.lays122_ren : Go.Shelf.Ren := ⟨fun | 122 => 28 | 215 => 57 | n => n, fun | 3 => 3 | 4 => 4 | n => n, fun | n => n⟩
theorem Try.lays122 : Go.Proofs.Lays.n122 Try.prog Try.lays122_ren := {
  mixed := by kernel_rfl
  f122 := Try.func28.trans (congrArg some (by kernel_rfl))
  f215 := Try.func57.trans (congrArg some (by kernel_rfl))
  t3 := Try.underlying3
  a3 := Try.isAgg3
  z3 := Try.sizeOf3
  v3 := Try.zeroValue3
  t4 := Try.underlying4
  a4 := Try.isAgg4
  z4 := Try.sizeOf4
  v4 := Try.zeroValue4 }
open Go.RowKit in
/-- cmp.Compare at int. -/
theorem Try.cmp_Compare_int (x y : Int) (w : World) :
    Calls Try.prog 28 #[.int .i64 x, .int .i64 y] w fun e w' => e = .returned (.int .i64 (Lib.compareInt x y)) ∧ w' = w := Any.cmp_Compare_int Try.lays122 x y w
def Try.laysIdx_ren : Go.Shelf.Ren := ⟨fun | 15 => 50 | 20 => 69 | n => n, fun | 9 => 9 | 23 => 72 | 3 => 3 | 4 => 4 | 0 => 0 | 21 => 21 | n => n, fun | n => n⟩
theorem Try.laysIdx : Go.Proofs.LaysGw.n15 Try.prog Try.laysIdx_ren := {
  mixed := by kernel_rfl
  f15 := Try.func50.trans (congrArg some (by kernel_rfl))
  f20 := Try.func69.trans (congrArg some (by kernel_rfl))
  t0 := Try.underlying0
  a0 := Try.isAgg0
  z0 := Try.sizeOf0
  v0 := Try.zeroValue0
  i0 := by kernel_rfl
  t3 := Try.underlying3
  a3 := Try.isAgg3
  z3 := Try.sizeOf3
  v3 := Try.zeroValue3
  i3 := by kernel_rfl
  t4 := Try.underlying4
  a4 := Try.isAgg4
  z4 := Try.sizeOf4
  v4 := Try.zeroValue4
  i4 := by kernel_rfl
  t9 := Try.underlying9
  a9 := Try.isAgg9
  z9 := Try.sizeOf9
  v9 := Try.zeroValue9
  i9 := by kernel_rfl
  t21 := Try.underlying21
  a21 := Try.isAgg21
  z21 := Try.sizeOf21
  v21 := Try.zeroValue21
  i21 := by kernel_rfl
  t23 := Try.underlying72
  a23 := Try.isAgg72
  z23 := Try.sizeOf72
  v23 := Try.zeroValue72
  i23 := by kernel_rfl }
def Try.sortV_ren : Go.Shelf.Ren := ⟨fun | 6 => 37 | 15 => 65 | 14 => 64 | 28 => 83 | 29 => 84 | 20 => 75 | 21 => 76 | 22 => 77 | 23 => 78 | 24 => 79 | 25 => 80 | 26 => 81 | 27 => 82 | 46 => 93 | 47 => 94 | 48 => 95 | 49 => 96 | 50 => 97 | 57 => 101 | n => n, fun | 22 => 32 | 24 => 36 | 25 => 40 | 3 => 3 | 39 => 81 | 0 => 0 | 53 => 96 | 55 => 98 | 4 => 4 | 46 => 89 | 45 => 88 | 50 => 93 | 5 => 5 | 9 => 9 | 66 => 104 | 70 => 108 | 76 => 112 | 77 => 113 | n => n, fun | n => n⟩
theorem Try.sortV : Go.Proofs.SlLaysF0.n6 Try.prog Try.sortV_ren := {
  mixed := by kernel_rfl
  f6 := ⟨Try.f37.name, by decide, Try.func37.trans (congrArg some (by kernel_rfl))⟩
  f14 := ⟨Try.f64.name, by decide, Try.func64.trans (congrArg some (by kernel_rfl))⟩
  f15 := Try.func65.trans (congrArg some (by kernel_rfl))
  f20 := ⟨Try.f75.name, by decide, Try.func75.trans (congrArg some (by kernel_rfl))⟩
  f21 := ⟨Try.f76.name, by decide, Try.func76.trans (congrArg some (by kernel_rfl))⟩
  f22 := ⟨Try.f77.name, by decide, Try.func77.trans (congrArg some (by kernel_rfl))⟩
  f23 := ⟨Try.f78.name, by decide, Try.func78.trans (congrArg some (by kernel_rfl))⟩
  f24 := ⟨Try.f79.name, by decide, Try.func79.trans (congrArg some (by kernel_rfl))⟩
  f25 := ⟨Try.f80.name, by decide, Try.func80.trans (congrArg some (by kernel_rfl))⟩
  f26 := ⟨Try.f81.name, by decide, Try.func81.trans (congrArg some (by kernel_rfl))⟩
  f27 := ⟨Try.f82.name, by decide, Try.func82.trans (congrArg some (by kernel_rfl))⟩
  f28 := Try.func83.trans (congrArg some (by kernel_rfl))
  f29 := Try.func84.trans (congrArg some (by kernel_rfl))
  f46 := ⟨Try.f93.name, by decide, Try.func93.trans (congrArg some (by kernel_rfl))⟩
  f47 := Try.func94.trans (congrArg some (by kernel_rfl))
  f48 := Try.func95.trans (congrArg some (by kernel_rfl))
  f49 := ⟨Try.f96.name, by decide, Try.func96.trans (congrArg some (by kernel_rfl))⟩
  f50 := ⟨Try.f97.name, by decide, Try.func97.trans (congrArg some (by kernel_rfl))⟩
  f57 := ⟨Try.f101.name, by decide, Try.func101.trans (congrArg some (by kernel_rfl))⟩
  t0 := Try.underlying0
  a0 := Try.isAgg0
  z0 := Try.sizeOf0
  v0 := Try.zeroValue0
  t3 := Try.underlying3
  a3 := Try.isAgg3
  z3 := Try.sizeOf3
  v3 := Try.zeroValue3
  t4 := Try.underlying4
  a4 := Try.isAgg4
  z4 := Try.sizeOf4
  v4 := Try.zeroValue4
  t5 := Try.underlying5
  a5 := Try.isAgg5
  z5 := Try.sizeOf5
  v5 := Try.zeroValue5
  t9 := Try.underlying9
  a9 := Try.isAgg9
  z9 := Try.sizeOf9
  v9 := Try.zeroValue9
  t22 := Try.underlying32
  a22 := Try.isAgg32
  z22 := Try.sizeOf32
  v22 := Try.zeroValue32
  t25 := Try.underlying40
  a25 := Try.isAgg40
  z25 := Try.sizeOf40
  v25 := Try.zeroValue40
  t39 := Try.underlying81
  a39 := Try.isAgg81
  z39 := Try.sizeOf81
  v39 := Try.zeroValue81
  t45 := Try.underlying88
  a45 := Try.isAgg88
  z45 := Try.sizeOf88
  v45 := Try.zeroValue88
  t46 := Try.underlying89
  a46 := Try.isAgg89
  z46 := Try.sizeOf89
  v46 := Try.zeroValue89
  t50 := Try.underlying93
  a50 := Try.isAgg93
  z50 := Try.sizeOf93
  v50 := Try.zeroValue93
  t53 := Try.underlying96
  a53 := Try.isAgg96
  z53 := Try.sizeOf96
  v53 := Try.zeroValue96
  t55 := Try.underlying98
  a55 := Try.isAgg98
  z55 := Try.sizeOf98
  v55 := Try.zeroValue98
  t66 := Try.underlying104
  a66 := Try.isAgg104
  z66 := Try.sizeOf104
  v66 := Try.zeroValue104
  t70 := Try.underlying108
  a70 := Try.isAgg108
  z70 := Try.sizeOf108
  v70 := Try.zeroValue108
  t76 := Try.underlying112
  a76 := Try.isAgg112
  z76 := Try.sizeOf112
  v76 := Try.zeroValue112
  t77 := Try.underlying113
  a77 := Try.isAgg113
  z77 := Try.sizeOf113
  v77 := Try.zeroValue113 }
def Try.sortO_ren : Go.Shelf.Ren := ⟨fun | 6 => 42 | 15 => 65 | 14 => 67 | 28 => 83 | 29 => 84 | 20 => 85 | 21 => 86 | 22 => 87 | 23 => 88 | 24 => 89 | 25 => 90 | 26 => 91 | 27 => 92 | 46 => 98 | 47 => 94 | 48 => 95 | 49 => 99 | 50 => 100 | 57 => 102 | n => n, fun | 22 => 37 | 24 => 48 | 25 => 69 | 3 => 3 | 39 => 81 | 0 => 0 | 53 => 96 | 55 => 98 | 4 => 4 | 46 => 89 | 45 => 88 | 50 => 93 | 5 => 5 | 9 => 9 | 66 => 104 | 70 => 108 | 76 => 112 | 77 => 113 | n => n, fun | n => n⟩
theorem Try.sortO : Go.Proofs.SlLaysF0.n6 Try.prog Try.sortO_ren := {
  mixed := by kernel_rfl
  f6 := ⟨Try.f42.name, by decide, Try.func42.trans (congrArg some (by kernel_rfl))⟩
  f14 := ⟨Try.f67.name, by decide, Try.func67.trans (congrArg some (by kernel_rfl))⟩
  f15 := Try.func65.trans (congrArg some (by kernel_rfl))
  f20 := ⟨Try.f85.name, by decide, Try.func85.trans (congrArg some (by kernel_rfl))⟩
  f21 := ⟨Try.f86.name, by decide, Try.func86.trans (congrArg some (by kernel_rfl))⟩
  f22 := ⟨Try.f87.name, by decide, Try.func87.trans (congrArg some (by kernel_rfl))⟩
  f23 := ⟨Try.f88.name, by decide, Try.func88.trans (congrArg some (by kernel_rfl))⟩
  f24 := ⟨Try.f89.name, by decide, Try.func89.trans (congrArg some (by kernel_rfl))⟩
  f25 := ⟨Try.f90.name, by decide, Try.func90.trans (congrArg some (by kernel_rfl))⟩
  f26 := ⟨Try.f91.name, by decide, Try.func91.trans (congrArg some (by kernel_rfl))⟩
  f27 := ⟨Try.f92.name, by decide, Try.func92.trans (congrArg some (by kernel_rfl))⟩
  f28 := Try.func83.trans (congrArg some (by kernel_rfl))
  f29 := Try.func84.trans (congrArg some (by kernel_rfl))
  f46 := ⟨Try.f98.name, by decide, Try.func98.trans (congrArg some (by kernel_rfl))⟩
  f47 := Try.func94.trans (congrArg some (by kernel_rfl))
  f48 := Try.func95.trans (congrArg some (by kernel_rfl))
  f49 := ⟨Try.f99.name, by decide, Try.func99.trans (congrArg some (by kernel_rfl))⟩
  f50 := ⟨Try.f100.name, by decide, Try.func100.trans (congrArg some (by kernel_rfl))⟩
  f57 := ⟨Try.f102.name, by decide, Try.func102.trans (congrArg some (by kernel_rfl))⟩
  t0 := Try.underlying0
  a0 := Try.isAgg0
  z0 := Try.sizeOf0
  v0 := Try.zeroValue0
  t3 := Try.underlying3
  a3 := Try.isAgg3
  z3 := Try.sizeOf3
  v3 := Try.zeroValue3
  t4 := Try.underlying4
  a4 := Try.isAgg4
  z4 := Try.sizeOf4
  v4 := Try.zeroValue4
  t5 := Try.underlying5
  a5 := Try.isAgg5
  z5 := Try.sizeOf5
  v5 := Try.zeroValue5
  t9 := Try.underlying9
  a9 := Try.isAgg9
  z9 := Try.sizeOf9
  v9 := Try.zeroValue9
  t22 := Try.underlying37
  a22 := Try.isAgg37
  z22 := Try.sizeOf37
  v22 := Try.zeroValue37
  t25 := Try.underlying69
  a25 := Try.isAgg69
  z25 := Try.sizeOf69
  v25 := Try.zeroValue69
  t39 := Try.underlying81
  a39 := Try.isAgg81
  z39 := Try.sizeOf81
  v39 := Try.zeroValue81
  t45 := Try.underlying88
  a45 := Try.isAgg88
  z45 := Try.sizeOf88
  v45 := Try.zeroValue88
  t46 := Try.underlying89
  a46 := Try.isAgg89
  z46 := Try.sizeOf89
  v46 := Try.zeroValue89
  t50 := Try.underlying93
  a50 := Try.isAgg93
  z50 := Try.sizeOf93
  v50 := Try.zeroValue93
  t53 := Try.underlying96
  a53 := Try.isAgg96
  z53 := Try.sizeOf96
  v53 := Try.zeroValue96
  t55 := Try.underlying98
  a55 := Try.isAgg98
  z55 := Try.sizeOf98
  v55 := Try.zeroValue98
  t66 := Try.underlying104
  a66 := Try.isAgg104
  z66 := Try.sizeOf104
  v66 := Try.zeroValue104
  t70 := Try.underlying108
  a70 := Try.isAgg108
  z70 := Try.sizeOf108
  v70 := Try.zeroValue108
  t76 := Try.underlying112
  a76 := Try.isAgg112
  z76 := Try.sizeOf112
  v76 := Try.zeroValue112
  t77 := Try.underlying113
  a77 := Try.isAgg113
  z77 := Try.sizeOf113
  v77 := Try.zeroValue113 }
end Go.Proofs
/- strings.Builder: what WriteString and String do, with a frame that keeps another builder's bytes. -/
namespace Go.Proofs.Ytmhpbmobfdgkeaa
open Go.RowKit
/-- Only block b, and the blocks from B on, may have turned. -/
structure KeptB (B b : Nat) (w w' : World) : Prop where
  os : w'.os = w.os
  tape : w'.tape = w.tape
  output : w'.output = w.output
  size : w.heap.size ≤ w'.heap.size
  block : ∀ k, k < B → k ≠ b → w'.heap[k]? = w.heap[k]?
theorem KeptB.refl (B b : Nat) (w : World) : KeptB B b w w := ⟨rfl, rfl, rfl, Nat.le_refl _, fun _ _ _ => rfl⟩
theorem KeptB.trans {B b : Nat} {u v w : World} (h : KeptB B b u v) (k : KeptB B b v w) : KeptB B b u w :=
  ⟨k.os.trans h.os, k.tape.trans h.tape, k.output.trans h.output, Nat.le_trans h.size k.size, fun i hi hb => (k.block i hi hb).trans (h.block i hi hb)⟩
theorem KeptB.below {B b lo : Nat} {u v : World} (h : KeptB B b u v) (h1 : lo ≤ B) (h2 : lo ≤ b) : Below lo u v :=
  ⟨h.os, h.tape, h.output, h.size, fun i hi => h.block i (by omega) (by omega)⟩
/-- Only blocks from B to H, and new ones, may have turned. -/
structure KeptR (B H : Nat) (w w' : World) : Prop where
  os : w'.os = w.os
  tape : w'.tape = w.tape
  output : w'.output = w.output
  size : w.heap.size ≤ w'.heap.size
  block : ∀ k, k < w.heap.size → (k < B ∨ H ≤ k) → w'.heap[k]? = w.heap[k]?
theorem KeptR.drew (B H : Nat) (w : World) : KeptR B H w w.drew := ⟨rfl, rfl, rfl, Nat.le_refl _, fun _ _ _ => rfl⟩
theorem KeptR.alloc (B H : Nat) (w : World) (o : Obj) : KeptR B H w (w.alloc o).drew :=
  ⟨rfl, rfl, rfl, by show w.heap.size ≤ (w.heap.push o).size; simp, fun k hk _ => Below.heap_alloc w o k hk⟩
theorem KeptR.below {B H lo : Nat} {w w' : World} (h : KeptR B H w w') (h1 : lo ≤ B) (h2 : lo ≤ w.heap.size) : Below lo w w' :=
  ⟨h.os, h.tape, h.output, h.size, fun k hk => h.block k (by omega) (.inl (by omega))⟩
end Go.Proofs.Ytmhpbmobfdgkeaa
/- Words for memory that serve every seat: rows that are read, rows of the call's own, appends. -/
namespace Go.Proofs.Ytmhpbmobfdgkeaa
open Go.RowKit
theorem joinB {a b c : World} (h : Below a.heap.size a b) (k : Below b.heap.size b c) : Below a.heap.size a c := h.trans (k.mono h.size)
theorem pastAlloc {w w' : World} {o : Obj} (hb : Below w.heap.size w w') : Below w.heap.size w (w'.alloc o) := hb.alloc hb.size o
theorem allocB (w : World) (o : Obj) : Below w.heap.size w (w.alloc o) := pastAlloc (Below.refl _ _)
theorem heapLt {w : World} {g : Nat} {o : Obj} (h : w.heap[g]? = some o) : g < w.heap.size := (Array.getElem?_eq_some_iff.1 h).1
theorem blkOld {w w' : World} {b : Nat} {o : Obj} (h : w.heap[b]? = some o) (hb : Below w.heap.size w w') : w'.heap[b]? = some o := by
  rw [hb.block b (heapLt h)]; exact h
theorem blkSet {w : World} {b : Nat} (i : Nat) {cs : Array Value} {T : TypeId} {fr : Nat × Nat} (h : w.heap[b]? = some (.cells cs T fr)) (v : Value) : (w.setCell ⟨b, i, none⟩ v).heap[b]? = some (.cells (cs.setIfInBounds i v) T fr) := by
  rw [setCell_eq_setRow w b i cs T fr v h]
  exact setRow_heap w b _ _ T _ h
theorem blkCell {w : World} {g : Nat} {cs : Array Value} {t : TypeId} {fr : Nat × Nat} (h : w.heap[g]? = some (.cells cs t fr)) (i : Nat) : w.cell? ⟨g, i, none⟩ = cs[i]? := by simp [World.cell?, h]
theorem blkFrozen {w : World} {g : Nat} {cs : Array Value} {t : TypeId} (h : w.heap[g]? = some (.cells cs t (0, 0))) (i : Nat) : w.frozen? ⟨g, i, none⟩ = false := by simp [World.frozen?, h]
theorem ownBelow {w w' : World} {B : Nat} {e : TypeId} {size n : Nat} {v : Value} {xs : List Value} (h : w.ownsRow B e size v n xs) (hb : Below w.heap.size w w') : w'.ownsRow B e size v n xs := by
  refine ⟨h.1, ?_⟩
  rcases h.2 with hz | ⟨g, cap, cur, hv, hg, hh, r⟩
  · exact .inl hz
  · exact .inr ⟨g, cap, cur, hv, hg, blkOld hh hb, r⟩
theorem ownSet {w : World} {B : Nat} {e : TypeId} {size n : Nat} {v : Value} {xs : List Value} (h : w.ownsRow B e size v n xs) (a : Addr) (u : Value) (ha : a.block < B) : (w.setCell a u).ownsRow B e size v n xs := by
  refine ⟨h.1, ?_⟩
  rcases h.2 with hz | ⟨g, cap, cur, hv, hg, hh, r⟩
  · exact .inl hz
  · exact .inr ⟨g, cap, cur, hv, hg, by rw [Below.heap_setCell _ _ _ _ (by omega)]; exact hh, r⟩
theorem ownLen {B n size : Nat} {e : TypeId} {v : Value} {xs : List Value} {w : World} (h : w.ownsRow B e size v n xs) : ∃ a c, v = .slice a n c := by
  rcases h.2 with ⟨rfl, h0⟩ | ⟨g', cap, cur, rfl, _⟩
  · exact ⟨_, _, by rw [h0]⟩
  · exact ⟨_, _, rfl⟩
theorem ownNil (w : World) (B : Nat) (e : TypeId) (size : Nat) : w.ownsRow B e size (.slice none 0 0) 0 [] := World.ownsRow_nil w B e size
theorem ownEmpty (w : World) (e : TypeId) (size : Nat) : (w.alloc (.cells #[] e)).ownsRow w.heap.size e size (.slice (some ⟨w.heap.size, 0, none⟩) 0 0) 0 [] := World.ownsRow_made w #[] 0 (Nat.le_refl _) (Nat.zero_le _) (by simp)
/-- The slice at A, of n elements and capacity c, reads as the cells vs. -/
def Reads (w : World) (A : Option Addr) (c n : Nat) (vs : List Value) : Prop :=
  0 < n → ∃ b off, A = some ⟨b, off, none⟩ ∧ n ≤ c ∧ b < w.heap.size ∧ ∀ j v, vs[j]? = some v → w.cell? ⟨b, off + j, none⟩ = some v
theorem Reads.none_ (w : World) (A : Option Addr) (c : Nat) (vs : List Value) : Reads w A c 0 vs := fun h => absurd h (by omega)
theorem Reads.below {w w' : World} {A : Option Addr} {c n : Nat} {vs : List Value} (h : Reads w A c n vs) (hb : Below w.heap.size w w') : Reads w' A c n vs := fun h0 => by
  obtain ⟨b, off, hA, hc, hlt, hcell⟩ := h h0
  refine ⟨b, off, hA, hc, Nat.lt_of_lt_of_le hlt hb.size, fun j v hj => ?_⟩
  rw [hb.cell (p := ⟨b, off + j, none⟩) hlt]; exact hcell j v hj
theorem Reads.alloc {w : World} {A : Option Addr} {c n : Nat} {vs : List Value} (h : Reads w A c n vs) (o : Obj) : Reads (w.alloc o) A c n vs := h.below (allocB w o)
theorem Reads.at_ {w : World} {A : Option Addr} {c n : Nat} {vs : List Value} (h : Reads w A c n vs) (h0 : 0 < n) : ∃ b off, A = some ⟨b, off, none⟩ ∧ n ≤ c ∧ b < w.heap.size ∧ ∀ j v, vs[j]? = some v → w.cell? ⟨b, off + j, none⟩ = some v := h h0
theorem own_reads {w : World} {B : Nat} {e : TypeId} {size n c : Nat} {A : Option Addr} {vs : List Value} (h : w.ownsRow B e size (.slice A n c) n vs) : Reads w A c n vs := fun h0 => by
  rcases h.2 with ⟨_, hz⟩ | ⟨g, cap, cur, hv, hg, hh, hn, hm, hs, ht⟩
  · omega
  · injection hv with h1 h2 h3
    subst h1 h3
    refine ⟨g, 0, rfl, hn, heapLt hh, fun j v hj => ?_⟩
    have h5 : cur.toList[j]? = some v := by
      rw [← ht] at hj
      rw [List.getElem?_take] at hj
      split at hj
      · exact hj
      · cases hj
    rw [blkCell hh, Nat.zero_add]
    simpa using h5
theorem reads_blk {w : World} {g : Nat} {cs : List Value} {T : TypeId} {n c : Nat} (h : w.heap[g]? = some (.cells cs.toArray T (0, 0))) (hn : n ≤ c) : Reads w (some ⟨g, 0, none⟩) c n cs := fun _ =>
  ⟨g, 0, rfl, hn, heapLt h, fun j v hj => by rw [blkCell h, Nat.zero_add]; simpa using hj⟩
/-- Elements of k cells each, one behind the other. -/
theorem flat_at {α : Type} {enc : α → List Value} {k : Nat} (hk : ∀ x, (enc x).length = k) : ∀ (l : List α) (j i : Nat) (hj : j < l.length), i < k → (l.flatMap enc)[j * k + i]? = (enc l[j])[i]? := by
  intro l
  induction l with
  | nil => intro j i h; simp at h
  | cons x l ih =>
    intro j i hj hi
    rw [List.flatMap_cons]
    cases j with
    | zero => rw [List.getElem?_append_left (by rw [hk]; omega)]; simp
    | succ j =>
      rw [List.getElem?_append_right (by rw [hk, Nat.succ_mul]; omega), hk, show (j + 1) * k + i - k = j * k + i by rw [Nat.succ_mul]; omega]
      exact ih j i (by simpa using hj) hi
theorem flat_len {α : Type} {enc : α → List Value} {k : Nat} (hk : ∀ x, (enc x).length = k) (l : List α) : (l.flatMap enc).length = l.length * k := by
  induction l with
  | nil => simp
  | cons x l ih => rw [List.flatMap_cons, List.length_append, hk, ih, List.length_cons, Nat.succ_mul]; omega
/-- A cell of an element of a slice that is read. -/
theorem read_at {α : Type} {enc : α → List Value} {k : Nat} (hk : ∀ x, (enc x).length = k) {w : World} {A : Option Addr} {c : Nat} {l : List α} (h : Reads w A c l.length (l.flatMap enc)) {j : Nat} (hj : j < l.length) :
    ∃ b off, A = some ⟨b, off, none⟩ ∧ l.length ≤ c ∧ b < w.heap.size ∧ ∀ i v, (enc l[j])[i]? = some v → w.cell? ⟨b, off + j * k + i, none⟩ = some v := by
  obtain ⟨b, off, hA, hc, hlt, hcell⟩ := h (by omega)
  refine ⟨b, off, hA, hc, hlt, fun i v hv => ?_⟩
  have hi : i < k := by
    have := (List.getElem?_eq_some_iff.1 hv).1
    rw [hk] at this; exact this
  rw [Nat.add_assoc]
  exact hcell _ _ (by rw [flat_at hk l j i hj hi]; exact hv)
theorem run_app_nil {P : Program} {w : World} {t e ty : TypeId} {i0 : TypeInfo} {B n size : Nat} {v : Value} {xs : List Value} (ht : P.underlying t = some (.slice e)) (hi : P.info? e = some i0) (hown : w.ownsRow B e size v n xs) (c : Nat) :
    (Builtin.append_ #[t, t] ty #[v, .slice none 0 c]).run P w = .ok v w := by
  rcases hown.2 with ⟨rfl, hz⟩ | ⟨g, cap, cur, rfl, _, _, hnc, _⟩
  · simp [Builtin.append_, run_underlying ht, sizeOf, typeInfo, hi, Builtin.lenOf, Builtin.firstCells]
  · simp [Builtin.append_, run_underlying ht, sizeOf, typeInfo, hi, Builtin.lenOf, Builtin.firstCells, hnc, storeCells]
/-- append onto a row of the call's own: elements of any size, the source nil or not. -/
theorem wp_appR {P : Program} {o : Oper} {a : Act} {K : Act → World → Prop} {Q : Exit → Act → World → Prop} (w : World) (s x : Operand) (t e : TypeId) (i0 : TypeInfo) (z : Value) (size bytes : Nat)
    (ht : P.underlying t = some (.slice e)) (hi : P.info? e = some i0) (hz : i0.zero = some z) (hsz : i0.size = size) (hby : i0.bytes = bytes) (hzc : z.cells.size = size) (hpos : 0 < size)
    (ho : o.op = .call { callee := .builtin .append, args := #[s, x], argTypes := #[t, t] })
    (B : Nat) (v : Value) (n : Nat) (xs : List Value) (hs : a.eval s = v) (hown : w.ownsRow B e size v n xs) (A : Option Addr) (m c : Nat) (ys : List Value) (hx : a.eval x = .slice A m c) (hy : Reads w A c m ys) (hyl : ys.length = m * size) (h1 : ∀ u ∈ ys, u.oneCell' = true)
    (hlen : n + m ≤ 1048576) (hbs : bytes ≤ 1024) (hbase : B ≤ w.heap.size)
    (h : ∀ v' w', w'.ownsRow B e size v' (n + m) (xs ++ ys) → w.grownBy w' v.ownBlock → Below B w w' → K (a.put o.dst v') w') : o.wp P a w K Q := by
  rcases A with _ | ad
  · have hn : m = 0 := by
      rcases Nat.eq_zero_or_pos m with h0 | h0
      · exact h0
      · obtain ⟨b, off, e, _⟩ := hy h0
        cases e
    subst hn
    have hys : ys = [] := List.eq_nil_of_length_eq_zero (by simpa using hyl)
    subst hys
    have hrun := run_app_nil (ty := o.type) ht hi hown c
    unfold Oper.wp execOp
    simp only [ho, resolve, invoke, builtin, Sem.run_bind, Sem.run_pure, Result.andThen_ok, List.map_toArray, List.map_cons, List.map_nil, hs, hx, hrun]
    exact h v w (by simpa using hown) (World.grownBy.refl w _) (Below.refl _ _)
  · refine wp_append_own w s x _ ho B e i0 z size bytes ht hi hz hsz hby hzc hpos v n xs hs hown ad m c ys hx hyl ?_ h1 (by simp only [maxLen]; omega) ?_ hbase ?_
    · intro j u hu
      have hpos : 0 < m := by
        have := (List.getElem?_eq_some_iff.1 hu).1
        rcases Nat.eq_zero_or_pos m with h0 | h0
        · subst h0; rw [Nat.zero_mul] at hyl; omega
        · exact h0
      obtain ⟨b, off, e, _, _, hE⟩ := hy hpos
      injection e with e
      subst e
      rw [show (⟨b, off, none⟩ : Addr).add j = ⟨b, off + j, none⟩ from Addr.add_mid b off j]
      exact hE j u hu
    · have : (n + m) * bytes ≤ 1048576 * 1024 := Nat.mul_le_mul hlen hbs
      omega
    · intro v' w' h1 h2 _
      exact h v' w' h1 h2 ((Below.refl _ _).grown h2 hbase (fun k hk => (hown.lt k hk).1))
/-- At an operation that is wanted. -/
theorem listWants {P : Program} {ops : Array Oper} {Q : Exit → Act → World → Prop} {a : Act} {w : World} {rest : List Oper} {o : Oper} (hw : Region.wanted o (yielded ops a.tmps) = true) (h : ∀ K : Act → World → Prop, (∀ a w, wpList P ops Q rest a w → K a w) → o.wp P a w K Q) : wpList P ops Q (o :: rest) a w :=
  wpList_step fun K hK => by rw [if_pos hw]; exact h K hK
/-- A value of as many cells as the block has is stored into it whole. -/
theorem run_store_whole {P : Program} (w : World) (b : Nat) (ty : TypeId) (cells cur : Array Value) (t : TypeId) (hg : w.heap[b]? = some (.cells cur t (0, 0))) (hsz : cur.size = cells.size) (hi : (P.info? ty).map (·.size) = some cells.size) (h1 : cells.all (·.oneCell') = true) :
    (storeVar ty ⟨b, 0, none⟩ (.agg cells)).run P w = .ok () (w.setRow b cells) := by
  have hst := run_storeCells_at P b 0 t cells.toList 0 cur w hg (by simp [hsz]) (fun v hv => (Array.all_eq_true_iff_forall_mem.1 h1) v (by simpa using hv))
  simp only [Nat.zero_add, List.take_zero, List.nil_append] at hst
  have e : (cells.toList ++ cur.toList.drop cells.toList.length).toArray = cells := by
    rw [List.drop_of_length_le (by simp [hsz])]; simp
  rw [e] at hst
  cases hq : P.info? ty with
  | none => simp [hq] at hi
  | some i =>
    have hs : cells.size = i.size := by simp [hq] at hi; omega
    simp [storeVar, sizeOf, typeInfo, hq, Value.cells, hs, hst]
theorem wp_store_whole {P : Program} {op : Oper} {a : Act} {w : World} {K : Act → World → Prop} {Q : Exit → Act → World → Prop} (ty : TypeId) (x y : Operand) (ho : op.op = .store ty x y)
    (b : Nat) (cells cur : Array Value) (t : TypeId) (hx : a.eval x = .pointer (some ⟨b, 0, none⟩)) (hy : a.eval y = .agg cells) (hg : w.heap[b]? = some (.cells cur t (0, 0))) (hsz : cur.size = cells.size)
    (hi : (P.info? ty).map (·.size) = some cells.size) (h1 : cells.all (·.oneCell') = true) (h : K (a.put op.dst undef) (w.setRow b cells)) : op.wp P a w K Q := by
  unfold Oper.wp execOp
  simp only [ho, hx, hy, Instr.storeAt, Instr.sureAddr, Sem.run_bind, Sem.run_pure, Result.andThen_ok, run_store_whole w b ty cells cur t hg hsz hi h1]
  exact h
theorem alloc_setRow (w : World) (cs cur : Array Value) (t : TypeId) : (w.alloc (.cells cur t)).setRow w.heap.size cs = w.alloc (.cells cs t) := by
  have e : (w.heap.push (Obj.cells cur t)).modify w.heap.size (fun | .cells _ elem frozen => .cells cs elem frozen | o => o) = w.heap.push (.cells cs t) := by
    apply Array.ext_getElem?
    intro i
    rw [Array.getElem?_modify, Array.getElem?_push, Array.getElem?_push]
    by_cases h : i = w.heap.size
    · subst h; simp
    · rw [if_neg (fun e => h e.symm), if_neg h, if_neg h]
  show ({ w with heap := (w.heap.push (Obj.cells cur t)).modify w.heap.size (fun | .cells _ elem frozen => .cells cs elem frozen | o => o) } : World) = { w with heap := w.heap.push (.cells cs t) }
  rw [e]
/-- The variable that was made last gets its value. -/
theorem wpList_store_new {P : Program} {ops : Array Oper} {rest : List Oper} {op : Oper} {a : Act} {w : World} {Q : Exit → Act → World → Prop} (hgd : op.guard = none) (ty : TypeId) (x y : Operand) (ho : op.op = .store ty x y)
    (cells cur : Array Value) (t : TypeId) (hx : a.eval x = .pointer (some ⟨w.heap.size, 0, none⟩)) (hy : a.eval y = .agg cells) (hsz : cur.size = cells.size)
    (hi : (P.info? ty).map (·.size) = some cells.size) (h1 : cells.all (·.oneCell') = true)
    (h : wpList P ops Q rest (a.put op.dst undef) (w.alloc (.cells cells t))) : wpList P ops Q (op :: rest) a (w.alloc (.cells cur t)) :=
  wpList_plain hgd fun _ hK => wp_store_whole ty x y ho w.heap.size cells cur t hx hy (heap_alloc_new w _) hsz hi h1 (hK _ _ (by rw [alloc_setRow]; exact h))
theorem results_cell {P : Program} {fn : Func} {p : Tmp} {ty : TypeId} (h : fn.results = #[.cell p ty]) (tmps : Array Value) (w : World) {ad : Addr} (hp : tmps.getD p undef = .pointer (some ad)) {v : Value} (hl : (loadVar ty ad).run P w = .ok v w) :
    (results fn tmps).run P w = .ok v w := by
  simp only [results, h]
  have hp' : tmps[p]?.getD undef = .pointer (some ad) := by simpa using hp
  simp [hp', asAddr, hl]
/-- A whole block is read. -/
theorem load_whole {P : Program} {w : World} {b : Nat} {ty : TypeId} {cells : Array Value} {t : TypeId} {d : TypeDesc} (hg : w.heap[b]? = some (.cells cells t (0, 0)))
    (hu : P.underlying ty = some d) (hd : d.isRow = true) (hi : (P.info? ty).map (·.size) = some cells.size) : (loadVar ty ⟨b, 0, none⟩).run P w = .ok (.agg cells) w := by
  have h := run_loadVar_mid (P := P) w b 0 ty cells.toList d (fun j v hj => by rw [blkCell hg, Nat.zero_add]; simpa using hj) hu hd (by simpa using hi)
  simpa using h
/-- A whole block is read, by an operation that may be guarded, and is wanted. -/
theorem listLoad {P : Program} {ops : Array Oper} {rest : List Oper} {op : Oper} {a : Act} {w : World} {Q : Exit → Act → World → Prop} (hw : Region.wanted op (yielded ops a.tmps) = true) (ty : TypeId) (x : Operand) (ho : op.op = .load ty x)
    (b : Nat) (hx : a.eval x = .pointer (some ⟨b, 0, none⟩)) (cells : Array Value) (t : TypeId) (hg : w.heap[b]? = some (.cells cells t (0, 0))) (d : TypeDesc)
    (hu : P.underlying ty = some d) (hd : d.isRow = true) (hi : (P.info? ty).map (·.size) = some cells.size)
    (h : wpList P ops Q rest (a.put op.dst (.agg cells)) w) : wpList P ops Q (op :: rest) a w :=
  listWants hw fun K hK => by
    refine wp_load_mid ty x ho b 0 hx cells.toList d (fun j v hj => by rw [blkCell hg, Nat.zero_add]; simpa using hj) hu hd (by simpa using hi) ?_
    simpa using hK _ _ h
/-! Steps through a region that draws its order, with the facts that the kernel reckons left to the end (short.py writes them). -/
section
variable {P : Program} {ops : Array Oper} {Q : Exit → Act → World → Prop} {md : Region.Mode} {S : World → Prop}
theorem tkW (i : Nat) (d : Option Nat) {op : Op} {ty : TypeId} {pos : String} {aft : Array Edge} {g : Option (Nat × Bool)} {v : Value} {fuel : Nat} {listed : Array Bool} {a : Act} {w : World} (hi : ops[i]? = some ⟨d, op, ty, pos, aft, g⟩)
    (hy : ∀ w, S w → (execOp a.eval ⟨d, op, ty, pos, aft, g⟩).run P w = .ok (.value v) w) (h : wpAnyH P md ops Q S fuel (listed.setIfInBounds i true) (a.put d v) w)
    (hw : Region.wanted ⟨d, op, ty, pos, aft, g⟩ (yielded ops a.tmps) = true := by rfl) (hS : S w := by assumption) (hs : Region.noSelect ops = true := by kernel_rfl) (hf : Region.free md ops listed i = true := by kernel_rfl) (hr : (Region.ready md ops listed).contains i = true := by kernel_rfl) (hQ : ∀ c a w, Q (.panic c) (a.put d v) w → Q (.panic c) a w := by exact fun _ _ _ h => h) :
    wpAnyH P md ops Q S (fuel + 1) listed a w := wpAnyH_take hi hs hf hr hQ (.inl ⟨hw, hy⟩) hS h
theorem tkO (i : Nat) (d : Option Nat) {op : Op} {ty : TypeId} {pos : String} {aft : Array Edge} {g : Option (Nat × Bool)} {fuel : Nat} {listed : Array Bool} {a : Act} {w : World} (hi : ops[i]? = some ⟨d, op, ty, pos, aft, g⟩)
    (h : wpAnyH P md ops Q S fuel (listed.setIfInBounds i true) (a.put d undef) w)
    (hw : Region.wanted ⟨d, op, ty, pos, aft, g⟩ (yielded ops a.tmps) = false := by rfl) (hS : S w := by assumption) (hs : Region.noSelect ops = true := by kernel_rfl) (hf : Region.free md ops listed i = true := by kernel_rfl) (hr : (Region.ready md ops listed).contains i = true := by kernel_rfl) (hQ : ∀ c a w, Q (.panic c) (a.put d undef) w → Q (.panic c) a w := by exact fun _ _ _ h => h) :
    wpAnyH P md ops Q S (fuel + 1) listed a w := wpAnyH_take hi hs hf hr hQ (.inr ⟨hw, rfl⟩) hS h
theorem tkV (i : Nat) (d : Option Nat) {op : Op} {ty : TypeId} {pos : String} {aft : Array Edge} {g : Option (Nat × Bool)} {v : Value} {fuel : Nat} {listed : Array Bool} {a : Act} {w : World} (hi : ops[i]? = some ⟨d, op, ty, pos, aft, g⟩)
    (hy : YieldsIf P ops S ⟨d, op, ty, pos, aft, g⟩ v a) (h : wpAnyH P md ops Q S fuel (listed.setIfInBounds i true) (a.put d v) w)
    (hS : S w := by assumption) (hs : Region.noSelect ops = true := by kernel_rfl) (hf : Region.free md ops listed i = true := by kernel_rfl) (hr : (Region.ready md ops listed).contains i = true := by kernel_rfl) (hQ : ∀ c a w, Q (.panic c) (a.put d v) w → Q (.panic c) a w := by exact fun _ _ _ h => h) :
    wpAnyH P md ops Q S (fuel + 1) listed a w := wpAnyH_take hi hs hf hr hQ hy hS h
theorem rdH (i : Nat) (d : Option Nat) {op : Op} {ty : TypeId} {pos : String} {aft : Array Edge} {g : Option (Nat × Bool)} {fuel : Nat} {listed : Array Bool} {a : Act} {w : World} (hi : ops[i]? = some ⟨d, op, ty, pos, aft, g⟩)
    (h : ∀ K' : Act → World → Prop, Shut (∀ a w, S w → (S w → wpAnyH P md ops Q S fuel (listed.setIfInBounds i true) a w) → K' a w) → if Region.wanted ⟨d, op, ty, pos, aft, g⟩ (yielded ops a.tmps) = true then Oper.wp P ⟨d, op, ty, pos, aft, g⟩ a w K' Q else K' (a.put d undef) w)
    (hr : Region.ready md ops listed = [i] := by kernel_rfl) : wpAnyH P md ops Q S (fuel + 1) listed a w :=
  wpAnyH_ready hr (by simp) (AllReadyH.cons hi h AllReadyH.nil)
end
end Go.Proofs.Ytmhpbmobfdgkeaa
/- Words for memory that serve every seat: one element is appended, whatever it is. -/
namespace Go.Proofs.Ytmhpbmobfdgkeaa
open Go.RowKit
theorem wantedIf {c : Prop} [Decidable c] {p q : Prop} (hc : c) (h : p) : if c then p else q := by rw [if_pos hc]; exact h
/-- One element is appended to a row of the call's own. -/
theorem wp_push {P : Program} {o : Oper} {a : Act} {K : Act → World → Prop} {Q : Exit → Act → World → Prop} (w : World) (s x : Operand) (t e : TypeId) {z : Value} {size bytes : Nat}
    (ht : P.underlying t = some (.slice e)) (hi : (P.info? e).map (fun i => (i.zero, i.size, i.bytes)) = some (some z, size, bytes)) (hzc : z.cells.size = size) (hpos : 0 < size) (hby : bytes ≤ 1024)
    (ho : o.op = .call { callee := .builtin .append, args := #[s, x], argTypes := #[t, t] })
    (B : Nat) (v : Value) (n : Nat) (xs : List Value) (hs : a.eval s = v) (hown : w.ownsRow B e size v n xs) (g : Nat) (cs : List Value) (T : TypeId) (hx : a.eval x = .slice (some ⟨g, 0, none⟩) 1 1) (hg : w.heap[g]? = some (.cells cs.toArray T (0, 0)))
    (hcl : cs.length = size) (h1 : ∀ u ∈ cs, u.oneCell' = true) (hlen : n + 1 ≤ 1048576) (hbase : B ≤ w.heap.size)
    (h : ∀ v' w', w'.ownsRow B e size v' (n + 1) (xs ++ cs) → w.grownBy w' v.ownBlock → Below B w w' → K (a.put o.dst v') w') : o.wp P a w K Q := by
  obtain ⟨i0, hi, hz0, hz1, hz2⟩ := info_parts hi
  exact wp_appR w s x t e i0 _ size bytes ht hi hz0 hz1 hz2 hzc hpos ho B v n xs hs hown _ 1 1 cs hx (reads_blk (cs := cs) hg (Nat.le_refl _)) (by omega) h1 hlen hby hbase h
theorem wpList_push {P : Program} {ops : Array Oper} {rest : List Oper} {o : Oper} {a : Act} {Q : Exit → Act → World → Prop} {w : World} (hw : Region.wanted o (yielded ops a.tmps) = true) (s x : Operand) (t e : TypeId) {z : Value} {size bytes : Nat}
    (ht : P.underlying t = some (.slice e)) (hi : (P.info? e).map (fun i => (i.zero, i.size, i.bytes)) = some (some z, size, bytes)) (hzc : z.cells.size = size) (hpos : 0 < size) (hby : bytes ≤ 1024)
    (ho : o.op = .call { callee := .builtin .append, args := #[s, x], argTypes := #[t, t] })
    (B : Nat) (v : Value) (n : Nat) (xs : List Value) (hs : a.eval s = v) (hown : w.ownsRow B e size v n xs) (g : Nat) (cs : List Value) (T : TypeId) (hx : a.eval x = .slice (some ⟨g, 0, none⟩) 1 1) (hg : w.heap[g]? = some (.cells cs.toArray T (0, 0)))
    (hcl : cs.length = size) (h1 : ∀ u ∈ cs, u.oneCell' = true) (hlen : n + 1 ≤ 1048576) (hbase : B ≤ w.heap.size)
    (h : ∀ v' w', w'.ownsRow B e size v' (n + 1) (xs ++ cs) → w.grownBy w' v.ownBlock → Below B w w' → wpList P ops Q rest (a.put o.dst v') w') : wpList P ops Q (o :: rest) a w :=
  listWants hw fun _ hK => wp_push w s x t e ht hi hzc hpos hby ho B v n xs hs hown g cs T hx hg hcl h1 hlen hbase (fun v' w' a b c => hK _ _ (h v' w' a b c))
/-- The slice v is a row of the call's own that reads as the list l. -/
abbrev OwnL {α : Type} (enc : α → List Value) (k : Nat) (e : TypeId) (B : Nat) (w : World) (v : Value) (l : List α) : Prop := w.ownsRow B e k v l.length (l.flatMap enc)
theorem OwnL.push {α : Type} {enc : α → List Value} {k : Nat} {e : TypeId} {B : Nat} {w : World} {v : Value} {l : List α} {x : α} (h : w.ownsRow B e k v (l.length + 1) (l.flatMap enc ++ enc x)) : OwnL enc k e B w v (l ++ [x]) := by
  unfold OwnL
  rw [List.length_append, List.flatMap_append]
  simpa using h
theorem OwnL.form {α : Type} {enc : α → List Value} {k : Nat} {e : TypeId} {B : Nat} {w : World} {v : Value} {l : List α} (h : OwnL enc k e B w v l) : ∃ A c, v = .slice A l.length c ∧ Reads w A c l.length (l.flatMap enc) := by
  obtain ⟨A, c, rfl⟩ := ownLen h
  exact ⟨A, c, rfl, own_reads h⟩
/-- A row of the call's own and a block of another kind are apart. -/
theorem ownApart {w : World} {B g n size : Nat} {e t : TypeId} {v : Value} {xs : List Value} {cs : Array Value} {fr : Nat × Nat} (h : w.ownsRow B e size v n xs) (hg : w.heap[g]? = some (.cells cs t fr)) (hne : e ≠ t) : v.ownBlock ≠ some g := by
  rcases h.2 with ⟨rfl, _⟩ | ⟨g', cap, cur, rfl, _, hh, _⟩
  · simp [Value.ownBlock]
  · intro he
    have hgg : g' = g := by simpa [Value.ownBlock] using he
    subst hgg
    rw [hh] at hg
    injection hg with hg
    injection hg with _ ht
    exact hne ht
end Go.Proofs.Ytmhpbmobfdgkeaa
/- Words for memory that serve every seat: the boxes of a call, one behind the other. -/
namespace Go.Proofs.Ytmhpbmobfdgkeaa
open Go.RowKit
theorem heap_setRow_other (w : World) (b : Nat) (cs : Array Value) (k : Nat) (h : k ≠ b) : (w.setRow b cs).heap[k]? = w.heap[k]? := by
  show (w.heap.modify b _)[k]? = _
  rw [Array.getElem?_modify, if_neg (fun e => h e.symm)]
/-- The boxes l lie one behind the other from block B on; nothing ahead of w's end has turned. -/
structure BxL (B : Nat) (w : World) (l : List (Array Value × TypeId)) (u : World) : Prop where
  get : ∀ i p, l[i]? = some p → u.heap[B + i]? = some (.cells p.1 p.2 (0, 0))
  low : w.heap.size ≤ B
  below : Below w.heap.size w u
theorem BxL.get0 {B : Nat} {w u : World} {l : List (Array Value × TypeId)} {c0 : Array Value} {T0 : TypeId} (h : BxL B w ((c0, T0) :: l) u) : u.heap[B]? = some (.cells c0 T0 (0, 0)) := h.get 0 _ rfl
theorem BxL.get1 {B : Nat} {w u : World} {l : List (Array Value × TypeId)} {p : Array Value × TypeId} {c1 : Array Value} {T1 : TypeId} (h : BxL B w (p :: (c1, T1) :: l) u) : u.heap[B + 1]? = some (.cells c1 T1 (0, 0)) := h.get 1 _ rfl
theorem BxL.nil {w u : World} (h : Below w.heap.size w u) : BxL u.heap.size w [] u := ⟨fun i p h => (by simp at h), h.size, h⟩
theorem BxL.lt {B : Nat} {w u : World} {l : List (Array Value × TypeId)} (h : BxL B w l u) {i : Nat} (hi : i < l.length) : B + i < u.heap.size := heapLt (h.get i _ (List.getElem?_eq_getElem hi))
theorem BxL.new {B : Nat} {w u : World} {l : List (Array Value × TypeId)} (h : BxL B w l u) (hs : u.heap.size = B + l.length) (cs : Array Value) (T : TypeId) : BxL B w (l ++ [(cs, T)]) (u.alloc (.cells cs T)) := by
  refine ⟨fun i p hp => ?_, h.low, pastAlloc h.below⟩
  by_cases hi : i < l.length
  · rw [List.getElem?_append_left hi] at hp
    exact blkOld (h.get i p hp) (allocB _ _)
  · rw [List.getElem?_append_right (by omega)] at hp
    have h0 : i - l.length = 0 := by
      have := (List.getElem?_eq_some_iff.1 hp).1
      simpa using this
    rw [h0] at hp
    simp only [List.getElem?_cons_zero, Option.some.injEq] at hp
    subst hp
    rw [show B + i = u.heap.size by omega]
    exact heap_alloc_new u _
theorem BxL.step {B : Nat} {w u v : World} {l : List (Array Value × TypeId)} (h : BxL B w l u) (hb : Below u.heap.size u v) : BxL B w l v :=
  ⟨fun i p hp => blkOld (h.get i p hp) hb, h.low, joinB h.below hb⟩
theorem BxL.drew {B : Nat} {w u : World} {l : List (Array Value × TypeId)} (h : BxL B w l u) : BxL B w l u.drew := h.step (Below.refl _ _).drew
theorem BxL.set {B : Nat} {w u : World} {l : List (Array Value × TypeId)} (h : BxL B w l u) (i j : Nat) (v : Value) (p : Array Value × TypeId) (hi : l[i]? = some p) : BxL B w (l.set i (p.1.setIfInBounds j v, p.2)) (u.setCell ⟨B + i, j, none⟩ v) := by
  have hil := (List.getElem?_eq_some_iff.1 hi).1
  refine ⟨fun k q hq => ?_, h.low, h.below.setCell (by have := h.low; show _ ≤ B + i; omega) v⟩
  by_cases hk : i = k
  · subst hk
    rw [List.getElem?_set_self hil] at hq
    injection hq with hq
    subst hq
    exact blkSet j (h.get i p hi) v
  · rw [List.getElem?_set_ne hk] at hq
    rw [Below.heap_setCell _ _ _ _ (by show B + k ≠ B + i; omega)]
    exact h.get k q hq
theorem BxL.row {B : Nat} {w u : World} {l : List (Array Value × TypeId)} (h : BxL B w l u) (i : Nat) (cs : Array Value) (p : Array Value × TypeId) (hi : l[i]? = some p) : BxL B w (l.set i (cs, p.2)) (u.setRow (B + i) cs) := by
  have hil := (List.getElem?_eq_some_iff.1 hi).1
  have hl := h.low
  refine ⟨fun k q hq => ?_, h.low, ⟨h.below.os, h.below.tape, h.below.output, by show _ ≤ (u.heap.modify _ _).size; have := h.below.size; simpa using this, fun k hk => (heap_setRow_other _ _ _ _ (by omega)).trans (h.below.block k hk)⟩⟩
  by_cases hk : i = k
  · subst hk
    rw [List.getElem?_set_self hil] at hq
    injection hq with hq
    subst hq
    exact setRow_heap _ _ _ _ _ _ (h.get i p hi)
  · rw [List.getElem?_set_ne hk] at hq
    rw [heap_setRow_other _ _ _ _ (by omega)]
    exact h.get k q hq
/-- What is read at A stays behind a store into a block elsewhere. -/
theorem Reads.off {w : World} {A : Option Addr} {c n : Nat} {vs : List Value} (h : Reads w A c n vs) (b j : Nat) (v : Value) (ha : 0 < n → ∀ ad, A = some ad → ad.block ≠ b) : Reads (w.setCell ⟨b, j, none⟩ v) A c n vs := fun h0 => by
  obtain ⟨g, off, e, hc, hlt, hcell⟩ := h h0
  have hne := ha h0 _ e
  refine ⟨g, off, e, hc, by simpa [World.setCell] using hlt, fun k u hk => ?_⟩
  have := hcell k u hk
  unfold World.cell? at this ⊢
  rw [Below.heap_setCell _ _ _ _ hne]
  exact this
theorem Reads.offRow {w : World} {A : Option Addr} {c n : Nat} {vs : List Value} (h : Reads w A c n vs) (b : Nat) (cs : Array Value) (ha : 0 < n → ∀ ad, A = some ad → ad.block ≠ b) : Reads (w.setRow b cs) A c n vs := fun h0 => by
  obtain ⟨g, off, e, hc, hlt, hcell⟩ := h h0
  have hne := ha h0 _ e
  refine ⟨g, off, e, hc, by show _ < (w.heap.modify _ _).size; simpa using hlt, fun k u hk => ?_⟩
  have := hcell k u hk
  unfold World.cell? at this ⊢
  rw [heap_setRow_other _ _ _ _ hne]
  exact this
/-- From w to v only blocks from lo to hi, and new ones, may have turned. -/
structure Apart (lo hi : Nat) (w v : World) : Prop where
  size : w.heap.size ≤ v.heap.size
  block : ∀ k, k < w.heap.size → (k < lo ∨ hi ≤ k) → v.heap[k]? = w.heap[k]?
theorem Apart.refl (lo hi : Nat) (w : World) : Apart lo hi w w := ⟨Nat.le_refl _, fun _ _ _ => rfl⟩
theorem Apart.trans {lo hi : Nat} {u v w : World} (h : Apart lo hi u v) (k : Apart lo hi v w) : Apart lo hi u w := ⟨Nat.le_trans h.size k.size, fun i h1 h2 => (k.block i (Nat.lt_of_lt_of_le h1 h.size) h2).trans (h.block i h1 h2)⟩
theorem Apart.below {lo hi : Nat} {w v : World} (hb : Below w.heap.size w v) : Apart lo hi w v := ⟨hb.size, fun k h1 _ => hb.block k h1⟩
theorem Apart.cell {lo hi : Nat} {u v : World} (h : Apart lo hi u v) (b j : Nat) (x : Value) (h1 : lo ≤ b) (h2 : b < hi) : Apart lo hi u (v.setCell ⟨b, j, none⟩ x) :=
  h.trans ⟨by simp [World.setCell], fun k _ hk => Below.heap_setCell _ _ _ _ (by show k ≠ b; omega)⟩
theorem Apart.row {lo hi : Nat} {u v : World} (h : Apart lo hi u v) (b : Nat) (cs : Array Value) (h1 : lo ≤ b) (h2 : b < hi) : Apart lo hi u (v.setRow b cs) :=
  h.trans ⟨by show _ ≤ (v.heap.modify _ _).size; simp, fun k _ hk => heap_setRow_other _ _ _ _ (by omega)⟩
theorem Apart.drew {lo hi : Nat} {u v : World} (h : Apart lo hi u v) : Apart lo hi u v.drew := h.trans (Apart.below (Below.refl _ _).drew)
theorem Reads.apart {lo hi : Nat} {w v : World} {A : Option Addr} {c n : Nat} {vs : List Value} (h : Reads w A c n vs) (ha : Apart lo hi w v) (hA : 0 < n → ∀ ad, A = some ad → ad.block < lo ∨ hi ≤ ad.block) : Reads v A c n vs := fun h0 => by
  obtain ⟨g, off, e, hc, hlt, hcell⟩ := h h0
  have hne := hA h0 _ e
  refine ⟨g, off, e, hc, Nat.lt_of_lt_of_le hlt ha.size, fun k u hk => ?_⟩
  have := hcell k u hk
  unfold World.cell? at this ⊢
  rw [ha.block _ hlt hne]
  exact this
/-- What lies at A is elsewhere than the blocks from lo to hi. -/
def AwayA (lo hi : Nat) (A : Option Addr) : Prop := ∀ ad, A = some ad → ad.block < lo ∨ hi ≤ ad.block
theorem AwayA.none_ (lo hi : Nat) : AwayA lo hi none := fun _ h => by cases h
/-- What lies at A is no older than block number n. -/
def NewA (n : Nat) (A : Option Addr) : Prop := ∀ ad, A = some ad → n ≤ ad.block
theorem NewA.none_ (n : Nat) : NewA n none := fun _ h => by cases h
theorem NewA.mono {n m : Nat} {A : Option Addr} (h : NewA n A) (hm : m ≤ n) : NewA m A := fun ad e => Nat.le_trans hm (h ad e)
/-- What lies at A is no older than block n, and a row of such a type. -/
def NewT (n : Nat) (w : World) (T : TypeId) (A : Option Addr) : Prop := ∀ ad, A = some ad → n ≤ ad.block ∧ ∃ cs fr, w.heap[ad.block]? = some (.cells cs T fr)
theorem NewT.none_ (n : Nat) (w : World) (T : TypeId) : NewT n w T none := fun _ h => by cases h
theorem NewT.mono {n m : Nat} {w : World} {T : TypeId} {A : Option Addr} (h : NewT n w T A) (hm : m ≤ n) : NewT m w T A := fun ad e => ⟨Nat.le_trans hm (h ad e).1, (h ad e).2⟩
theorem NewT.below {n : Nat} {w w' : World} {T : TypeId} {A : Option Addr} (h : NewT n w T A) (hb : Below w.heap.size w w') : NewT n w' T A := fun ad e => by
  obtain ⟨h1, cs, fr, h2⟩ := h ad e
  exact ⟨h1, cs, fr, blkOld h2 hb⟩
theorem NewT.own {w : World} {B : Nat} {T : TypeId} {size n c : Nat} {A : Option Addr} {xs : List Value} (h : w.ownsRow B T size (.slice A n c) n xs) : NewT B w T A := by
  intro ad hA
  rcases h.2 with ⟨hv, _⟩ | ⟨g, cap, cur, hv, hg, hh, _⟩
  · injection hv with h1; rw [h1] at hA; cases hA
  · injection hv with h1; rw [h1] at hA; injection hA with hA; rw [← hA]; exact ⟨hg, cur, _, hh⟩
theorem NewT.row {n : Nat} {w : World} {T : TypeId} {A : Option Addr} (h : NewT n w T A) (b : Nat) (cs : Array Value) : NewT n (w.setRow b cs) T A := fun ad e => by
  obtain ⟨h1, cs0, fr, h2⟩ := h ad e
  refine ⟨h1, ?_⟩
  by_cases hb : ad.block = b
  · subst hb; exact ⟨cs, fr, setRow_heap _ _ _ _ _ _ h2⟩
  · exact ⟨cs0, fr, (heap_setRow_other _ _ _ _ hb).trans h2⟩
theorem NewT.set {n : Nat} {w : World} {T : TypeId} {A : Option Addr} (h : NewT n w T A) (b j : Nat) (v : Value) : NewT n (w.setCell ⟨b, j, none⟩ v) T A := fun ad e => by
  obtain ⟨h1, cs0, fr, h2⟩ := h ad e
  refine ⟨h1, ?_⟩
  by_cases hb : ad.block = b
  · subst hb; exact ⟨_, fr, blkSet j h2 v⟩
  · exact ⟨cs0, fr, (Below.heap_setCell _ _ _ _ hb).trans h2⟩
theorem NewT.apart {n lo hi : Nat} {w v : World} {T : TypeId} {A : Option Addr} (h : NewT n w T A) (ha : Apart lo hi w v) (hn : hi ≤ n) : NewT n v T A := fun ad e => by
  obtain ⟨h1, cs0, fr, h2⟩ := h ad e
  exact ⟨h1, cs0, fr, (ha.block _ (heapLt h2) (.inr (by omega))).trans h2⟩
theorem NewT.grown {n m size B0 : Nat} {w w' : World} {T e : TypeId} {A : Option Addr} {v : Value} {xs : List Value} (h : NewT n w T A) (ho : w.ownsRow B0 e size v m xs) (hne : e ≠ T) (hg : w.grownBy w' v.ownBlock) : NewT n w' T A := fun ad ea => by
  obtain ⟨h1, cs0, fr, h2⟩ := h ad ea
  exact ⟨h1, cs0, fr, (hg.block _ (heapLt h2) (fun e1 => ownApart ho h2 hne e1.symm)).trans h2⟩
/-- What is read in a row of one kind stays, where a row of another kind grows. -/
theorem NewT.reads {n m size B0 k c : Nat} {w w' : World} {T e : TypeId} {A : Option Addr} {v : Value} {xs vs : List Value} (h : NewT n w T A) (hr : Reads w A c k vs) (ho : w.ownsRow B0 e size v m xs) (hne : e ≠ T) (hg : w.grownBy w' v.ownBlock) : Reads w' A c k vs := fun h0 => by
  obtain ⟨b, off, rfl, e2, e3, e4⟩ := hr h0
  obtain ⟨_, cs0, fr, h2⟩ := h _ rfl
  refine ⟨b, off, rfl, e2, Nat.lt_of_lt_of_le e3 hg.size, fun j u hj => ?_⟩
  have := e4 j u hj
  unfold World.cell? at this ⊢
  rw [hg.block _ e3 (fun e1 => ownApart ho h2 hne e1.symm)]
  exact this
theorem listStore {P : Program} {ops : Array Oper} {rest : List Oper} {op : Oper} {a : Act} {w : World} {Q : Exit → Act → World → Prop} (hw : Region.wanted op (yielded ops a.tmps) = true) (ty : TypeId) (x y : Operand) (ho : op.op = .store ty x y)
    (b : Nat) (cells cur : Array Value) (t : TypeId) (hx : a.eval x = .pointer (some ⟨b, 0, none⟩)) (hy : a.eval y = .agg cells) (hg : w.heap[b]? = some (.cells cur t (0, 0))) (hsz : cur.size = cells.size)
    (hi : (P.info? ty).map (·.size) = some cells.size) (h1 : cells.all (·.oneCell') = true) (h : wpList P ops Q rest (a.put op.dst undef) (w.setRow b cells)) : wpList P ops Q (op :: rest) a w :=
  listWants hw fun _ hK => wp_store_whole ty x y ho b cells cur t hx hy hg hsz hi h1 (hK _ _ h)
end Go.Proofs.Ytmhpbmobfdgkeaa
/- The plain law of the statistics: values and their order, sorted rows, what is known of a column. -/
namespace Sp
open Go.Lib (compareInt compareBytes)
structure Val where
  kind : Int
  n : Int
  s : ByteArray
instance : DecidableEq Val := fun a b =>
  if h : a.kind = b.kind ∧ a.n = b.n ∧ a.s = b.s then .isTrue (by obtain ⟨a1, a2, a3⟩ := a; obtain ⟨b1, b2, b3⟩ := b; simp only at h; obtain ⟨rfl, rfl, rfl⟩ := h; rfl)
  else .isFalse (fun e => h (by subst e; exact ⟨rfl, rfl, rfl⟩))
instance : Inhabited Val := ⟨⟨0, 0, ⟨#[]⟩⟩⟩
def nullV : Val := ⟨0, 0, ⟨#[]⟩⟩
structure Oft where
  v : Val
  n : Int
instance : DecidableEq Oft := fun a b =>
  if h : a.v = b.v ∧ a.n = b.n then .isTrue (by obtain ⟨a1, a2⟩ := a; obtain ⟨b1, b2⟩ := b; simp only at h; obtain ⟨rfl, rfl⟩ := h; rfl)
  else .isFalse (fun e => h (by subst e; exact ⟨rfl, rfl⟩))
instance : Inhabited Oft := ⟨⟨nullV, 0⟩⟩
/-- The first of two answers that is not 0. -/
def orI (a b : Int) : Int := if a = 0 then b else a
def ordB (a b : ByteArray) : Int := compareBytes a.data.toList b.data.toList
def ordV (a b : Val) : Int := orI (compareInt a.kind b.kind) (orI (compareInt a.n b.n) (ordB a.s b.s))
def ordO (a b : Oft) : Int := orI (compareInt b.n a.n) (ordV a.v b.v)
/-! ### The order -/
theorem ci_neg (a b : Int) : compareInt a b = - compareInt b a := by
  unfold compareInt
  by_cases h1 : a < b
  · rw [if_pos h1, if_neg (by omega), if_pos (by omega)]
  · by_cases h2 : b < a
    · rw [if_neg h1, if_pos (by omega), if_pos h2]; rfl
    · rw [if_neg h1, if_neg (by omega), if_neg h2, if_neg (by omega)]; rfl
theorem ci_zero {a b : Int} : compareInt a b = 0 ↔ a = b := by
  unfold compareInt
  by_cases h1 : a < b
  · rw [if_pos h1]; constructor <;> intro h <;> omega
  · by_cases h2 : a > b
    · rw [if_neg h1, if_pos h2]; constructor <;> intro h <;> omega
    · rw [if_neg h1, if_neg h2]; constructor <;> intro h <;> omega
theorem ci_lt {a b : Int} : compareInt a b < 0 ↔ a < b := by
  unfold compareInt
  by_cases h1 : a < b
  · rw [if_pos h1]; constructor <;> intro h <;> omega
  · by_cases h2 : a > b
    · rw [if_neg h1, if_pos h2]; constructor <;> intro h <;> omega
    · rw [if_neg h1, if_neg h2]; constructor <;> intro h <;> omega
theorem cb_neg : ∀ a b : List UInt8, compareBytes a b = - compareBytes b a
  | [], [] => rfl
  | [], _ :: _ => rfl
  | _ :: _, [] => rfl
  | x :: a, y :: b => by
    unfold compareBytes
    by_cases h1 : x < y
    · rw [if_pos h1, if_neg (by simp only [UInt8.lt_iff_toNat_lt] at *; omega), if_pos h1]
    · by_cases h2 : y < x
      · rw [if_neg h1, if_pos h2, if_pos h2]; rfl
      · rw [if_neg h1, if_neg h2, if_neg h2, if_neg h1]; exact cb_neg a b
theorem cb_zero : ∀ {a b : List UInt8}, compareBytes a b = 0 ↔ a = b
  | [], [] => by simp [compareBytes]
  | [], _ :: _ => by simp [compareBytes]
  | _ :: _, [] => by simp [compareBytes]
  | x :: a, y :: b => by
    unfold compareBytes
    by_cases h1 : x < y
    · rw [if_pos h1]
      constructor
      · intro h; omega
      · intro h; injection h with h2 h3; subst h2; exact absurd h1 (UInt8.lt_irrefl x)
    · by_cases h2 : y < x
      · rw [if_neg h1, if_pos h2]
        constructor
        · intro h; omega
        · intro h; injection h with h2' h3; subst h2'; exact absurd h2 (UInt8.lt_irrefl x)
      · rw [if_neg h1, if_neg h2, cb_zero]
        have e : x = y := by
          apply UInt8.toNat_inj.1
          simp only [UInt8.lt_iff_toNat_lt] at h1 h2
          omega
        subst e
        simp
theorem cb_trans : ∀ {a b c : List UInt8}, compareBytes a b < 0 → compareBytes b c < 0 → compareBytes a c < 0
  | [], [], _ => fun h _ => by simp [compareBytes] at h
  | [], _ :: _, [] => fun _ h => by simp [compareBytes] at h
  | [], _ :: _, _ :: _ => fun _ _ => by simp [compareBytes]
  | _ :: _, [], _ => fun h _ => by simp [compareBytes] at h
  | _ :: _, _ :: _, [] => fun _ h => by simp [compareBytes] at h
  | x :: a, y :: b, z :: c => fun h k => by
    unfold compareBytes at h k ⊢
    have ih := @cb_trans a b c
    by_cases h1 : x < y
    · by_cases k1 : y < z
      · rw [if_pos (by simp only [UInt8.lt_iff_toNat_lt] at *; omega)]; decide
      · rw [if_neg k1] at k
        by_cases k2 : z < y
        · rw [if_pos k2] at k; omega
        · rw [if_pos (by simp only [UInt8.lt_iff_toNat_lt] at *; omega)]; decide
    · rw [if_neg h1] at h
      by_cases h2 : y < x
      · rw [if_pos h2] at h; omega
      · rw [if_neg h2] at h
        by_cases k1 : y < z
        · rw [if_pos (by simp only [UInt8.lt_iff_toNat_lt] at *; omega)]; decide
        · rw [if_neg k1] at k
          by_cases k2 : z < y
          · rw [if_pos k2] at k; omega
          · rw [if_neg k2] at k
            rw [if_neg (by simp only [UInt8.lt_iff_toNat_lt] at *; omega), if_neg (by simp only [UInt8.lt_iff_toNat_lt] at *; omega)]
            exact ih h k
theorem or_neg {a b c d : Int} (h : a = -c) (k : b = -d) : orI a b = - orI c d := by
  unfold orI
  by_cases h0 : a = 0
  · rw [if_pos h0, if_pos (by omega)]; exact k
  · rw [if_neg h0, if_neg (by omega)]; exact h
theorem or_zero {a b : Int} : orI a b = 0 ↔ a = 0 ∧ b = 0 := by
  unfold orI
  by_cases h0 : a = 0
  · rw [if_pos h0]; exact ⟨fun h => ⟨h0, h⟩, fun h => h.2⟩
  · rw [if_neg h0]; exact ⟨fun h => absurd h h0, fun h => absurd h.1 h0⟩
theorem or_lt {a b : Int} : orI a b < 0 ↔ a < 0 ∨ (a = 0 ∧ b < 0) := by
  unfold orI
  by_cases h0 : a = 0
  · rw [if_pos h0]; constructor
    · intro h; exact .inr ⟨h0, h⟩
    · rintro (h | h)
      · omega
      · exact h.2
  · rw [if_neg h0]; constructor
    · intro h; exact .inl h
    · rintro (h | h)
      · exact h
      · exact absurd h.1 h0
theorem ordV_neg (a b : Val) : ordV a b = - ordV b a := or_neg (ci_neg _ _) (or_neg (ci_neg _ _) (cb_neg _ _))
theorem ordV_zero {a b : Val} : ordV a b = 0 ↔ a = b := by
  unfold ordV ordB
  rw [or_zero, or_zero, ci_zero, ci_zero, cb_zero]
  constructor
  · rintro ⟨h1, h2, h3⟩
    obtain ⟨a1, a2, ⟨⟨a3⟩⟩⟩ := a; obtain ⟨b1, b2, ⟨⟨b3⟩⟩⟩ := b
    simp only at h1 h2 h3
    subst h1 h2 h3
    rfl
  · rintro rfl; exact ⟨rfl, rfl, rfl⟩
theorem ordV_trans {a b c : Val} (h : ordV a b < 0) (k : ordV b c < 0) : ordV a c < 0 := by
  unfold ordV ordB at *
  rw [or_lt, or_lt, ci_lt, ci_zero, ci_lt, ci_zero] at *
  rcases h with h | ⟨h1, h | ⟨h2, h⟩⟩
  · rcases k with k | ⟨k1, _⟩
    · exact .inl (by omega)
    · exact .inl (by omega)
  · rcases k with k | ⟨k1, k | ⟨k2, _⟩⟩
    · exact .inl (by omega)
    · exact .inr ⟨by omega, .inl (by omega)⟩
    · exact .inr ⟨by omega, .inl (by omega)⟩
  · rcases k with k | ⟨k1, k | ⟨k2, k⟩⟩
    · exact .inl (by omega)
    · exact .inr ⟨by omega, .inl (by omega)⟩
    · exact .inr ⟨by omega, .inr ⟨by omega, cb_trans h k⟩⟩
theorem ordV_self (a : Val) : ordV a a = 0 := ordV_zero.2 rfl
theorem ordV_le_lt {a b c : Val} (h : ordV a b ≤ 0) (k : ordV b c < 0) : ordV a c < 0 := by
  by_cases h0 : ordV a b = 0
  · rw [ordV_zero.1 h0]; exact k
  · exact ordV_trans (by omega) k
theorem ordO_neg (a b : Oft) : ordO a b = - ordO b a := or_neg (ci_neg _ _) (ordV_neg _ _)
theorem ordO_zero {a b : Oft} : ordO a b = 0 ↔ a = b := by
  unfold ordO
  rw [or_zero, ci_zero, ordV_zero]
  constructor
  · rintro ⟨h1, h2⟩
    obtain ⟨a1, a2⟩ := a; obtain ⟨b1, b2⟩ := b
    simp only at h1 h2
    subst h1 h2; rfl
  · rintro rfl; exact ⟨rfl, rfl⟩
theorem ordO_trans {a b c : Oft} (h : ordO a b < 0) (k : ordO b c < 0) : ordO a c < 0 := by
  unfold ordO at *
  rw [or_lt, ci_lt, ci_zero] at *
  rcases h with h | ⟨h1, h⟩
  · rcases k with k | ⟨k1, _⟩
    · exact .inl (by omega)
    · exact .inl (by omega)
  · rcases k with k | ⟨k1, k⟩
    · exact .inl (by omega)
    · exact .inr ⟨by omega, ordV_trans h k⟩
/-! ### Sorted rows under a total order -/
section
variable {α : Type} {o : α → α → Int}
/-- A total order, as an answer below, at, above 0. -/
structure Tot (o : α → α → Int) : Prop where
  neg : ∀ a b, o a b = - o b a
  zero : ∀ {a b}, o a b = 0 → a = b
  trans : ∀ {a b c}, o a b < 0 → o b c < 0 → o a c < 0
theorem Tot.self (h : Tot o) (a : α) : o a a = 0 := by have := h.neg a a; omega
theorem Tot.le_trans (t : Tot o) {a b c : α} (h : o a b ≤ 0) (k : o b c ≤ 0) : o a c ≤ 0 := by
  by_cases h0 : o a b = 0
  · rw [t.zero h0]; exact k
  · by_cases k0 : o b c = 0
    · rw [← t.zero k0]; exact h
    · have := t.trans (a := a) (b := b) (c := c) (by omega) (by omega); omega
theorem Tot.anti (t : Tot o) {a b : α} (h : o a b ≤ 0) (k : o b a ≤ 0) : a = b := t.zero (by have := t.neg a b; omega)
def Up (o : α → α → Int) (l : List α) : Prop := l.Pairwise (fun a b => o a b ≤ 0)
/-- One sorted row alone is a permutation of a row. -/
theorem Tot.unique (t : Tot o) {l m : List α} (hp : l.Perm m) (hl : Up o l) (hm : Up o m) : l = m :=
  List.Perm.eq_of_pairwise (le := fun a b => o a b ≤ 0) (fun _ _ _ _ h1 h2 => t.anti h1 h2) hl hm hp
def sortO (o : α → α → Int) (l : List α) : List α := l.mergeSort (fun x y => !(decide (o y x < 0)))
theorem sort_perm (o : α → α → Int) (l : List α) : (sortO o l).Perm l := List.mergeSort_perm _ _
theorem Tot.sort_up (t : Tot o) (l : List α) : Up o (sortO o l) := by
  have h := List.pairwise_mergeSort (le := fun x y => !(decide (o y x < 0))) (fun a b c h1 h2 => by
    simp only [Bool.not_eq_true', decide_eq_false_iff_not] at *
    have n1 := t.neg a b; have n2 := t.neg b c; have n3 := t.neg a c
    have := t.le_trans (a := a) (b := b) (c := c) (by omega) (by omega)
    omega) (fun a b => by
    simp only [Bool.or_eq_true, Bool.not_eq_true', decide_eq_false_iff_not]
    have := t.neg a b
    omega) l
  refine h.imp (fun {a b} hab => ?_)
  simp only [Bool.not_eq_true', decide_eq_false_iff_not] at hab
  have := t.neg a b
  omega
theorem Tot.sort_eq (t : Tot o) {l m : List α} (hp : m.Perm l) (hm : Up o m) : sortO o l = m :=
  t.unique ((sort_perm o l).trans hp.symm) (t.sort_up l) hm
theorem sort_len (o : α → α → Int) (l : List α) : (sortO o l).length = l.length := (sort_perm o l).length_eq
/-- One more is put into a sorted row. -/
theorem Tot.put (t : Tot o) {l : List α} (h : Up o l) {x : α} {k : Nat} (h1 : ∀ j (hj : j < l.length), j < k → o l[j] x ≤ 0) (h2 : ∀ hk : k < l.length, o x l[k] ≤ 0) : Up o (l.take k ++ x :: l.drop k) ∧ (l.take k ++ x :: l.drop k).Perm (x :: l) := by
  constructor
  · unfold Up
    have hlow : ∀ a ∈ l.take k, o a x ≤ 0 := fun a ha => by
      obtain ⟨j, hj, rfl⟩ := List.getElem_of_mem ha
      rw [List.length_take] at hj
      rw [List.getElem_take]
      exact h1 j (by omega) (by omega)
    have hup2 : Up o (l.drop k) := List.Pairwise.sublist (List.drop_sublist _ _) h
    have hhigh : ∀ b ∈ l.drop k, o x b ≤ 0 := fun b hb => by
      by_cases hk : k < l.length
      · rw [List.drop_eq_getElem_cons hk] at hb hup2
        rcases List.mem_cons.1 hb with e | e
        · rw [e]; exact h2 hk
        · exact t.le_trans (h2 hk) ((List.pairwise_cons.1 hup2).1 b e)
      · rw [List.drop_of_length_le (by omega)] at hb; cases hb
    rw [List.pairwise_append]
    refine ⟨List.Pairwise.sublist (List.take_sublist _ _) h, List.pairwise_cons.2 ⟨hhigh, hup2⟩, fun a ha b hb => ?_⟩
    rcases List.mem_cons.1 hb with e | e
    · rw [e]; exact hlow a ha
    · exact t.le_trans (hlow a ha) (hhigh b e)
  · refine List.perm_middle.trans ?_
    rw [List.take_append_drop]
end
theorem totV : Tot ordV := ⟨ordV_neg, fun h => ordV_zero.1 h, ordV_trans⟩
theorem totO : Tot ordO := ⟨ordO_neg, fun h => ordO_zero.1 h, ordO_trans⟩
end Sp
/- The plain law of the statistics: counting, the ends, the commonest; what may be. -/
namespace Sp
theorem snoc_ind {α : Type} {P : List α → Prop} (h0 : P []) (h1 : ∀ l a, P l → P (l ++ [a])) (l : List α) : P l := by
  have key : ∀ n (l : List α), l.length = n → P l := by
    intro n
    induction n with
    | zero => intro l hl; rw [List.eq_nil_of_length_eq_zero hl]; exact h0
    | succ n ih =>
      intro l hl
      rcases List.eq_nil_or_concat l with h | ⟨m, a, h⟩
      · rw [h]; exact h0
      · rw [List.concat_eq_append] at h
        rw [h]; rw [h] at hl; exact h1 m a (ih m (by simpa using hl))
  exact key _ l rfl
theorem take_snoc {α : Type} (l : List α) (k : Nat) (hk : k < l.length) : l.take (k + 1) = l.take k ++ [l[k]] := List.take_succ_eq_append_getElem hk
def known (v : Val) : Bool := decide (ordV v nullV ≠ 0)
theorem known_iff {v : Val} : known v = true ↔ v ≠ nullV := by unfold known; rw [decide_eq_true_iff, ne_eq, ordV_zero]
/-! ### Counting -/
def cntS (out : List Oft) (v : Val) : List Oft :=
  match out.getLast? with
  | some o => if ordV o.v v = 0 then out.dropLast ++ [⟨o.v, o.n + 1⟩] else out ++ [⟨v, 1⟩]
  | none => out ++ [⟨v, 1⟩]
def cntV (l : List Val) : List Oft := l.foldl cntS []
theorem cntV_snoc (l : List Val) (v : Val) : cntV (l ++ [v]) = cntS (cntV l) v := by unfold cntV; rw [List.foldl_append]; rfl
def times (l : List Val) (v : Val) : Nat := (l.filter (fun u => decide (ordV u v = 0))).length
theorem times_snoc (l : List Val) (u v : Val) : times (l ++ [u]) v = times l v + if u = v then 1 else 0 := by
  unfold times
  rw [List.filter_append, List.length_append]
  by_cases h : u = v
  · rw [if_pos h, List.filter_cons_of_pos (by simpa using ordV_zero.2 h)]; rfl
  · rw [if_neg h, List.filter_cons_of_neg (by simpa using fun e => h (ordV_zero.1 e))]; rfl
theorem cnt_last (l : List Val) : (cntV l).getLast?.map (·.v) = l.getLast? := by
  refine snoc_ind (P := fun l => (cntV l).getLast?.map (·.v) = l.getLast?) rfl (fun l v ih => ?_) l
  rw [cntV_snoc, List.getLast?_concat]
  unfold cntS
  cases h : (cntV l).getLast? with
  | none => simp
  | some o =>
    simp only
    by_cases h0 : ordV o.v v = 0
    · rw [if_pos h0, List.getLast?_concat, Option.map_some, ordV_zero.1 h0]
    · rw [if_neg h0, List.getLast?_concat]; rfl
/-- Counting one more. -/
theorem cnt_same {l : List Val} {v : Val} {q : List Oft} {n : Int} (h : cntV l = q ++ [⟨v, n⟩]) : cntV (l ++ [v]) = q ++ [⟨v, n + 1⟩] := by
  rw [cntV_snoc, h]
  unfold cntS
  rw [List.getLast?_concat]
  simp only
  rw [if_pos (ordV_self v), List.dropLast_concat]
theorem cnt_other {l : List Val} {v : Val} (h : l.getLast? ≠ some v) : cntV (l ++ [v]) = cntV l ++ [⟨v, 1⟩] := by
  rw [cntV_snoc]
  unfold cntS
  have hl := cnt_last l
  cases hc : (cntV l).getLast? with
  | none => rfl
  | some o =>
    rw [hc] at hl
    simp only
    rw [if_neg (fun e => h (by rw [← hl, Option.map_some, ordV_zero.1 e]))]
/-- What is known of sorted values that are counted. -/
structure Cnt (l : List Val) : Prop where
  up : (cntV l).Pairwise (fun a b => ordV a.v b.v < 0)
  n : ∀ o ∈ cntV l, o.n = (times l o.v : Int)
  one : ∀ o ∈ cntV l, 1 ≤ o.n
  mem : ∀ o ∈ cntV l, o.v ∈ l
  sum : ((cntV l).map (·.n)).sum = (l.length : Int)
theorem up_last {l : List Val} {v : Val} (h : Up ordV (l ++ [v])) (hl : l.getLast? ≠ some v) : ∀ u ∈ l, ordV u v < 0 := by
  intro u hu
  unfold Up at h
  rw [List.pairwise_append] at h
  obtain ⟨h1, _, h3⟩ := h
  rcases List.eq_nil_or_concat l with e | ⟨m, a, e⟩
  · rw [e] at hu; cases hu
  · rw [List.concat_eq_append] at e
    have hav : ordV a v ≤ 0 := h3 a (by rw [e]; simp) v (by simp)
    have hne : a ≠ v := fun e2 => hl (by rw [e, List.getLast?_concat, e2])
    have hlt : ordV a v < 0 := by
      have : ordV a v ≠ 0 := fun e2 => hne (ordV_zero.1 e2)
      omega
    have hua : ordV u a ≤ 0 := by
      rw [e] at hu h1
      rw [List.pairwise_append] at h1
      rcases List.mem_append.1 hu with hm | hm
      · exact h1.2.2 u hm a (by simp)
      · rw [List.mem_singleton.1 hm, ordV_self]; exact Int.le_refl _
    exact ordV_le_lt hua hlt
theorem cnt_all (l : List Val) (hu : Up ordV l) : Cnt l := by
  refine snoc_ind (P := fun l => Up ordV l → Cnt l) (fun _ => ?_) (fun l v ih => fun hu => ?_) l hu
  · exact ⟨List.Pairwise.nil, (fun _ h => by cases h), (fun _ h => by cases h), (fun _ h => by cases h), rfl⟩
  · have hup : Up ordV l := (List.pairwise_append.1 hu).1
    obtain ⟨c1, c2, c3, c4, c5⟩ := ih hup
    by_cases hl : l.getLast? = some v
    · have h1 := cnt_last l
      rw [hl] at h1
      rcases List.eq_nil_or_concat (cntV l) with e | ⟨q, o, e⟩
      · rw [e] at h1; cases h1
      · rw [List.concat_eq_append] at e
        rw [e, List.getLast?_concat, Option.map_some] at h1
        injection h1 with h1
        obtain ⟨ov, on⟩ := o
        simp only at h1
        subst h1
        have e2 := cnt_same e
        rw [e] at c1 c2 c3 c4 c5
        rw [List.pairwise_append] at c1
        have hne : ∀ o ∈ q, o.v ≠ ov := fun o ho e3 => by
          have := c1.2.2 o ho ⟨ov, on⟩ (by simp)
          rw [e3, ordV_self] at this
          omega
        refine ⟨?_, ?_, ?_, ?_, ?_⟩
        · rw [e2, List.pairwise_append]
          exact ⟨c1.1, by simp, fun a ha b hb => by rw [List.mem_singleton.1 hb]; exact c1.2.2 a ha ⟨ov, on⟩ (by simp)⟩
        · rw [e2]
          intro o ho
          rcases List.mem_append.1 ho with hm | hm
          · rw [times_snoc, if_neg (fun e3 => hne o hm e3.symm), Nat.add_zero]
            exact c2 o (List.mem_append_left _ hm)
          · rw [List.mem_singleton.1 hm, times_snoc, if_pos rfl]
            have := c2 ⟨ov, on⟩ (by simp)
            simp only at this ⊢
            omega
        · rw [e2]
          intro o ho
          rcases List.mem_append.1 ho with hm | hm
          · exact c3 o (List.mem_append_left _ hm)
          · rw [List.mem_singleton.1 hm]
            have := c3 ⟨ov, on⟩ (by simp)
            simp only at this ⊢
            omega
        · rw [e2]
          intro o ho
          rcases List.mem_append.1 ho with hm | hm
          · exact List.mem_append_left _ (c4 o (List.mem_append_left _ hm))
          · rw [List.mem_singleton.1 hm]; simp
        · rw [e2]
          simp only [List.map_append, List.sum_append, List.map_cons, List.map_nil, List.sum_cons, List.sum_nil, List.length_append, List.length_singleton] at c5 ⊢
          omega
    · have e2 := cnt_other (l := l) (v := v) hl
      have hlt := up_last hu hl
      have ht0 : times l v = 0 := by
        unfold times
        rw [List.length_eq_zero_iff, List.filter_eq_nil_iff]
        intro u hu2
        have := hlt u hu2
        simp only [decide_eq_true_eq]
        omega
      refine ⟨?_, ?_, ?_, ?_, ?_⟩
      · rw [e2, List.pairwise_append]
        exact ⟨c1, by simp, fun a ha b hb => by rw [List.mem_singleton.1 hb]; exact hlt _ (c4 a ha)⟩
      · rw [e2]
        intro o ho
        rcases List.mem_append.1 ho with hm | hm
        · have hne : v ≠ o.v := fun e3 => by
            have := hlt _ (c4 o hm)
            rw [← e3, ordV_self] at this
            omega
          rw [times_snoc, if_neg hne, Nat.add_zero]
          exact c2 o hm
        · rw [List.mem_singleton.1 hm, times_snoc, if_pos rfl, ht0]; rfl
      · rw [e2]
        intro o ho
        rcases List.mem_append.1 ho with hm | hm
        · exact c3 o hm
        · rw [List.mem_singleton.1 hm]; simp
      · rw [e2]
        intro o ho
        rcases List.mem_append.1 ho with hm | hm
        · exact List.mem_append_left _ (c4 o hm)
        · rw [List.mem_singleton.1 hm]; simp
      · rw [e2]
        simp only [List.map_append, List.sum_append, List.map_cons, List.map_nil, List.sum_cons, List.sum_nil, List.length_append, List.length_singleton]
        omega
/-! ### A column -/
structure ColS where
  nulls : Int
  distinct : Int
  ends : List Val
  common : List Oft
structure StatS where
  table : ByteArray
  rows : Int
  pages : Int
  cols : List ColS
/-- The ends of the first k parts of eight. -/
def endsK (l : List Val) (k : Nat) : List Val := (List.range k).map (fun j => l.getD ((j + 1) * l.length / 8) nullV)
def endsV (l : List Val) : List Val := if l.length = 0 then [] else endsK l 7 ++ [l.getD (l.length - 1) nullV]
theorem endsK_succ (l : List Val) (k : Nat) : endsK l (k + 1) = endsK l k ++ [l.getD ((k + 1) * l.length / 8) nullV] := by unfold endsK; rw [List.range_succ, List.map_append]; rfl
theorem endsK_len (l : List Val) (k : Nat) : (endsK l k).length = k := by unfold endsK; simp
theorem endsV_len {l : List Val} (h : 0 < l.length) : (endsV l).length = 8 := by unfold endsV; rw [if_neg (by omega), List.length_append, endsK_len]; rfl
def oftF (l : List Oft) : List Oft := l.filter (fun o => !decide (o.n < 2))
def comV (l : List Oft) : List Oft := (sortO ordO (oftF l)).take 4
def others (l : List Val) : List Val := sortO ordV (l.filter known)
def colS (l : List Val) : ColS := ⟨(l.length : Int) - ((others l).length : Int), ((cntV (others l)).length : Int), endsV (others l), comV (cntV (others l))⟩
def colAt (rows : List (List Val)) (i : Nat) : List Val := rows.map (fun r => r.getD i nullV)
def widthS (width : Int) : Nat := (min (max width 0) 16).toNat
def statOf (table : ByteArray) (rows : List (List Val)) (width pages : Int) : StatS := ⟨table, (rows.length : Int), max pages 0, (List.range (widthS width)).map (fun i => colS (colAt rows i))⟩
theorem others_up (l : List Val) : Up ordV (others l) := totV.sort_up _
/-! ### What may be -/
def plainB (s : ByteArray) : Bool := s.data.toList.all fun c => decide (32 ≤ c.toNat ∧ c.toNat ≤ 126)
def rightV (v : Val) : Prop :=
  (v.kind = 0 ∧ v.n = 0 ∧ v.s.size = 0) ∨ (v.kind = 1 ∧ (v.n = 0 ∨ v.n = 1) ∧ v.s.size = 0) ∨ (v.kind = 2 ∧ -1000000000000000 ≤ v.n ∧ v.n ≤ 1000000000000000 ∧ v.s.size = 0) ∨ (v.kind = 3 ∧ v.n = 0 ∧ v.s.size ≤ 100 ∧ plainB v.s = true)
def goodV (v : Val) : Prop := rightV v ∧ v ≠ nullV
/-- May the i-th one be among the commonest? -/
structure ComAt (c : ColS) (rest : Int) (i : Nat) (hi : i < c.common.length) : Prop where
  good : goodV c.common[i].v
  two : 2 ≤ c.common[i].n
  most : c.common[i].n ≤ rest
  up : ∀ h : 0 < i, ordO (c.common[i - 1]'(by omega)) c.common[i] < 0
  unlike : ∀ j (hj : j < i), (c.common[j]'(by omega)).v ≠ c.common[i].v
def sumO (l : List Oft) : Int := (l.map (·.n)).sum
def commonOk (c : ColS) (rest : Int) : Prop := c.common.length ≤ 4 ∧ (c.common.length : Int) ≤ c.distinct ∧ (∀ i (hi : i < c.common.length), ComAt c rest i hi) ∧ c.distinct - (c.common.length : Int) + sumO c.common ≤ rest
def endsAll (l : List Val) : Prop := (∀ i (hi : i < l.length), goodV l[i]) ∧ ∀ i (hi : i + 1 < l.length), ordV (l[i]'(by omega)) l[i + 1] ≤ 0
def endsOk (c : ColS) : Prop := if c.distinct = 0 then c.ends.length = 0 else c.ends.length = 8 ∧ endsAll c.ends
def colOk (rows : Int) (c : ColS) : Prop := (0 ≤ c.nulls ∧ c.nulls ≤ rows ∧ 0 ≤ c.distinct ∧ c.distinct ≤ rows - c.nulls) ∧ commonOk c (rows - c.nulls) ∧ endsOk c
def rightS (s : StatS) : Prop := (0 ≤ s.rows ∧ s.rows ≤ 1000000000000 ∧ 0 ≤ s.pages ∧ s.pages ≤ 1000000000000) ∧ ∀ c ∈ s.cols, colOk s.rows c
theorem sumO_snoc (l : List Oft) (o : Oft) : sumO (l ++ [o]) = sumO l + o.n := by unfold sumO; simp
theorem sumO_take {l : List Oft} {k : Nat} (hk : k < l.length) : sumO (l.take (k + 1)) = sumO (l.take k) + l[k].n := by rw [take_snoc l k hk, sumO_snoc]
end Sp
