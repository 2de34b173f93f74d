import Derived.Test.YtmebkghdkeeobaaGreatDoorHo00
import Derived.Test.YtmebkghdkeeobaaGreatDoorCards
import Derived.Test.YtmebkghdkeeobaaGreatDoorTie
import Derived.Test.YtmebkghdkeeobaaGreatDoorHo01
import Derived.Test.YtmebkghdkeeobaaGreatDoorHo30
import Derived.Deep.Slices
import Derived.Deep.DeepHandedRow
import Derived.Deep.DeepWitnessRowRef
import Derived.LaidMore
import Derived.LaidLaws
set_option maxRecDepth 100000
set_option maxHeartbeats 16000000
set_option linter.unusedSimpArgs false
namespace Go.Proofs.YtmebkghdkeeobaaGreatDoor
open Go.ChangeShapes Go.WideShapes Go.ChangeAt Go.RowKit
def laidAll {H : Type} : List (String × DataW H) := [("math/bits.deBruijn32tab", Rows.laid_math_bits_deBruijn32tab), ("math/bits.deBruijn64tab", Rows.laid_math_bits_deBruijn64tab), ("internal/strconv.uint64pow10", Rows.laid_internal_strconv_uint64pow10), ("strconv.ErrRange", Rows.laid_strconv_ErrRange), ("strconv.ErrSyntax", Rows.laid_strconv_ErrSyntax)]
theorem laid_met (os : Os) (args : Array Value) : laidMet Tryz.prog laidAll ((World.doorLaid Tryz.prog 287 os).forCall (fun _ _ => 0) ⟨#[], args, []⟩).memory :=
  laidMet_of_run' 8 (by kernel_rfl) (by kernel_rfl)
theorem u8_nat {n : Int} (h : (Lit.int .u8 n).wf = true) : ∃ x : Nat, n = (x : Int) ∧ x < 256 := by
  have h1 := bounds_u8 h
  exact ⟨n.toNat, by omega, by omega⟩
theorem sac_fields : ∃ f0 f1 : Field, Tryz.prog.underlying 43 = some (.struct #[f0, f1]) ∧ (f0.offset = 0 ∧ f1.offset = 1) ∧ f0.type = 4 ∧ f1.type = 3 := ⟨_, _, Tryz.underlying43, ⟨rfl, rfl⟩, rfl, rfl⟩
theorem sac_cells : Tryz.prog.cellsOf 43 = 2 := by kernel_rfl
theorem cells_b : Tryz.prog.cellsOf 4 = 1 := by kernel_rfl
theorem cells_i : Tryz.prog.cellsOf 3 = 1 := by kernel_rfl
theorem list2 {α : Type} {l : List α} (h : l.length = 2) : ∃ a b, l = [a, b] := by
  match l, h with
  | [a, b], _ => exact ⟨a, b, rfl⟩
section
variable {H : Type} {enc : TypeId × Value → H} {w : World} {base : Nat} {spare : Nat → Bool} {held : Bool}
set_option maxRecDepth 100000 in
theorem trod_sac {fuel : Nat} {cs : List Value} {x : DataW H × List MemPlace} (h : DataW.trod enc Tryz.prog w base spare held fuel 43 cs = some x) : ∃ o : Sac, cs = sacC o := by
  obtain ⟨f0, f1, hu, ⟨o0, o1⟩, t0, t1⟩ := sac_fields
  obtain ⟨y0, y1, n, hx, hl, h0, h1⟩ := trod_struct2 hu h
  rw [sac_cells] at hl
  obtain ⟨c0, c1, rfl⟩ := list2 hl
  rw [o0, t0, cells_b] at h0
  rw [o1, t1, cells_i] at h1
  obtain ⟨i, hi, _⟩ := DataW.trod_bool Tryz.underlying4 h0
  obtain ⟨j, hj, _, _⟩ := DataW.trod_int Tryz.underlying3 h1
  simp at hi hj
  exact ⟨⟨i, j⟩, by rw [hi, hj]; rfl⟩
theorem spot_of_cell {w : World} {a : Addr} {v : Value} (h : w.cell? a = some v) : a = ⟨a.block, a.off, none⟩ ∧ a.block < w.heap.size := by
  obtain ⟨b, off, sp⟩ := a
  unfold World.cell? at h
  cases hh : w.heap[b]? with
  | none => simp [hh] at h
  | some o =>
    have hlt : b < w.heap.size := (Array.getElem?_eq_some_iff.1 hh).1
    cases o with
    | cells c t f =>
      simp only [hh] at h
      cases sp with
      | none => exact ⟨rfl, hlt⟩
      | some x => simp at h
    | _ => simp [hh] at h
set_option maxRecDepth 100000 in
theorem open_sacs {r : Reach} {b0 : Nat} {v : Value} {d : DataW H} {ps : List MemPlace} (hval : Value.okWide Tryz.prog w r b0 22 v) (hd : DataW.Trod enc Tryz.prog w base (fun _ => true) held 22 v d ps) :
    ∃ (A : Option Addr) (c : Nat) (l : List Sac), v = .slice A l.length c ∧ Reads w A c l.length (l.flatMap sacC) := by
  obtain ⟨a, len, cap, rfl⟩ := okWide_slice Tryz.underlying22 hval
  obtain ⟨fuel, hf⟩ := hd
  rcases Deep.open_slice Tryz.underlying22 hf with ⟨hcs, _⟩ | ⟨a', len', cap', m, n, D, Pl, hcs, hb, hl, hm, hmm, hx, hall⟩
  · have e : Value.slice a len cap = .slice none 0 0 := by simpa [Value.cells] using hcs
    rw [e]
    exact ⟨none, 0, [], rfl, Reads.none_ _ _ _ _⟩
  · have e : Value.slice a len cap = .slice (some a') len' cap' := by simpa [Value.cells] using hcs
    rw [e]
    clear e hcs hval hf hx
    rw [if_pos rfl] at hmm
    subst hmm
    rw [sac_cells] at hall
    haveI : Inhabited Sac := ⟨⟨false, 0⟩⟩
    obtain ⟨f, hf⟩ := Deep.choose_lt (α := Sac) (n := len') (p := fun i o => ∀ q u, (sacC o)[q]? = some u → w.cell? ((a'.add (i * 2)).add q) = some u) (fun i hi => by
      obtain ⟨cs', h1, h2⟩ := hall i (by omega)
      obtain ⟨o, rfl⟩ := trod_sac h2
      obtain ⟨_, _, h3⟩ := World.cells?_some h1
      refine ⟨o, fun q u hq => ?_⟩
      have hq4 : q < 2 := by have := (List.getElem?_eq_some_iff.1 hq).1; simpa [sacC] using this
      rw [h3 q hq4]; exact hq)
    refine ⟨some a', m, (List.range len').map f, by simp, ?_⟩
    intro h0
    have h0' : 0 < len' := by simpa using h0
    have hz := hf 0 h0' 0 _ rfl
    have hz2 : w.cell? a' = some (.bool (f 0).fr) := by simpa [Addr.add] using hz
    obtain ⟨hsp, hlt⟩ := spot_of_cell hz2
    refine ⟨a'.block, a'.off, by rw [← hsp], by simpa using hl, hlt, fun j u hj => ?_⟩
    have hjl : j < len' * 2 := by
      have := (List.getElem?_eq_some_iff.1 hj).1
      rw [flat_len sacC_len] at this
      simpa using this
    obtain ⟨q, i, hi, rfl⟩ : ∃ q i, i < 2 ∧ j = q * 2 + i := ⟨j / 2, j % 2, Nat.mod_lt _ (by omega), by omega⟩
    have hq : q < len' := by omega
    rw [flat_at sacC_len _ q i (by simpa using hq) hi] at hj
    have h5 := hf q hq i u (by simpa using hj)
    rw [hsp, Addr.add_mid, Addr.add_mid] at h5
    rw [← Nat.add_assoc]
    exact h5
end
end Go.Proofs.YtmebkghdkeeobaaGreatDoor
