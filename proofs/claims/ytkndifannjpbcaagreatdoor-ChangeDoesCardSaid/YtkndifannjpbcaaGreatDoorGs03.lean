/- strings.Builder: what WriteString and String do, with a frame that keeps another builder's bytes. -/
import Derived.Test.YtkndifannjpbcaaGreatDoorProg
import Derived.Test.YtkndifannjpbcaaGreatDoorGs02
import Derived.WalkKit
import Derived.WalkSpells
import Derived.WalkLawsBesides
import Derived.Lib.Hide
import Derived.Lib.AppendStr
import Derived.RegionTactic
import Derived.BigRegion
import Derived.ChangeAlike
import Derived.Lib.UnsafeStr
import Derived.Lib.Builder
import Derived.Test.YtkndifannjpbcaaGreatDoorGs01
import Derived.Deep.QuietTactic
import Derived.BigQuiet
import Derived.Deep.DeepCutAuto
import Derived.Deep.LoopGhost
import Derived.Deep.RegionHeld3
namespace Go.Proofs.YtkndifannjpbcaaGreatDoor
open Go.RowKit

/-- Block b is a builder that holds the bytes l; its row of bytes, if there is one, is block number B or later, and ahead of H. -/
def Bld (B H b : Nat) (l : List UInt8) (w : World) : Prop :=
  b < B ∧ ∃ p v, w.heap[b]? = some (.cells #[p, v] 56 (0, 0)) ∧ (p = .pointer none ∨ p = .pointer (some ⟨b, 0, none⟩)) ∧ w.ownsRow B 5 1 v l.length (Lib.byteCells l) ∧ (∀ g, v.ownBlock = some g → g < H)

/-- Only block b, and the blocks from B on, may have turned. -/
structure KeptB (B b : Nat) (w w' : World) : Prop where
  os : w'.os = w.os
  tape : w'.tape = w.tape
  output : w'.output = w.output
  size : w.heap.size ≤ w'.heap.size
  block : ∀ k, k < B → k ≠ b → w'.heap[k]? = w.heap[k]?

theorem KeptB.refl (B b : Nat) (w : World) : KeptB B b w w := ⟨rfl, rfl, rfl, Nat.le_refl _, fun _ _ _ => rfl⟩
theorem KeptB.trans {B b : Nat} {u v w : World} (h : KeptB B b u v) (k : KeptB B b v w) : KeptB B b u w :=
  ⟨k.os.trans h.os, k.tape.trans h.tape, k.output.trans h.output, Nat.le_trans h.size k.size, fun i hi hb => (k.block i hi hb).trans (h.block i hi hb)⟩
theorem KeptB.of_below {B b : Nat} {u v : World} (hB : B ≤ u.heap.size) (h : Below u.heap.size u v) : KeptB B b u v :=
  ⟨h.os, h.tape, h.output, h.size, fun i hi _ => h.block i (by omega)⟩
theorem KeptB.below {B b lo : Nat} {u v : World} (h : KeptB B b u v) (h1 : lo ≤ B) (h2 : lo ≤ b) : Below lo u v :=
  ⟨h.os, h.tape, h.output, h.size, fun i hi => h.block i (by omega) (by omega)⟩
theorem copyCheck_fresh (b : Nat) (w : World) (h0 : w.cell? ⟨b, 0, none⟩ = some (.pointer none)) (hsh : w.shape? b = some (56, 2)) (hfz : w.frozen? ⟨b, 0, none⟩ = false) :
    Calls Tryz.prog 65 #[.pointer (some ⟨b, 0, none⟩)] w fun e w' => e = .returned (.tuple #[]) ∧ w' = w.setCell ⟨b, 0, none⟩ (.pointer (some ⟨b, 0, none⟩)) :=
  Any.Builder_copyCheck_fresh (ρ := Tryz.lays105_ren) { Tryz.lays105 with } Tryz.Builder_Extra_105.toX72 b w h0 hsh hfz
theorem copyCheck_used (b : Nat) (w : World) (h0 : w.cell? ⟨b, 0, none⟩ = some (.pointer (some ⟨b, 0, none⟩))) :
    Calls Tryz.prog 65 #[.pointer (some ⟨b, 0, none⟩)] w fun e w' => e = .returned (.tuple #[]) ∧ w' = w :=
  Any.Builder_copyCheck_used (ρ := Tryz.lays105_ren) { Tryz.lays105 with } Tryz.Builder_Extra_105.toX72 b w h0

theorem cell_of_blk {w : World} {g : Nat} {cs : Array Value} {t : TypeId} {fr : Nat × Nat} (h : w.heap[g]? = some (.cells cs t fr)) (i : Nat) : w.cell? ⟨g, i, none⟩ = cs[i]? := by simp [World.cell?, h]

theorem heap_set (w : World) (b i : Nat) (p v u : Value) (T : TypeId) (h : w.heap[b]? = some (.cells #[p, v] T (0, 0))) : (w.setCell ⟨b, i, none⟩ u).heap[b]? = some (.cells (#[p, v].setIfInBounds i u) T (0, 0)) := by
  simp [World.setCell, Array.getElem?_modify, h]

theorem bld_size {B H b : Nat} {l : List UInt8} {w : World} (h : Bld B H b l w) : b < w.heap.size := by
  obtain ⟨_, p, v, hb, _⟩ := h
  rcases Nat.lt_or_ge b w.heap.size with h' | h'
  · exact h'
  · rw [Array.getElem?_eq_none h'] at hb; cases hb

theorem own_set {w : World} {B b i : Nat} {v u : Value} {n : Nat} {xs : List Value} (hbB : b < B) (h : w.ownsRow B 5 1 v n xs) : (w.setCell ⟨b, i, none⟩ u).ownsRow B 5 1 v n xs := by
  refine ⟨h.1, ?_⟩
  rcases h.2 with hz | ⟨g, cap, cur, hv, hg, hh, r⟩
  · exact .inl hz
  · exact .inr ⟨g, cap, cur, hv, hg, by rw [Below.heap_setCell _ _ _ _ (by show g ≠ b; omega)]; exact hh, r⟩

theorem copyCheck_any (B H b : Nat) (l : List UInt8) (w : World) (h : Bld B H b l w) :
    Calls Tryz.prog 65 #[.pointer (some ⟨b, 0, none⟩)] w fun e w' => e = .returned (.tuple #[]) ∧
      (b < B ∧ ∃ v, w'.heap[b]? = some (.cells #[.pointer (some ⟨b, 0, none⟩), v] 56 (0, 0)) ∧ w'.ownsRow B 5 1 v l.length (Lib.byteCells l) ∧ (∀ g, v.ownBlock = some g → g < H)) ∧ KeptB B b w w' ∧ w'.heap.size = w.heap.size := by
  obtain ⟨hbB, p, v, hb, hp, hown, hg⟩ := h
  rcases hp with rfl | rfl
  · refine (copyCheck_fresh b w (by rw [cell_of_blk hb]; rfl) (by simp [World.shape?, hb]) (by simp [World.frozen?, hb])).mono ?_
    rintro e w' ⟨rfl, rfl⟩
    refine ⟨rfl, ⟨hbB, v, heap_set w b 0 _ _ _ _ hb, own_set hbB hown, hg⟩, ⟨rfl, rfl, rfl, by simp [World.setCell], fun k _ hk => Below.heap_setCell _ _ _ _ hk⟩, by simp [World.setCell]⟩
  · refine (copyCheck_used b w (by rw [cell_of_blk hb]; rfl)).mono ?_
    rintro e w' ⟨rfl, rfl⟩
    exact ⟨rfl, ⟨hbB, v, hb, hown, hg⟩, ⟨rfl, rfl, rfl, Nat.le_refl _, fun _ _ _ => rfl⟩, rfl⟩

theorem cells_byte : Tryz.prog.cellsOf 5 = 1 := by kernel_rfl
theorem info_byte : (Tryz.prog.info? 5).map (fun i => (i.zero, i.size, i.bytes)) = some (some (.int .u8 0), 1, 1) := by kernel_rfl

set_option maxHeartbeats 1000000 in
theorem write_any (B H b : Nat) (l : List UInt8) (s : ByteArray) (w : World) (h : Bld B H b l w) (hlen : l.length + s.size ≤ 140737488355328) (hBw : B ≤ w.heap.size) :
    Calls Tryz.prog 43 #[.pointer (some ⟨b, 0, none⟩), .string s] w fun e w' => e = .returned (.tuple #[.int .i64 s.size, .nilIface]) ∧ Bld B w'.heap.size b (l ++ s.data.toList) w' ∧ KeptB B b w w' := by
  obtain ⟨i0, hi, hz0, hz1, hz2⟩ := info_parts info_byte
  have HC := Lib.hid (copyCheck_any B H b l w h)
  clear h
  go_enter Tryz.func43, Tryz.ntmps43
  go_wp2_with (go_at_call 65; refine HC.out.mono ?_)
  rintro e w1 ⟨rfl, ⟨hbB, v, hbk, hown, hg⟩, hk1, hs1⟩
  have c1 : w1.cell? ⟨b, 1, none⟩ = some v := by rw [cell_of_blk hbk]; rfl
  go_wp2_with (at_builtin; refine Lib.wpList_append_own_string _ rfl _ _ 54 9 rfl B 5 i0 Tryz.underlying54 Tryz.underlying9 hi hz0 hz1 hz2 _ _ _ rfl hown s rfl ?c3 ?c4 ?c5 ?_)
  case c3 => unfold maxLen; omega
  case c4 => omega
  case c5 => omega
  intro v' w2 hown' hgrow _
  have hlt : b < w1.heap.size := by
    rcases Nat.lt_or_ge b w1.heap.size with h' | h'
    · exact h'
    · rw [Array.getElem?_eq_none h'] at hbk; cases hbk
  have hne : v.ownBlock ≠ some b := fun e => by
    have := (hown.lt b e).1; omega
  have hb2 : w2.heap[b]? = some (.cells #[.pointer (some ⟨b, 0, none⟩), v] 56 (0, 0)) := by
    rw [hgrow.block b hlt (fun e => hne e.symm)]; exact hbk
  have d1 : w2.cell? ⟨b, 1, none⟩ = some v := by rw [cell_of_blk hb2]; rfl
  have f1 : w2.frozen? ⟨b, 1, none⟩ = false := by simp [World.frozen?, hb2]
  obtain ⟨ao, n', cap, rfl⟩ : ∃ ao n' cap, v' = .slice ao n' cap := by
    rcases hown'.2 with ⟨hv, _⟩ | ⟨g, cap, cur, hv, _⟩
    · exact ⟨_, _, _, hv⟩
    · exact ⟨_, _, _, hv⟩
  go_wp2_with fail
  go_ret2
  refine ⟨rfl, ?_, ?_⟩
  · have hbs : Lib.byteCells (l ++ s.data.toList) = Lib.byteCells l ++ Lib.strCells s := by
      simp [Lib.byteCells, Lib.strCells]
    refine ⟨hbB, _, _, heap_set w2 b 1 _ _ _ _ hb2, .inr rfl, ?_, fun g hg => ?_⟩
    · have := own_set (i := 1) (u := .slice ao n' cap) hbB hown'
      rw [hbs, List.length_append, show s.data.toList.length = s.size by simp]
      exact this
    · have := (hown'.lt g hg).2
      simpa [World.setCell] using this
  · refine ⟨hgrow.os.trans hk1.os, hgrow.tape.trans hk1.tape, hgrow.output.trans hk1.output, ?_, fun k hk hkb => ?_⟩
    · have := hgrow.size
      simp [World.setCell]; omega
    · rw [Below.heap_setCell _ _ _ _ hkb, hgrow.block k (by omega) (fun e => by have := (hown.lt k e.symm).1; omega), hk1.block k hk hkb]

/-- Only blocks from B to H, and new ones, may have turned. -/
structure KeptR (B H : Nat) (w w' : World) : Prop where
  os : w'.os = w.os
  tape : w'.tape = w.tape
  output : w'.output = w.output
  size : w.heap.size ≤ w'.heap.size
  block : ∀ k, k < w.heap.size → (k < B ∨ H ≤ k) → w'.heap[k]? = w.heap[k]?

theorem KeptR.drew (B H : Nat) (w : World) : KeptR B H w w.drew := ⟨rfl, rfl, rfl, Nat.le_refl _, fun _ _ _ => rfl⟩
theorem KeptR.alloc (B H : Nat) (w : World) (o : Obj) : KeptR B H w (w.alloc o).drew :=
  ⟨rfl, rfl, rfl, by show w.heap.size ≤ (w.heap.push o).size; simp, fun k hk _ => Below.heap_alloc w o k hk⟩
theorem KeptR.freeze (B H g n : Nat) (w : World) (h1 : B ≤ g) (h2 : g < H) : KeptR B H w (w.drew.freeze ⟨g, 0, none⟩ n) := by
  have hh : ∀ W : World, (W.freeze ⟨g, 0, none⟩ n).os = W.os ∧ (W.freeze ⟨g, 0, none⟩ n).tape = W.tape ∧ (W.freeze ⟨g, 0, none⟩ n).output = W.output ∧ (W.freeze ⟨g, 0, none⟩ n).heap.size = W.heap.size ∧ ∀ k, k ≠ g → (W.freeze ⟨g, 0, none⟩ n).heap[k]? = W.heap[k]? := by
    intro W
    unfold World.freeze
    split
    · exact ⟨rfl, rfl, rfl, rfl, fun _ _ => rfl⟩
    · refine ⟨rfl, rfl, rfl, by simp, fun k hk => ?_⟩
      simp only [Array.getElem?_modify]
      rw [if_neg (fun e => hk e.symm)]
  obtain ⟨e1, e2, e3, e4, e5⟩ := hh w.drew
  exact ⟨e1, e2, e3, by rw [e4]; exact Nat.le_refl _, fun k _ hk => e5 k (by omega)⟩

theorem ptr_type : Tryz.prog.underlying 74 = some (.pointer 5) := by kernel_rfl

set_option maxHeartbeats 2000000 in
set_option maxRecDepth 100000 in
theorem string_some (B H b : Nat) (l : List UInt8) (w : World) (h : Bld B H b l w) (h0 : l ≠ []) :
    Calls Tryz.prog 45 #[.pointer (some ⟨b, 0, none⟩)] w fun e w' => e = .returned (.string ⟨l.toArray⟩) ∧ KeptR B H w w' := by
  obtain ⟨hbB, p, v, hbk, hp, hown, hg⟩ := h
  have hl0 : l.length ≠ 0 := by simpa using h0
  obtain ⟨g, cap, cur, rfl, hbg, hgc, hnc, hcm, hcs, htake⟩ : ∃ g cap cur, v = .slice (some ⟨g, 0, none⟩) l.length cap ∧ B ≤ g ∧ w.heap[g]? = some (.cells cur 5 (0, 0)) ∧ l.length ≤ cap ∧ cap ≤ maxLen ∧ cur.size = cap * 1 ∧ cur.toList.take (l.length * 1) = Lib.byteCells l := by
    rcases hown.2 with ⟨_, hz⟩ | ⟨g, cap, cur, hv, r⟩
    · exact absurd hz hl0
    · exact ⟨g, cap, cur, hv, r⟩
  have hgH : g < H := hg g rfl
  have c1 : w.drew.cell? ⟨b, 1, none⟩ = some (.slice (some ⟨g, 0, none⟩) l.length cap) := by
    have : w.drew.heap[b]? = some (.cells #[p, .slice (some ⟨g, 0, none⟩) l.length cap] 56 (0, 0)) := hbk
    rw [cell_of_blk this]; rfl
  have hSD : (Builtin.unsafeSliceData_ #[54] 74 #[.slice (some ⟨g, 0, none⟩) l.length cap]).run Tryz.prog w.drew = .ok (.pointer (some ⟨g, 0, none⟩)) w.drew :=
    Lib.run_unsafeSliceData_row _ _ _ _ _ _ (by omega)
  have hUS : (Builtin.unsafeString_ #[74, 3] 9 #[.pointer (some ⟨g, 0, none⟩), .int .i64 l.length]).run Tryz.prog w.drew = .ok (.string ⟨l.toArray⟩) (w.drew.freeze ⟨g, 0, none⟩ l.length) := by
    refine Lib.run_unsafeString_row w.drew 74 3 9 5 ptr_type cells_byte g cur.size (by have hg' : w.drew.heap[g]? = some (.cells cur 5 (0, 0)) := hgc; simp [World.shape?, hg']) l h0 (by omega) (by unfold maxLen at hcm; omega) ?_
    intro j x hx
    have := hown.cells (g := g) rfl j (.int .u8 x.toNat) (by simp [Lib.byteCells, hx])
    exact this
  have HK := KeptR.freeze B H g l.length w hbg hgH
  clear hown hbk htake hcs hcm hnc hgc hg h0
  go_enter Tryz.func45, Tryz.ntmps45
  go_wp2
  go_region
  all_goals (go_wp2; go_ret; exact ⟨rfl, HK⟩)

theorem string_any (B H b : Nat) (l : List UInt8) (w : World) (h : Bld B H b l w) :
    Calls Tryz.prog 45 #[.pointer (some ⟨b, 0, none⟩)] w fun e w' => e = .returned (.string ⟨l.toArray⟩) ∧ KeptR B H w w' := by
  by_cases h0 : l = []
  · subst h0
    obtain ⟨hbB, p, v, hbk, hp, hown, hg⟩ := h
    have key : Calls Tryz.prog 45 #[.pointer (some ⟨b, 0, none⟩)] w fun e w' => e = .returned (.string ⟨#[]⟩) ∧ Below w.heap.size w w' := by
      rcases hown.2 with ⟨rfl, _⟩ | ⟨g, cap, cur, rfl, _, hgc, _, _, hcs, _⟩
      · exact Any.Builder_String_nil (ρ := Tryz.lays105_ren) { Tryz.lays105 with } Tryz.Builder_Extra_105 w.heap.size b p w hbk
      · by_cases hc : cap = 0
        · subst hc
          exact Any.Builder_String_noroom (ρ := Tryz.lays105_ren) { Tryz.lays105 with } Tryz.Builder_Extra_105 w.heap.size b g p cur w (Nat.le_refl _) hbk hgc
        · exact Any.Builder_String_room (ρ := Tryz.lays105_ren) { Tryz.lays105 with } Tryz.Builder_Extra_105 w.heap.size b g cap p w hc hbk
    refine key.mono ?_
    rintro e w' ⟨rfl, hb⟩
    exact ⟨rfl, hb.os, hb.tape, hb.output, hb.size, fun k hk _ => hb.block k hk⟩
  · exact string_some B H b l w h h0

/-- A builder that nobody has written yet. -/
theorem Bld.fresh (B H b : Nat) (w : World) (hb : b < B) (h : w.heap[b]? = some (.cells #[.pointer none, .slice none 0 0] 56 (0, 0))) : Bld B H b [] w :=
  ⟨hb, _, _, h, .inl rfl, ⟨rfl, .inl ⟨rfl, rfl⟩⟩, fun g hg => by simp [Value.ownBlock] at hg⟩
/-- A builder lies on where its block and its row do. -/
theorem Bld.kept {B H b : Nat} {l : List UInt8} {w w' : World} (h : Bld B H b l w) (hk : ∀ k, k < w.heap.size → (k = b ∨ (B ≤ k ∧ k < H)) → w'.heap[k]? = w.heap[k]?) : Bld B H b l w' := by
  have hlt := bld_size h
  obtain ⟨hbB, p, v, hb, hp, hown, hg⟩ := h
  refine ⟨hbB, p, v, by rw [hk b hlt (.inl rfl)]; exact hb, hp, ⟨hown.1, ?_⟩, hg⟩
  rcases hown.2 with hz | ⟨g, cap, cur, rfl, hbg, hgc, r⟩
  · exact .inl hz
  · have hgl : g < w.heap.size := by
      rcases Nat.lt_or_ge g w.heap.size with h' | h'
      · exact h'
      · rw [Array.getElem?_eq_none h'] at hgc; cases hgc
    exact .inr ⟨g, cap, cur, rfl, hbg, by rw [hk g hgl (.inr ⟨hbg, hg g rfl⟩)]; exact hgc, r⟩
theorem Bld.below {B H b : Nat} {l : List UInt8} {w w' : World} (h : Bld B H b l w) (hb : Below w.heap.size w w') : Bld B H b l w' :=
  h.kept fun k hk _ => hb.block k hk
theorem KeptR.below {B H lo : Nat} {w w' : World} (h : KeptR B H w w') (h1 : lo ≤ B) (h2 : lo ≤ w.heap.size) : Below lo w w' :=
  ⟨h.os, h.tape, h.output, h.size, fun k hk => h.block k (by omega) (.inl (by omega))⟩
theorem Bld.later {B H H' b : Nat} {l : List UInt8} {w : World} (h : Bld B H b l w) (hH : H ≤ H') : Bld B H' b l w := by
  obtain ⟨hbB, p, v, hb, hp, hown, hg⟩ := h
  exact ⟨hbB, p, v, hb, hp, hown, fun g hgg => Nat.lt_of_lt_of_le (hg g hgg) hH⟩
end Go.Proofs.YtkndifannjpbcaaGreatDoor
/- The walks over package page: the bytes of a page's parts. -/
namespace Go.Proofs.YtkndifannjpbcaaGreatDoor
open Go.RowKit

/-- The slice at A, of capacity c, reads as the texts rs. -/
def Cells (w : World) (A : Option Addr) (c : Nat) (rs : List ByteArray) : Prop :=
  0 < rs.length → ∃ b off, A = some ⟨b, off, none⟩ ∧ rs.length ≤ c ∧ b < w.heap.size ∧ ∀ j (h : j < rs.length), w.cell? ⟨b, off + j, none⟩ = some (.string rs[j])
/-- The slice v reads as the texts rs. -/
def StrsAt (w : World) (v : Value) (rs : List ByteArray) : Prop := ∃ A c, v = .slice A rs.length c ∧ Cells w A c rs
theorem Cells.below {w w' : World} {A : Option Addr} {c : Nat} {rs : List ByteArray} (h : Cells w A c rs) (hb : Below w.heap.size w w') : Cells w' A c rs := fun h0 => by
  obtain ⟨b, off, hA, hc, hlt, hcell⟩ := h h0
  refine ⟨b, off, hA, hc, Nat.lt_of_lt_of_le hlt hb.size, fun j hj => ?_⟩
  rw [hb.cell (p := ⟨b, off + j, none⟩) hlt]; exact hcell j hj
theorem Cells.at_ {w : World} {A : Option Addr} {c : Nat} {rs : List ByteArray} (h : Cells w A c rs) {k : Nat} (hk : k < rs.length) : ∃ b off, A = some ⟨b, off, none⟩ ∧ rs.length ≤ c ∧ b < w.heap.size ∧ w.cell? ⟨b, off + k, none⟩ = some (.string rs[k]) := by
  obtain ⟨b, off, hA, hc, hlt, hcell⟩ := h (by omega)
  exact ⟨b, off, hA, hc, hlt, hcell k hk⟩
theorem StrsAt.below {w w' : World} {v : Value} {rs : List ByteArray} (h : StrsAt w v rs) (hb : Below w.heap.size w w') : StrsAt w' v rs := by
  obtain ⟨A, c, hv, hC⟩ := h
  exact ⟨A, c, hv, hC.below hb⟩

theorem ret_int {k : IntKind} {a b : Int} (h : a = b) : Ending.returned (.int k a) = .returned (.int k b) := by rw [h]
theorem ret_str {a b : ByteArray} (h : a = b) : Ending.returned (.string a) = .returned (.string b) := by rw [h]

theorem andThen {a b c : World} (h : Below a.heap.size a b) (k : Below b.heap.size b c) : Below a.heap.size a c := h.trans (k.mono h.size)

theorem size_any (A : Option Addr) (c : Nat) (rs : List ByteArray) (hb : Pg.sizeN rs ≤ 1099511627776) (w : World) (h : Cells w A c rs) :
    Calls Tryz.prog 42 #[.slice A rs.length c] w fun e w' => e = .returned (.int .i64 (Pg.sizeN rs)) ∧ w = w' := by
  unfold Pg.sizeN at hb
  have HC := Lib.hid h
  clear h
  go_enter Tryz.func42, Tryz.ntmps42
  go_wp2_with fail
  go_loop [3, 12] (fun n i => ∃ k : Nat, k ≤ rs.length ∧ i = .int .i64 k ∧ n = .int .i64 ((19 + 4 * rs.length + Pg.sumSizes (rs.take k) : Nat) : Int)) (fun _ i => rs.length - (intOf i).toNat)
  case atStart => exact ⟨0, Nat.zero_le _, rfl, by simp [Pg.sumSizes]⟩
  case round =>
    obtain ⟨k, hk, rfl, rfl⟩ := hrel
    have hle := Pg.sumSizes_take_le rs k
    by_cases hlt : k < rs.length
    · obtain ⟨b, off, rfl, hc, hbl, hcell⟩ := HC.out.at_ hlt
      have HS := Lib.hid (Pg.sumSizes_snoc rs k hlt)
      have hle2 := Pg.sumSizes_take_le rs (k + 1)
      have hsz : Pg.sumSizes (rs.take k) + rs[k].size ≤ Pg.sumSizes rs := by rw [← HS.out]; exact hle2
      clear hle2
      generalize hr : rs[k] = r at hcell hsz
      have HR := Lib.hid hr
      clear hr
      go_wp2_with fail
      go_round
      case rel => exact ⟨k + 1, by omega, by go_num, by rw [HS.out, HR.out]; go_num⟩
      case measure => simp [intOf]; omega
    · obtain rfl : k = rs.length := by omega
      go_wp2_with fail
      go_ret
      exact ⟨ret_int (by unfold Pg.sizeN; omega), rfl⟩

/-- The box that holds a page's parts. -/
def boxOf (x : Pg.Leaf) (A : Option Addr) (m c : Nat) : Obj := .cells #[.int .i64 x.lsn, .int .i64 x.kind, .int .i64 x.link, .slice A m c] 38
theorem empty_iff (r : ByteArray) : r.toList.isEmpty = decide (r.size = 0) := by
  rw [ByteArray.toList_eq]
  have h : r.data.toList.length = r.size := by simp
  cases hl : r.data.toList with
  | nil => rw [hl] at h; simp at h; simp [h.symm]
  | cons a l =>
    rw [hl, List.length_cons] at h
    simp only [List.isEmpty_cons]
    exact (decide_eq_false (by omega)).symm

theorem three_new (w : World) (o1 o2 o3 : Obj) : (((w.alloc o1).alloc o2).alloc o3).heap[w.heap.size]? = some o1 ∧ (((w.alloc o1).alloc o2).alloc o3).heap[w.heap.size + 1]? = some o2 ∧ (((w.alloc o1).alloc o2).alloc o3).heap[w.heap.size + 1 + 1]? = some o3 ∧ (((w.alloc o1).alloc o2).alloc o3).heap.size = w.heap.size + 3 := by
  have e : (((w.alloc o1).alloc o2).alloc o3).heap = ((w.heap.push o1).push o2).push o3 := rfl
  rw [e]
  refine ⟨?_, ?_, ?_, by simp⟩
  · rw [Array.getElem?_push_lt (by simp; omega), Array.getElem_push_lt (by simp), Array.getElem_push_eq]
  · rw [Array.getElem?_push_lt (by simp), Array.getElem_push]; simp
  · rw [Array.getElem?_push]; simp

/-- octet.Put, where four cells of an old block are held. -/
theorem put_held (n size : Int) (h0 : 0 ≤ size) (h8 : size ≤ 8) (X : Nat) (v0 v1 v2 v3 : Value) (w0 w : World) (hX : X < w0.heap.size)
    (h : w.cell? ⟨X, 0, none⟩ = some v0 ∧ w.cell? ⟨X, 1, none⟩ = some v1 ∧ w.cell? ⟨X, 2, none⟩ = some v2 ∧ w.cell? ⟨X, 3, none⟩ = some v3 ∧ Below w0.heap.size w0 w) :
    Calls Tryz.prog 44 #[.int .i64 n, .int .i64 size] w fun e w' => e = .returned (.string (Oct.putB n size)) ∧
      (w'.cell? ⟨X, 0, none⟩ = some v0 ∧ w'.cell? ⟨X, 1, none⟩ = some v1 ∧ w'.cell? ⟨X, 2, none⟩ = some v2 ∧ w'.cell? ⟨X, 3, none⟩ = some v3 ∧ Below w0.heap.size w0 w') := by
  obtain ⟨c0, c1, c2, c3, hb⟩ := h
  have hs := hb.size
  refine (put_any n size h0 h8 w).mono ?_
  rintro e w' ⟨rfl, hb1⟩
  refine ⟨rfl, ?_, ?_, ?_, ?_, andThen hb hb1⟩
  · rw [hb1.cell (p := ⟨X, 0, none⟩) (by show X < _; omega)]; exact c0
  · rw [hb1.cell (p := ⟨X, 1, none⟩) (by show X < _; omega)]; exact c1
  · rw [hb1.cell (p := ⟨X, 2, none⟩) (by show X < _; omega)]; exact c2
  · rw [hb1.cell (p := ⟨X, 3, none⟩) (by show X < _; omega)]; exact c3

set_option maxRecDepth 100000 in
set_option maxHeartbeats 2000000 in
theorem made_any (x : Pg.Leaf) (A : Option Addr) (c : Nat) (hx : Pg.Small x) (hb : Pg.sizeN x.recs ≤ 1099511627776) (w : World) (h : Cells w A c x.recs) :
    Calls Tryz.prog 18 #[.agg #[.int .i64 x.lsn, .int .i64 x.kind, .int .i64 x.link, .slice A x.recs.length c]] w fun e w' => e = .returned (.string ⟨(Pg.layL x).toArray⟩) ∧ Below w.heap.size w w' := by
  have HXS := Lib.hid hx
  clear hx
  have HC := Lib.hid h
  have hbn : x.recs.length ≤ 1099511627776 := by unfold Pg.sizeN at hb; omega
  have HB := Lib.hid hb
  clear h hb
  go_enter Tryz.func18, Tryz.ntmps18
  go_upto_block 0 with (fail)
  go_cut [] (fun wc => ∃ m : Nat, m ≤ x.recs.length ∧ Pg.trimN x.recs x.recs.length = m ∧ wc = w.alloc (boxOf x A m c))
  case first =>
    go_wp2_with fail
    go_loopg [] x.recs.length (fun m wr => m ≤ x.recs.length ∧ Pg.trimN x.recs m = Pg.trimN x.recs x.recs.length ∧ wr = w.alloc (boxOf x A m c))
    case atStart => exact ⟨Nat.le_refl _, rfl, rfl⟩
    case round =>
      obtain ⟨hm, ht, rfl⟩ := hrel
      have HT := Lib.hid ht
      clear ht
      unfold boxOf
      by_cases h0 : gk = 0
      · subst h0
        go_wp2_with fail
        go_meet
        case rel => exact ⟨0, Nat.zero_le _, by rw [← HT.out]; rfl, rfl⟩
      · obtain ⟨b, off, rfl, hc, hbl, hcell⟩ := HC.out.at_ (k := gk - 1) (by omega)
        obtain ⟨m, rfl⟩ : ∃ m, gk = m + 1 := ⟨gk - 1, by omega⟩
        simp only [Nat.add_sub_cancel] at hcell
        have hie := empty_iff x.recs[m]
        have HR := Lib.hid (show x.recs[m]?.getD ⟨#[]⟩ = x.recs[m] by simp [show m < x.recs.length by omega])
        have hcc : (World.cell? (w.alloc (boxOf x (some ⟨b, off, none⟩) (m + 1) c)) ⟨b, off + m, none⟩) = some (.string x.recs[m]) := by
          rw [World.cell?_alloc_lt _ _ _ hbl]; exact hcell
        unfold boxOf at hcc
        generalize hr : x.recs[m] = r at hcell hie hcc HR
        by_cases he : r.size = 0
        · have hie2 : r.toList.isEmpty = true := by rw [hie]; exact decide_eq_true he
          clear hie hr
          have HE := Lib.hid he
          clear he
          go_wp2_with fail
          go_roundg m
          case measure => omega
          case rel => exact ⟨by omega, by rw [← HT.out, Pg.trimN, HR.out, if_pos HE.out], rfl⟩
        · have hie2 : r.toList.isEmpty = false := by rw [hie]; exact decide_eq_false he
          clear hie hr
          have HE := Lib.hid he
          clear he
          go_wp2_with fail
          go_meet
          case rel => exact ⟨m + 1, hm, by rw [← HT.out, Pg.trimN, HR.out, if_neg HE.out], rfl⟩
  case rest =>
    obtain ⟨m, hm, ht, rfl⟩ := hcut
    have hlen : (x.recs.take m).length = m := by rw [List.length_take]; omega
    have hsz : Pg.sizeN (x.recs.take m) ≤ 1099511627776 := by
      have := HB.out
      have := Pg.sumSizes_take_le x.recs m
      unfold Pg.sizeN at *; omega
    have HC2 := Lib.hid (show Cells w A c (x.recs.take m) from fun h0 => by
      obtain ⟨b, off, hA, hc, hlt, hcell⟩ := HC.out (by omega)
      refine ⟨b, off, hA, by omega, hlt, fun j hj => ?_⟩
      rw [List.getElem_take]; exact hcell j (by omega))
    have HL := Lib.hid (show Pg.layL x = Pg.layR x (x.recs.take m) by rw [Pg.layL, Pg.trim, ht])
    generalize hrs : x.recs.take m = rs at hlen hsz HC2 HL
    subst hlen
    clear HC HB hbn hm ht hrs
    unfold boxOf
    by_cases hfit : 512 < Pg.sizeN rs
    · go_wp2_with (go_at_call 42; refine (size_any A c rs hsz _ (HC2.out.below ((Below.refl _ _).alloc (Nat.le_refl _) _))).mono ?_; rintro e w' ⟨rfl, rfl⟩)
      go_ret
      exact ⟨ret_str (by rw [HL.out, Pg.layR, if_pos hfit]), (Below.refl _ _).alloc (Nat.le_refl _) _⟩
    · go_upto_block 2 with (go_at_call 42; refine (size_any A c rs hsz _ (HC2.out.below ((Below.refl _ _).alloc (Nat.le_refl _) _))).mono ?_; rintro e w' ⟨rfl, rfl⟩)
      have hs512 : Pg.sumSizes rs ≤ 512 := by unfold Pg.sizeN at hfit; omega
      have hn123 : rs.length ≤ 512 := by unfold Pg.sizeN at hfit; omega
      obtain ⟨W3, hW3⟩ : ∃ W3 : World, W3 = (((w.alloc (.cells #[.int .i64 x.lsn, .int .i64 x.kind, .int .i64 x.link, .slice A rs.length c] 38)).alloc (.cells #[.pointer none, .slice none 0 0] 56)).alloc (.cells #[.pointer none, .slice none 0 0] 56)) := ⟨_, rfl⟩
      rw [← hW3]
      have hb3 : Below w.heap.size w W3 := by rw [hW3]; exact (((Below.refl _ _).alloc (Nat.le_refl _) _).alloc (by simp) _).alloc (by simp; omega) _
      obtain ⟨hx3, h43, h53, hz3⟩ := three_new w (.cells #[.int .i64 x.lsn, .int .i64 x.kind, .int .i64 x.link, .slice A rs.length c] 38) (.cells #[.pointer none, .slice none 0 0] 56) (.cells #[.pointer none, .slice none 0 0] 56)
      rw [← hW3] at hx3 h43 h53 hz3
      clear hW3
      have HB3 := Lib.hid hb3
      have HX3 := Lib.hid hx3
      have H43 := Lib.hid h43
      have H53 := Lib.hid h53
      have HZ3 := Lib.hid hz3
      have HFIT := Lib.hid hfit
      clear hb3 hx3 h43 h53 hz3 hfit
      go_cut [6] (fun s6 wc => s6 = .int .i64 ((512 - Pg.sumSizes rs : Nat) : Int) ∧ Bld W3.heap.size wc.heap.size (w.heap.size + 1) (Pg.slotsL 512 rs) wc ∧ KeptB W3.heap.size (w.heap.size + 1) W3 wc)
      case first =>
        go_wp2_with fail
        go_loopw [6, 43] (fun a i wr => ∃ k : Nat, k ≤ rs.length ∧ i = .int .i64 k ∧ a = .int .i64 ((512 - Pg.sumSizes (rs.take k) : Nat) : Int) ∧ Bld W3.heap.size wr.heap.size (w.heap.size + 1) (Pg.slotsL 512 (rs.take k)) wr ∧ KeptB W3.heap.size (w.heap.size + 1) W3 wr) (fun _ i _ => rs.length - (intOf i).toNat)
        case atStart => exact ⟨0, Nat.zero_le _, rfl, by simp [Pg.sumSizes], Bld.fresh _ _ _ _ (by rw [HZ3.out]; omega) H43.out, KeptB.refl _ _ _⟩
        case round =>
          obtain ⟨k, hk, rfl, rfl, hbld, hkept⟩ := hrel
          have HK := Lib.hid hkept
          have HD := Lib.hid hbld
          have hsl := Pg.sumSizes_take_le rs k
          have hWr : W3.heap.size ≤ wr.heap.size := hkept.size
          clear hbld hkept
          by_cases hlt : k < rs.length
          · obtain ⟨b, off, rfl, hc, hbl, hcell⟩ := HC2.out.at_ hlt
            have hcw : wr.cell? ⟨b, off + k, none⟩ = some (.string rs[k]) := by
              rw [(HK.out.below (lo := w.heap.size) (by rw [HZ3.out]; omega) (by omega)).cell (p := ⟨b, off + k, none⟩) hbl, HB3.out.cell (p := ⟨b, off + k, none⟩) hbl]; exact hcell
            have HS := Lib.hid (Pg.sumSizes_snoc rs k hlt)
            have HSL := Lib.hid (Pg.slotsL_snoc rs k hlt)
            have hle2 := Pg.sumSizes_take_le rs (k + 1)
            have hsz2 : Pg.sumSizes (rs.take k) + rs[k].size ≤ 512 := by rw [← HS.out]; omega
            have hlen : (Pg.slotsL 512 (rs.take k)).length ≤ 4096 := by rw [Pg.slotsL_length, List.length_take]; omega
            have hie := empty_iff rs[k]
            clear hle2 hcell
            generalize hr : rs[k] = r at hcw hsz2 hie HS HSL
            clear hr
            by_cases he : r.size = 0
            · have hie2 : r.toList.isEmpty = true := by rw [hie]; exact decide_eq_true he
              clear hie
              have HE := Lib.hid he
              clear he
              go_wp2_with (first | (go_at_call 44; refine (put_any _ _ (by omega) (by omega) _).mono ?_; rintro e w1 ⟨rfl, hb1⟩) | (go_at_call 43; refine (write_any _ _ _ _ _ _ (HD.out.below hb1) ?_ ?_).mono ?_; (rw [show (Oct.putB 0 4).size = 4 from Oct.putB_size 0 4 (by omega)]; omega); (have := hb1.size; omega); rintro e w2 ⟨rfl, hbld2, hk2⟩))
              go_roundw
              case rel => exact ⟨k + 1, by omega, by go_num, by rw [HS.out, HE.out]; rfl, by
                rw [HSL.out, Pg.slotL, if_pos HE.out]
                rw [show (Oct.putB 0 4).data.toList = Oct.putL 0 4 from Oct.putB_list 0 4 (by omega)] at hbld2
                exact hbld2, HK.out.trans ((KeptB.of_below hWr hb1).trans hk2)⟩
              case measure => simp [intOf]; omega
            · have hie2 : r.toList.isEmpty = false := by rw [hie]; exact decide_eq_false he
              clear hie
              have HE := Lib.hid he
              clear he
              obtain ⟨a, ha⟩ : ∃ a : Nat, a = 512 - Pg.sumSizes (rs.take k) := ⟨_, rfl⟩
              rw [← ha]
              have hra : r.size ≤ a := by omega
              have ha512 : a ≤ 512 := by omega
              have HA := Lib.hid ha
              clear ha
              have hadd : ∀ (u v : Int) (W : World), (Op.stringOp .add (Oct.putB u 2) (Oct.putB v 2)).run Tryz.prog W = .ok (.string (Oct.putB u 2 ++ Oct.putB v 2)) W := fun u v W => run_string_add_sum W _ _ (by
                rw [show (Oct.putB u 2).size = 2 from Oct.putB_size u 2 (by omega), show (Oct.putB v 2).size = 2 from Oct.putB_size v 2 (by omega)]; omega)
              go_wp2_with (first | (go_at_call 44; (with_reducible refine (put_any (r.size : Int) _ (by omega) (by omega) _).mono ?_); rintro e w2 ⟨rfl, hb2⟩) | (go_at_call 44; refine (put_any _ _ (by omega) (by omega) _).mono ?_; rintro e w1 ⟨rfl, hb1⟩) | (go_at_call 43; refine (write_any _ _ _ _ _ _ ((HD.out.below hb1).below hb2) ?_ ?_).mono ?_; (rw [ByteArray.size_append, show (Oct.putB _ 2).size = 2 from Oct.putB_size _ 2 (by omega), show (Oct.putB _ 2).size = 2 from Oct.putB_size _ 2 (by omega)]; omega); (have := hb1.size; have := hb2.size; omega); rintro e w3 ⟨rfl, hbld3, hk3⟩))
              go_roundw
              case rel =>
                refine ⟨k + 1, by omega, by go_num, ?_, ?_, HK.out.trans ((KeptB.of_below hWr hb1).trans ((KeptB.of_below (by have := hb1.size; omega) hb2).trans hk3))⟩
                · have := HA.out
                  rw [HS.out]
                  exact congrArg (Value.int IntKind.i64) (by omega)
                · rw [HSL.out, Pg.slotL, if_neg HE.out, ← HA.out]
                  have e1 : (Oct.putB ((a : Int) - (r.size : Int)) 2).data.toList = Oct.putL (a - r.size) 2 := by
                    rw [show ((a : Int) - (r.size : Int)) = ((a - r.size : Nat) : Int) by omega]
                    have := Oct.putB_list ((a - r.size : Nat) : Int) 2 (by omega)
                    rwa [Oct.word_nat (a - r.size) (by omega)] at this
                  have e2 : (Oct.putB (r.size : Int) 2).data.toList = Oct.putL r.size 2 := by
                    have := Oct.putB_list (r.size : Int) 2 (by omega)
                    rwa [Oct.word_nat r.size (by omega)] at this
                  rw [ByteArray.data_append, Array.toList_append, e1, e2] at hbld3
                  exact hbld3
              case measure => simp [intOf]; omega
          · obtain rfl : k = rs.length := by omega
            have HT := Lib.hid (List.take_length (l := rs))
            go_wp2_with fail
            go_meet
            case rel =>
              have h1 := HD.out
              rw [HT.out] at h1
              exact ⟨by rw [HT.out], h1, HK.out⟩
      case rest =>
        obtain ⟨wm, rfl⟩ : ∃ wm : World, wm = wc := ⟨_, rfl⟩
        obtain ⟨rfl, hbld, hkept⟩ := hcut
        have HD := Lib.hid hbld
        have HK := Lib.hid hkept
        have hWc : W3.heap.size ≤ wm.heap.size := hkept.size
        clear hbld hkept
        have hx : wm.heap[w.heap.size]? = some (.cells #[.int .i64 x.lsn, .int .i64 x.kind, .int .i64 x.link, .slice A rs.length c] 38 (0, 0)) := by
          rw [HK.out.block _ (by rw [HZ3.out]; omega) (by omega)]; exact HX3.out
        have c0 : wm.cell? ⟨w.heap.size, 0, none⟩ = some (.int .i64 x.lsn) := by rw [cell_of_blk hx]; rfl
        have c1 : wm.cell? ⟨w.heap.size, 1, none⟩ = some (.int .i64 x.kind) := by rw [cell_of_blk hx]; rfl
        have c2 : wm.cell? ⟨w.heap.size, 2, none⟩ = some (.int .i64 x.link) := by rw [cell_of_blk hx]; rfl
        have c3 : wm.cell? ⟨w.heap.size, 3, none⟩ = some (.slice A rs.length c) := by rw [cell_of_blk hx]; rfl
        have HX := Lib.hid hx
        clear hx
        go_upto_block 4 with (fail)
        go_cut [] (fun wc => Bld wm.heap.size wc.heap.size (w.heap.size + 1 + 1) (Pg.bodyL rs) wc ∧ KeptB wm.heap.size (w.heap.size + 1 + 1) wm wc)
        case first =>
          go_wp2_with fail
          go_loopw [9] (fun i wr => ∃ j : Nat, j ≤ rs.length ∧ i = .int .i64 ((j : Int) - 1) ∧ Bld wm.heap.size wr.heap.size (w.heap.size + 1 + 1) (Pg.bodyL (rs.drop j)) wr ∧ KeptB wm.heap.size (w.heap.size + 1 + 1) wm wr) (fun i _ => (intOf i + 1).toNat)
          case atStart =>
            refine ⟨rs.length, Nat.le_refl _, rfl, ?_, KeptB.refl _ _ _⟩
            rw [List.drop_length]
            exact Bld.fresh _ _ _ _ (by have := HZ3.out; omega) (by rw [HK.out.block _ (by rw [HZ3.out]; omega) (by omega)]; exact H53.out)
          case round =>
            obtain ⟨j, hj, rfl, hbld, hkept⟩ := hrel
            have HK4 := Lib.hid hkept
            have HD4 := Lib.hid hbld
            have hWr : wm.heap.size ≤ wr.heap.size := hkept.size
            have hz := HZ3.out
            have d3 : wr.cell? ⟨w.heap.size, 3, none⟩ = some (.slice A rs.length c) := by
              have : wr.heap[w.heap.size]? = _ := (hkept.block _ (by omega) (by omega)).trans HX.out
              rw [cell_of_blk this]; rfl
            clear hbld hkept c0 c1 c2 c3 hz
            by_cases h0 : j = 0
            · subst h0
              go_wp2_with fail
              go_meet
              case rel => exact ⟨HD4.out, HK4.out⟩
            · obtain ⟨k, rfl⟩ : ∃ k, j = k + 1 := ⟨j - 1, by omega⟩
              rw [show ((k + 1 : Nat) : Int) - 1 = (k : Int) by omega]
              obtain ⟨b, off, rfl, hc, hbl, hcell⟩ := HC2.out.at_ (k := k) (by omega)
              have hcw : wr.cell? ⟨b, off + k, none⟩ = some (.string rs[k]) := by
                have hz := HZ3.out
                rw [(HK4.out.below (lo := w.heap.size) (by omega) (by omega)).cell (p := ⟨b, off + k, none⟩) hbl, (HK.out.below (lo := w.heap.size) (by omega) (by omega)).cell (p := ⟨b, off + k, none⟩) hbl, HB3.out.cell (p := ⟨b, off + k, none⟩) hbl]; exact hcell
              have HBD := Lib.hid (Pg.bodyL_drop rs k (by omega))
              have hlen : (Pg.bodyL (rs.drop (k + 1))).length + rs[k].size ≤ 4096 := by
                have h1 := Pg.bodyL_length (rs.drop k)
                rw [HBD.out, List.length_append] at h1
                have h2 := Pg.sumSizes_append (rs.take k) (rs.drop k)
                rw [List.take_append_drop] at h2
                have h3 : rs[k].data.toList.length = rs[k].size := by simp
                omega
              clear hcell
              generalize hr : rs[k] = r at hcw hlen HBD
              clear hr
              go_wp2_with (go_at_call 43; refine (write_any _ _ _ _ _ _ HD4.out ?_ ?_).mono ?_; (omega); (omega); rintro e w2 ⟨rfl, hbld2, hk2⟩)
              go_roundw
              case rel => exact ⟨k, by omega, rfl, by rw [HBD.out]; exact hbld2, HK4.out.trans hk2⟩
              case measure => simp [intOf]
        case rest =>
          obtain ⟨hbld5, hkept5⟩ := hcut
          have HD5 := Lib.hid hbld5
          have HK5 := Lib.hid hkept5
          have hWd : wm.heap.size ≤ wc.heap.size := hkept5.size
          have hx5 : wc.heap[w.heap.size]? = some (.cells #[.int .i64 x.lsn, .int .i64 x.kind, .int .i64 x.link, .slice A rs.length c] 38 (0, 0)) := by
            have hz := HZ3.out
            rw [HK5.out.block _ (by omega) (by omega)]; exact HX.out
          have d0 : wc.cell? ⟨w.heap.size, 0, none⟩ = some (.int .i64 x.lsn) := by rw [cell_of_blk hx5]; rfl
          have d1 : wc.cell? ⟨w.heap.size, 1, none⟩ = some (.int .i64 x.kind) := by rw [cell_of_blk hx5]; rfl
          have d2 : wc.cell? ⟨w.heap.size, 2, none⟩ = some (.int .i64 x.link) := by rw [cell_of_blk hx5]; rfl
          have d3 : wc.cell? ⟨w.heap.size, 3, none⟩ = some (.slice A rs.length c) := by rw [cell_of_blk hx5]; rfl
          have HX5 := Lib.hid hx5
          clear hbld5 hkept5 hx5 c0 c1 c2 c3
          obtain ⟨wd, rfl⟩ : ∃ wd : World, wd = wc := ⟨_, rfl⟩
          go_upto_region 20 with (fail)
          have hXl : w.heap.size < wd.heap.size := by have := HZ3.out; omega
          have hbr : Below wd.heap.size wd wd := Below.refl _ _
          obtain ⟨at_, hat⟩ : ∃ a : Nat, a = 512 - Pg.sumSizes rs := ⟨_, rfl⟩
          rw [← hat]
          have HAT := Lib.hid hat
          clear hat
          have z1 : (Oct.putB 0 4).size = 4 := Oct.putB_size 0 4 (by omega)
          have z2 : (Oct.putB x.lsn 6).size = 6 := Oct.putB_size x.lsn 6 (by omega)
          have z3 : (Oct.putB x.kind 1).size = 1 := Oct.putB_size x.kind 1 (by omega)
          have z4 : (Oct.putB 0 1).size = 1 := Oct.putB_size 0 1 (by omega)
          have z5 : (Oct.putB x.link 3).size = 3 := Oct.putB_size x.link 3 (by omega)
          have z6 : (Oct.putB rs.length 2).size = 2 := Oct.putB_size rs.length 2 (by omega)
          have z7 : (Oct.putB at_ 2).size = 2 := Oct.putB_size at_ 2 (by omega)
          go_cut [10] (fun s10 we => s10 = .string (Oct.putB 0 4 ++ Oct.putB x.lsn 6 ++ Oct.putB x.kind 1 ++ Oct.putB 0 1 ++ Oct.putB x.link 3 ++ Oct.putB rs.length 2 ++ Oct.putB at_ 2) ∧ Below wd.heap.size wd we)
          case first =>
            go_region_held3 (fun w' => w'.cell? ⟨w.heap.size, 0, none⟩ = some (.int .i64 x.lsn) ∧ w'.cell? ⟨w.heap.size, 1, none⟩ = some (.int .i64 x.kind) ∧ w'.cell? ⟨w.heap.size, 2, none⟩ = some (.int .i64 x.link) ∧ w'.cell? ⟨w.heap.size, 3, none⟩ = some (.slice A rs.length c) ∧ Below wd.heap.size wd w') (first | assumption | exact ⟨d0, d1, d2, d3, hbr.drew⟩ | go_keep) (first | (go_at_call 44; refine (put_held _ _ (by omega) (by omega) w.heap.size _ _ _ _ wd _ hXl (by assumption)).mono ?_; rintro e w1 ⟨rfl, hS⟩))
            go_wp2_with fail
            go_meet
            case rel => exact ⟨rfl, hS.2.2.2.2⟩
          case rest =>
            obtain ⟨rfl, hbe⟩ := hcut
            have hz := HZ3.out
            have hbe2 := hbe.size
            have hWm : W3.heap.size ≤ wm.heap.size := HK.out.size
            obtain ⟨F, hF⟩ : ∃ F : ByteArray, F = Oct.putB 0 4 ++ Oct.putB x.lsn 6 ++ Oct.putB x.kind 1 ++ Oct.putB 0 1 ++ Oct.putB x.link 3 ++ Oct.putB rs.length 2 ++ Oct.putB at_ 2 := ⟨_, rfl⟩
            have hFs : F.size = 19 := by rw [hF]; simp only [ByteArray.size_append, z1, z2, z3, z4, z5, z6, z7]
            rw [← hF]
            obtain ⟨S, hS⟩ : ∃ S : ByteArray, S = ⟨(Pg.slotsL 512 rs).toArray⟩ := ⟨_, rfl⟩
            have hSs : S.size ≤ 4096 := by rw [hS]; show (Pg.slotsL 512 rs).toArray.size ≤ _; simp [Pg.slotsL_length]; omega
            obtain ⟨B, hB⟩ : ∃ B : ByteArray, B = ⟨(Pg.bodyL rs).toArray⟩ := ⟨_, rfl⟩
            have hBs : B.size ≤ 4096 := by rw [hB]; show (Pg.bodyL rs).toArray.size ≤ _; simp [Pg.bodyL_length]; omega
            obtain ⟨room, hroom⟩ : ∃ room : Nat, room = 512 - Pg.sizeN rs := ⟨_, rfl⟩
            have hfit := HFIT.out
            have hri : (512 : Int) - (Pg.sizeN rs : Int) = (room : Int) := by omega
            have hr512 : room ≤ 512 := by omega
            obtain ⟨R, hR⟩ : ∃ R : ByteArray, R = ⟨(Lib.repeatL (⟨#[0]⟩ : ByteArray).data.toList room).toArray⟩ := ⟨_, rfl⟩
            have hRl : R.data.toList = List.replicate room 0 := by
              rw [hR]
              have key : ∀ n, Lib.repeatL (⟨#[0]⟩ : ByteArray).data.toList n = List.replicate n 0 := fun n => by
                induction n with
                | zero => rfl
                | succ n ih => rw [Lib.repeatL, ih]; rfl
              rw [key]
            have hRs : R.size = room := by
              have : R.data.toList.length = R.size := by simp
              rw [← this, hRl, List.length_replicate]
            have b4 : Bld W3.heap.size wm.heap.size (w.heap.size + 1) (Pg.slotsL 512 rs) wc := ((HD.out.later (Nat.le_refl _)).kept (fun k hk _ => HK5.out.block k (by omega) (by omega))).below hbe
            have HB4 := Lib.hid b4
            have hc1 : ∀ W, Bld W3.heap.size wm.heap.size (w.heap.size + 1) (Pg.slotsL 512 rs) W → Calls Tryz.prog 45 #[.pointer (some ⟨w.heap.size + 1, 0, none⟩)] W fun e w' => e = .returned (.string S) ∧ KeptR W3.heap.size wm.heap.size W w' := fun W h => by
              rw [hS]; exact string_any _ _ _ _ W h
            have hc2 : ∀ W, Bld wm.heap.size wd.heap.size (w.heap.size + 1 + 1) (Pg.bodyL rs) W → Calls Tryz.prog 45 #[.pointer (some ⟨w.heap.size + 1 + 1, 0, none⟩)] W fun e w' => e = .returned (.string B) ∧ KeptR wm.heap.size wd.heap.size W w' := fun W h => by
              rw [hB]; exact string_any _ _ _ _ W h
            have hc3 : ∀ W, Calls Tryz.prog 46 #[.string ⟨#[0]⟩, .int .i64 (room : Int)] W fun e w' => e = .returned (.string R) ∧ Below W.heap.size W w' := fun W => by
              rw [hR]; exact Tryz.strings_Repeat ⟨#[0]⟩ room W (by omega) (by show 1 * room ≤ _; omega)
            have HC1 := Lib.hid hc1
            have HC2' := Lib.hid hc2
            have HC3 := Lib.hid hc3
            have HF := Lib.hid hF
            have HS := Lib.hid hS
            have HB' := Lib.hid hB
            have HRl := Lib.hid hRl
            have HRm := Lib.hid hroom
            rw [hri]
            clear hc1 hc2 hc3 hF hS hB hRl hR hri hroom b4 z1 z2 z3 z4 z5 z6 z7 d0 d1 d2 d3
            have HB5 := Lib.hid (show ∀ W V, KeptR W3.heap.size wm.heap.size wc W → Below W.heap.size W V → Bld wm.heap.size wd.heap.size (w.heap.size + 1 + 1) (Pg.bodyL rs) V from fun W V k1 k2 =>
              ((HD5.out.below hbe).kept (fun k hk hor => k1.block k (by have := hbe.size; omega) (by omega))).below k2)
            go_wp2_with (first | (go_at_call 45; (with_reducible refine (HC1.out _ ?_).mono ?_); (exact HB4.out); rintro e w1 ⟨rfl, hk1⟩) | (go_at_call 46; refine (HC3.out _).mono ?_; rintro e w2 ⟨rfl, hk2⟩) | (go_at_call 45; (with_reducible refine (HC2'.out _ ?_).mono ?_); (exact HB5.out _ _ hk1 hk2); rintro e w3 ⟨rfl, hk3⟩))
            go_ret
            refine ⟨ret_str ?_, ?_⟩
            · rw [HL.out, Pg.layR, if_neg HFIT.out]
              apply ByteArray.ext
              have e1 : F.data.toList = Pg.headL x rs.length (512 - Pg.sumSizes rs) := by
                rw [HF.out, Pg.headL]
                simp only [ByteArray.data_append, Array.toList_append]
                have q1 : (Oct.putB 0 4).data.toList = Oct.putL 0 4 := Oct.putB_list 0 4 (by omega)
                have q4 : (Oct.putB 0 1).data.toList = Oct.putL 0 1 := Oct.putB_list 0 1 (by omega)
                obtain ⟨y1, y2, y3⟩ := HXS.out
                have q2 : (Oct.putB x.lsn 6).data.toList = Oct.putL x.lsn 6 := (Oct.putB_list x.lsn 6 (by omega)).trans (by rw [Oct.word_nat _ (by omega)])
                have q3 : (Oct.putB x.kind 1).data.toList = Oct.putL x.kind 1 := (Oct.putB_list x.kind 1 (by omega)).trans (by rw [Oct.word_nat _ (by omega)])
                have q5 : (Oct.putB x.link 3).data.toList = Oct.putL x.link 3 := (Oct.putB_list x.link 3 (by omega)).trans (by rw [Oct.word_nat _ (by omega)])
                have q6 : (Oct.putB rs.length 2).data.toList = Oct.putL rs.length 2 := (Oct.putB_list rs.length 2 (by omega)).trans (by rw [Oct.word_nat _ (by omega)])
                have q7 : (Oct.putB at_ 2).data.toList = Oct.putL (512 - Pg.sumSizes rs) 2 := (Oct.putB_list at_ 2 (by omega)).trans (by rw [Oct.word_nat _ (by have := HAT.out; omega), HAT.out])
                rw [q1, q2, q3, q4, q5, q6, q7]
              have e2 : S.data.toList = Pg.slotsL 512 rs := by rw [HS.out]
              have e3 : B.data.toList = Pg.bodyL rs := by rw [HB'.out]
              apply Array.toList_inj.1
              simp only [ByteArray.data_append, Array.toList_append, e1, e2, e3, HRl.out, HRm.out]
            · exact (((((HB3.out.trans (HK.out.below (by omega) (by omega))).trans (HK5.out.below (by omega) (by omega))).trans (hbe.mono (by omega))).trans (hk1.below (by omega) (by omega))).trans (hk2.mono (by have := hk1.size; omega))).trans (hk3.below (by omega) (by have := hk1.size; have := hk2.size; omega))
end Go.Proofs.YtkndifannjpbcaaGreatDoor
/- The walks over the reference of chapter 37: the bytes of a page's parts. -/
namespace Go.Proofs.YtkndifannjpbcaaGreatDoor
open Go.RowKit

theorem rput_S (S : World → Prop) (hst : ∀ u v, S u → Below u.heap.size u v → S v) (n size : Int) (h0 : 0 ≤ size) (h8 : size ≤ 8) (w : World) (h : S w) :
    Calls Tryz.prog 76 #[.int .i64 n, .int .i64 size] w fun e w' => e = .returned (.string (Oct.putB n size)) ∧ S w' := by
  refine (rput_any n size h0 h8 w).mono ?_
  rintro e w' ⟨rfl, hb⟩
  exact ⟨rfl, hst _ _ h hb⟩

theorem rtrimmed_any (A : Option Addr) (c : Nat) (rs : List ByteArray) (hl : rs.length ≤ 1099511627776) (w : World) (h : Cells w A c rs) :
    Calls Tryz.prog 75 #[.slice A rs.length c] w fun e w' => e = .returned (.slice A (Pg.trimN rs rs.length) c) ∧ w = w' := by
  have HC := Lib.hid h
  clear h
  go_enter Tryz.func75, Tryz.ntmps75
  go_wp2_with fail
  go_loop [0] (fun v => ∃ m : Nat, m ≤ rs.length ∧ Pg.trimN rs m = Pg.trimN rs rs.length ∧ v = .slice A m c) (fun v => match v with | .slice _ m _ => m | _ => 0)
  case atStart => exact ⟨rs.length, Nat.le_refl _, rfl, rfl⟩
  case round =>
    obtain ⟨m, hm, ht, rfl⟩ := hrel
    have HT := Lib.hid ht
    clear ht
    by_cases h0 : m = 0
    · subst h0
      go_wp2_with fail
      go_ret
      exact ⟨by rw [← HT.out]; rfl, rfl⟩
    · obtain ⟨b, off, rfl, hc, hbl, hcell⟩ := HC.out.at_ (k := m - 1) (by omega)
      obtain ⟨m, rfl⟩ : ∃ n, m = n + 1 := ⟨m - 1, by omega⟩
      simp only [Nat.add_sub_cancel] at hcell
      have hie := empty_iff rs[m]
      have HR := Lib.hid (show rs[m]?.getD ⟨#[]⟩ = rs[m] by simp [show m < rs.length by omega])
      generalize hr : rs[m] = r at hcell hie HR
      clear hr
      by_cases he : r.size = 0
      · have hie2 : r.toList.isEmpty = true := by rw [hie]; exact decide_eq_true he
        clear hie
        have HE := Lib.hid he
        clear he
        go_wp2_with fail
        go_round
        case rel => exact ⟨m, by omega, by rw [← HT.out, Pg.trimN, HR.out, if_pos HE.out], rfl⟩
        case measure => simp
      · have hie2 : r.toList.isEmpty = false := by rw [hie]; exact decide_eq_false he
        clear hie
        have HE := Lib.hid he
        clear he
        go_wp2_with fail
        go_ret
        exact ⟨by rw [← HT.out, Pg.trimN, HR.out, if_neg HE.out]; rfl, rfl⟩

/-- The box of the reference's parts. -/
theorem rfits_any (x : Pg.Leaf) (A : Option Addr) (c : Nat) (rs : List ByteArray) (hb : Pg.sizeN rs ≤ 1099511627776) (w : World) (h : Cells w A c rs) :
    Calls Tryz.prog 74 #[.agg #[.int .i64 x.lsn, .int .i64 x.kind, .int .i64 x.link, .slice A rs.length c]] w fun e w' => e = .returned (.bool (decide (Pg.sizeN rs ≤ 512))) ∧ Below w.heap.size w w' := by
  unfold Pg.sizeN at hb
  have HC := Lib.hid h
  clear h
  go_enter Tryz.func74, Tryz.ntmps74
  go_wp2_with fail
  go_loop [3, 4] (fun n i => ∃ k : Nat, k ≤ rs.length ∧ i = .int .i64 k ∧ n = .int .i64 ((19 + 4 * rs.length + Pg.sumSizes (rs.take k) : Nat) : Int)) (fun _ i => rs.length - (intOf i).toNat)
  case atStart => exact ⟨0, Nat.zero_le _, rfl, by simp [Pg.sumSizes]⟩
  case round =>
    obtain ⟨k, hk, rfl, rfl⟩ := hrel
    have hle := Pg.sumSizes_take_le rs k
    by_cases hlt : k < rs.length
    · obtain ⟨b, off, rfl, hc, hbl, hcell⟩ := HC.out.at_ hlt
      have HS := Lib.hid (Pg.sumSizes_snoc rs k hlt)
      have hle2 := Pg.sumSizes_take_le rs (k + 1)
      have hsz : Pg.sumSizes (rs.take k) + rs[k].size ≤ Pg.sumSizes rs := by rw [← HS.out]; exact hle2
      have hcc : (World.cell? (w.alloc (.cells #[.int .i64 x.lsn, .int .i64 x.kind, .int .i64 x.link, .slice (some ⟨b, off, none⟩) rs.length c] 49)) ⟨b, off + k, none⟩) = some (.string rs[k]) := by
        rw [World.cell?_alloc_lt _ _ _ hbl]; exact hcell
      clear hle2
      generalize hr : rs[k] = r at hcell hsz hcc
      have HR := Lib.hid hr
      clear hr
      go_wp2_with fail
      go_round
      case rel => exact ⟨k + 1, by omega, by go_num, by rw [HS.out, HR.out]; go_num⟩
      case measure => simp [intOf]; omega
    · obtain rfl : k = rs.length := by omega
      go_wp2_with fail
      go_ret
      exact ⟨congrArg (fun b => Ending.returned (.bool b)) (by unfold Pg.sizeN; rw [decide_eq_decide]; omega), (Below.refl _ _).alloc (Nat.le_refl _) _⟩

theorem rfits_is (x : Pg.Leaf) (A : Option Addr) (c : Nat) (rs : List ByteArray) (hb : Pg.sizeN rs ≤ 1099511627776) (b : Bool) (hd : decide (Pg.sizeN rs ≤ 512) = b) (w : World) (h : Cells w A c rs) :
    Calls Tryz.prog 74 #[.agg #[.int .i64 x.lsn, .int .i64 x.kind, .int .i64 x.link, .slice A rs.length c]] w fun e w' => e = .returned (.bool b) ∧ Below w.heap.size w w' := by
  subst hd; exact rfits_any x A c rs hb w h

/-- A slice cut at its end reads as the first texts. -/
theorem Cells.take {w : World} {A : Option Addr} {c : Nat} {rs : List ByteArray} (h : Cells w A c rs) (m : Nat) (hm : m ≤ rs.length) : Cells w A c (rs.take m) := fun h0 => by
  rw [List.length_take] at h0
  obtain ⟨b, off, hA, hc, hlt, hcell⟩ := h (by omega)
  refine ⟨b, off, hA, by rw [List.length_take]; omega, hlt, fun j hj => ?_⟩
  rw [List.getElem_take]; exact hcell j (by rw [List.length_take] at hj; omega)

theorem make_zeros (n : Nat) (hn : n ≤ 4096) (W : World) : (Instr.makeSlice 54 (.int .i64 (n : Int)) (.int .i64 (n : Int))).run Tryz.prog W = .ok (.slice (some ⟨W.heap.size, 0, none⟩) n n) (W.alloc (.cells (madeCells #[Value.int .u8 0] n) 5)) := by
  obtain ⟨i0, hi, hz0, hz1, hz2⟩ := info_parts Tryz.elem8
  have h := run_make (P := Tryz.prog) W 54 5 i0 (.int .u8 0) Tryz.underlying54 hi hz0 .i64 .i64 n n (by omega) (by omega) (by rw [hz2]; omega) (by omega)
  rw [hz1, Int.toNat_natCast, Nat.mul_one] at h
  exact h
theorem zeros_back (n : Nat) (W : World) : (convert 54 9 (.slice (some ⟨W.heap.size, 0, none⟩) n n)).run Tryz.prog (W.alloc (.cells (madeCells #[Value.int .u8 0] n) 5)) = .ok (.string ⟨(List.replicate n 0).toArray⟩) (W.alloc (.cells (madeCells #[Value.int .u8 0] n) 5)) := by
  have h := run_convert_bytes_back (P := Tryz.prog) (W.alloc (.cells (madeCells #[Value.int .u8 0] n) 5)) 54 9 5 ⟨W.heap.size, 0, none⟩ n (List.replicate n 0) Tryz.underlying54 Tryz.underlying5 Tryz.underlying9 (fun j hj => by
    have hj' : j < n := by simpa using hj
    have ha : (⟨W.heap.size, 0, none⟩ : Addr).add j = ⟨W.heap.size, j, none⟩ := by
      unfold Addr.add; split
      · rename_i h; rw [h]
      · simp
    rw [ha, World.cell?_alloc_new]
    simp [madeCells, hj', Nat.mod_one])
  rw [List.length_replicate] at h
  exact h

set_option maxRecDepth 100000 in
set_option maxHeartbeats 2000000 in
theorem rlay_any (x : Pg.Leaf) (A : Option Addr) (c : Nat) (hx : Pg.Small x) (hb : Pg.sizeN x.recs ≤ 1099511627776) (w : World) (h : Cells w A c x.recs) :
    Calls Tryz.prog 63 #[.agg #[.int .i64 x.lsn, .int .i64 x.kind, .int .i64 x.link, .slice A x.recs.length c]] w fun e w' => e = .returned (.string ⟨(Pg.layL x).toArray⟩) ∧ Below w.heap.size w w' := by
  have HXS := Lib.hid hx
  clear hx
  have hbn : x.recs.length ≤ 1099511627776 := by unfold Pg.sizeN at hb; omega
  have hm := Pg.trimN_le x.recs x.recs.length
  have HL := Lib.hid (show Pg.layL x = Pg.layR x (x.recs.take (Pg.trimN x.recs x.recs.length)) from rfl)
  have HC := Lib.hid (h.take _ hm)
  have HA := Lib.hid h
  have hsz : Pg.sizeN (x.recs.take (Pg.trimN x.recs x.recs.length)) ≤ 1099511627776 := by
    have := Pg.sumSizes_take_le x.recs (Pg.trimN x.recs x.recs.length)
    unfold Pg.sizeN at *
    rw [List.length_take]; omega
  have hlen : (x.recs.take (Pg.trimN x.recs x.recs.length)).length = Pg.trimN x.recs x.recs.length := by rw [List.length_take]; omega
  have HT := Lib.hid (fun W hW => rtrimmed_any A c x.recs hbn W hW)
  rw [← hlen] at HT
  generalize x.recs.take (Pg.trimN x.recs x.recs.length) = rs at HL HC hsz hlen HT
  clear h hb hm hlen
  by_cases hfit : 512 < Pg.sizeN rs
  · have HFi := Lib.hid (rfits_is x A c rs hsz false (decide_eq_false (by omega)))
    go_enter Tryz.func63, Tryz.ntmps63
    go_wp2_with (first | (go_at_call 75; refine (HT.out _ (HA.out.below ((Below.refl _ _).alloc (Nat.le_refl _) _))).mono ?_; rintro e w' ⟨rfl, rfl⟩) | (go_at_call 74; refine (HFi.out _ (HC.out.below ((Below.refl _ _).alloc (Nat.le_refl _) _))).mono ?_; rintro e w1 ⟨rfl, hb1⟩))
    go_ret
    exact ⟨ret_str (by rw [HL.out, Pg.layR, if_pos hfit]), ((Below.refl _ _).alloc (Nat.le_refl _) _).trans (hb1.mono (by simp))⟩
  · have HFi := Lib.hid (rfits_is x A c rs hsz true (decide_eq_true (by omega)))
    go_enter Tryz.func63, Tryz.ntmps63
    go_upto_block 0 with (first | (go_at_call 75; refine (HT.out _ (HA.out.below ((Below.refl _ _).alloc (Nat.le_refl _) _))).mono ?_; rintro e w' ⟨rfl, rfl⟩) | (go_at_call 74; refine (HFi.out _ (HC.out.below ((Below.refl _ _).alloc (Nat.le_refl _) _))).mono ?_; rintro e w1 ⟨rfl, hb1⟩))
    have hs512 : Pg.sumSizes rs ≤ 512 := by unfold Pg.sizeN at hfit; omega
    have hn123 : rs.length ≤ 512 := by unfold Pg.sizeN at hfit; omega
    have hX : w.heap.size < w1.heap.size := by have := hb1.size; simp at this; omega
    have hw1 : Below w.heap.size w w1 := ((Below.refl _ _).alloc (Nat.le_refl _) _).trans (hb1.mono (by simp))
    have hx1 : w1.heap[w.heap.size]? = some (.cells #[.int .i64 x.lsn, .int .i64 x.kind, .int .i64 x.link, .slice A rs.length c] 49 (0, 0)) := by
      rw [hb1.block _ (by simp)]
      exact heap_alloc_new w _
    have HW1 := Lib.hid hw1
    have HX1 := Lib.hid hx1
    have HFIT := Lib.hid hfit
    clear hb1 hw1 hx1 hfit
    go_cut [3, 4, 5] (fun s3 s4 s5 wc => s3 = .int .i64 ((512 - Pg.sumSizes rs : Nat) : Int) ∧ s4 = .string ⟨(Pg.slotsL 512 rs).toArray⟩ ∧ s5 = .string ⟨(Pg.bodyL rs).toArray⟩ ∧ Below w1.heap.size w1 wc)
    case first =>
      go_wp2_with fail
      go_loopw [3, 4, 5, 6] (fun s3 s4 s5 i wr => ∃ (k a : Nat) (S B : ByteArray), k ≤ rs.length ∧ i = .int .i64 k ∧ s3 = .int .i64 (a : Int) ∧ a = 512 - Pg.sumSizes (rs.take k) ∧ s4 = .string S ∧ S.data.toList = Pg.slotsL 512 (rs.take k) ∧ s5 = .string B ∧ B.data.toList = Pg.bodyL (rs.take k) ∧ Below w1.heap.size w1 wr) (fun _ _ _ i _ => rs.length - (intOf i).toNat)
      case atStart => exact ⟨0, 512, ⟨#[]⟩, ⟨#[]⟩, Nat.zero_le _, rfl, rfl, by simp [Pg.sumSizes], rfl, rfl, rfl, rfl, Below.refl _ _⟩
      case round =>
        obtain ⟨k, a, S, B, hk, rfl, rfl, ha, rfl, hS, rfl, hB, hbw⟩ := hrel
        have d3 : wr.cell? ⟨w.heap.size, 3, none⟩ = some (.slice A rs.length c) := by
          have : wr.heap[w.heap.size]? = _ := (hbw.block _ hX).trans HX1.out
          rw [cell_of_blk this]; rfl
        have ha512 : a ≤ 512 := by omega
        have hSs : S.size ≤ 4096 := by
          have h1 : S.data.toList.length = S.size := by simp
          rw [hS, Pg.slotsL_length, List.length_take] at h1; omega
        have hBs : B.size ≤ 512 := by
          have h1 : B.data.toList.length = B.size := by simp
          have := Pg.sumSizes_take_le rs k
          rw [hB, Pg.bodyL_length] at h1; omega
        have HA3 := Lib.hid ha
        have HS := Lib.hid hS
        have HB := Lib.hid hB
        have hbs := hbw.size
        clear ha hS hB
        by_cases hlt : k < rs.length
        · obtain ⟨b, off, rfl, hc, hbl, hcell⟩ := HC.out.at_ hlt
          have hcw : wr.cell? ⟨b, off + k, none⟩ = some (.string rs[k]) := by
            rw [hbw.cell (p := ⟨b, off + k, none⟩) (by show b < _; omega), HW1.out.cell (p := ⟨b, off + k, none⟩) hbl]; exact hcell
          have HSS := Lib.hid (Pg.sumSizes_snoc rs k hlt)
          have HSL := Lib.hid (Pg.slotsL_snoc rs k hlt)
          have HBL := Lib.hid (Pg.bodyL_snoc rs k hlt)
          have hra : rs[k].size ≤ a := by
            have := Pg.sumSizes_take_le rs (k + 1)
            have := HSS.out
            have := HA3.out
            omega
          have hie := empty_iff rs[k]
          clear hcell
          generalize hr : rs[k] = r at hcw hie HSS HSL HBL hra
          clear hr
          by_cases he : r.size = 0
          · have hie2 : r.toList.isEmpty = true := by rw [hie]; exact decide_eq_true he
            clear hie
            have HE := Lib.hid he
            clear he
            have z0 : (Oct.putB 0 4).size = 4 := Oct.putB_size 0 4 (by omega)
            go_wp2_with (go_at_call 76; refine (rput_any _ _ (by omega) (by omega) _).mono ?_; rintro e w2 ⟨rfl, hb2⟩)
            go_roundw
            case rel => exact ⟨k + 1, a, _, B, by omega, by go_num, rfl, by rw [HSS.out, HE.out]; exact HA3.out, rfl, by
              rw [HSL.out, Pg.slotL, if_pos HE.out, ByteArray.data_append, Array.toList_append, HS.out, show (Oct.putB 0 4).data.toList = Oct.putL 0 4 from Oct.putB_list 0 4 (by omega)], rfl, by
              rw [HBL.out, HB.out, show r.data.toList = [] from List.eq_nil_of_length_eq_zero (by have h9 : r.data.toList.length = r.size := (by simp); rw [h9]; exact HE.out)]; rfl, andThen hbw hb2⟩
            case measure => simp [intOf]; omega
          · have hie2 : r.toList.isEmpty = false := by rw [hie]; exact decide_eq_false he
            clear hie
            have HE := Lib.hid he
            clear he
            obtain ⟨a2, ha2⟩ : ∃ a2 : Nat, a2 = a - r.size := ⟨_, rfl⟩
            have ha2i : (a : Int) - (r.size : Int) = (a2 : Int) := by omega
            have hst : ∀ u v : World, (u.cell? ⟨w.heap.size, 3, none⟩ = some (.slice (some ⟨b, off, none⟩) rs.length c) ∧ u.cell? ⟨b, off + k, none⟩ = some (.string r) ∧ Below w1.heap.size w1 u) → Below u.heap.size u v → (v.cell? ⟨w.heap.size, 3, none⟩ = some (.slice (some ⟨b, off, none⟩) rs.length c) ∧ v.cell? ⟨b, off + k, none⟩ = some (.string r) ∧ Below w1.heap.size w1 v) := fun u v ⟨c1, c2, c3⟩ hb => by
              have := c3.size
              refine ⟨?_, ?_, andThen c3 hb⟩
              · rw [hb.cell (p := ⟨w.heap.size, 3, none⟩) (by show w.heap.size < _; omega)]; exact c1
              · rw [hb.cell (p := ⟨b, off + k, none⟩) (by show b < _; omega)]; exact c2
            have HST := Lib.hid hst
            have hk0 : (0 : Int) ≤ (k : Int) := by omega
            have hk1 : (k : Int) < (rs.length : Int) := by omega
            have z1 : (Oct.putB a2 2).size = 2 := Oct.putB_size a2 2 (by omega)
            have z2 : (Oct.putB r.size 2).size = 2 := Oct.putB_size r.size 2 (by omega)
            have HR2 := Lib.hid ha2
            have hadd : ∀ W : World, (Op.stringOp .add S (Oct.putB a2 2 ++ Oct.putB r.size 2)).run Tryz.prog W = .ok (.string (S ++ (Oct.putB a2 2 ++ Oct.putB r.size 2))) W := fun W => run_string_add_sum W _ _ (by rw [ByteArray.size_append, z1, z2]; omega)
            have hr512 : r.size ≤ 512 := by omega
            clear hst ha2
            go_upto_region 12 with (fail)
            clear ha2i
            go_region_held3 (fun w' => w'.cell? ⟨w.heap.size, 3, none⟩ = some (.slice (some ⟨b, off, none⟩) rs.length c) ∧ w'.cell? ⟨b, off + k, none⟩ = some (.string r) ∧ Below w1.heap.size w1 w') (first | assumption | exact ⟨d3, hcw, hbw.drew⟩ | go_keep) (first | (go_at_call 76; refine (rput_S _ HST.out _ _ (by omega) (by omega) _ (by assumption)).mono ?_; rintro e w2 ⟨rfl, hSS⟩))
            obtain ⟨e1, e2, hb2⟩ := hSS
            go_wp2_with fail
            go_roundw
            case rel =>
              refine ⟨k + 1, a2, _, _, by omega, by go_num, rfl, ?_, rfl, ?_, rfl, ?_, hb2⟩
              · rw [HSS.out, HR2.out, HA3.out]; omega
              · have q1 : (Oct.putB a2 2).data.toList = Oct.putL a2 2 := (Oct.putB_list a2 2 (by omega)).trans (by rw [Oct.word_nat _ (by have := HR2.out; omega)])
                have q2 : (Oct.putB r.size 2).data.toList = Oct.putL r.size 2 := (Oct.putB_list r.size 2 (by omega)).trans (by rw [Oct.word_nat _ (by omega)])
                simp only [ByteArray.data_append, Array.toList_append]
                rw [HSL.out, Pg.slotL, if_neg HE.out, HS.out, ← HA3.out, q1, q2, HR2.out]
              · simp only [ByteArray.data_append, Array.toList_append]
                rw [HBL.out, HB.out]
            case measure => simp [intOf]; omega
        · obtain rfl : k = rs.length := by omega
          have HT2 := Lib.hid (List.take_length (l := rs))
          go_wp2_with fail
          go_meet
          case rel =>
            have h1 := HS.out
            have h2 := HB.out
            rw [HT2.out] at h1 h2
            exact ⟨by rw [HA3.out, HT2.out], by rw [← h1], by rw [← h2], hbw⟩
    case rest =>
      obtain ⟨rfl, rfl, rfl, hbw⟩ := hcut
      obtain ⟨wd, rfl⟩ : ∃ wd : World, wd = wc := ⟨_, rfl⟩
      obtain ⟨S, hS⟩ : ∃ S : ByteArray, S = ⟨(Pg.slotsL 512 rs).toArray⟩ := ⟨_, rfl⟩
      obtain ⟨B, hB⟩ : ∃ B : ByteArray, B = ⟨(Pg.bodyL rs).toArray⟩ := ⟨_, rfl⟩
      obtain ⟨at_, hat⟩ : ∃ a : Nat, a = 512 - Pg.sumSizes rs := ⟨_, rfl⟩
      rw [← hS, ← hB, ← hat]
      have hSs : S.size = 4 * rs.length := by rw [hS]; show (Pg.slotsL 512 rs).toArray.size = _; simp [Pg.slotsL_length]
      have hBs : B.size ≤ 4096 := by rw [hB]; show (Pg.bodyL rs).toArray.size ≤ _; simp [Pg.bodyL_length]; omega
      have hx : wd.heap[w.heap.size]? = some (.cells #[.int .i64 x.lsn, .int .i64 x.kind, .int .i64 x.link, .slice A rs.length c] 49 (0, 0)) := (hbw.block _ hX).trans HX1.out
      have d0 : wd.cell? ⟨w.heap.size, 0, none⟩ = some (.int .i64 x.lsn) := by rw [cell_of_blk hx]; rfl
      have d1 : wd.cell? ⟨w.heap.size, 1, none⟩ = some (.int .i64 x.kind) := by rw [cell_of_blk hx]; rfl
      have d2 : wd.cell? ⟨w.heap.size, 2, none⟩ = some (.int .i64 x.link) := by rw [cell_of_blk hx]; rfl
      have d3 : wd.cell? ⟨w.heap.size, 3, none⟩ = some (.slice A rs.length c) := by rw [cell_of_blk hx]; rfl
      have hst : ∀ u v : World, (u.cell? ⟨w.heap.size, 0, none⟩ = some (.int .i64 x.lsn) ∧ u.cell? ⟨w.heap.size, 1, none⟩ = some (.int .i64 x.kind) ∧ u.cell? ⟨w.heap.size, 2, none⟩ = some (.int .i64 x.link) ∧ u.cell? ⟨w.heap.size, 3, none⟩ = some (.slice A rs.length c) ∧ Below w1.heap.size w1 u) → Below u.heap.size u v → (v.cell? ⟨w.heap.size, 0, none⟩ = some (.int .i64 x.lsn) ∧ v.cell? ⟨w.heap.size, 1, none⟩ = some (.int .i64 x.kind) ∧ v.cell? ⟨w.heap.size, 2, none⟩ = some (.int .i64 x.link) ∧ v.cell? ⟨w.heap.size, 3, none⟩ = some (.slice A rs.length c) ∧ Below w1.heap.size w1 v) := fun u v ⟨c0, c1, c2, c3, c4⟩ hb => by
        have := c4.size
        refine ⟨?_, ?_, ?_, ?_, andThen c4 hb⟩
        · rw [hb.cell (p := ⟨w.heap.size, 0, none⟩) (by show w.heap.size < _; omega)]; exact c0
        · rw [hb.cell (p := ⟨w.heap.size, 1, none⟩) (by show w.heap.size < _; omega)]; exact c1
        · rw [hb.cell (p := ⟨w.heap.size, 2, none⟩) (by show w.heap.size < _; omega)]; exact c2
        · rw [hb.cell (p := ⟨w.heap.size, 3, none⟩) (by show w.heap.size < _; omega)]; exact c3
      have HST := Lib.hid hst
      have z1 : (Oct.putB 0 4).size = 4 := Oct.putB_size 0 4 (by omega)
      have z2 : (Oct.putB x.lsn 6).size = 6 := Oct.putB_size x.lsn 6 (by omega)
      have z3 : (Oct.putB x.kind 1).size = 1 := Oct.putB_size x.kind 1 (by omega)
      have z4 : (Oct.putB 0 1).size = 1 := Oct.putB_size 0 1 (by omega)
      have z5 : (Oct.putB x.link 3).size = 3 := Oct.putB_size x.link 3 (by omega)
      have z6 : (Oct.putB rs.length 2).size = 2 := Oct.putB_size rs.length 2 (by omega)
      have z7 : (Oct.putB at_ 2).size = 2 := Oct.putB_size at_ 2 (by omega)
      have HS := Lib.hid hS
      have HB := Lib.hid hB
      have HAT := Lib.hid hat
      have HSs := Lib.hid hSs
      have hSs2 : S.size ≤ 4096 := by omega
      clear hS hB hat hst hx hSs
      go_upto_region 14 with (fail)
      go_cut [7] (fun s7 we => s7 = .string (Oct.putB 0 4 ++ Oct.putB x.lsn 6 ++ Oct.putB x.kind 1 ++ Oct.putB 0 1 ++ Oct.putB x.link 3 ++ Oct.putB rs.length 2 ++ Oct.putB at_ 2) ∧ Below w1.heap.size w1 we)
      case first =>
        go_region_held3 (fun w' => w'.cell? ⟨w.heap.size, 0, none⟩ = some (.int .i64 x.lsn) ∧ w'.cell? ⟨w.heap.size, 1, none⟩ = some (.int .i64 x.kind) ∧ w'.cell? ⟨w.heap.size, 2, none⟩ = some (.int .i64 x.link) ∧ w'.cell? ⟨w.heap.size, 3, none⟩ = some (.slice A rs.length c) ∧ Below w1.heap.size w1 w') (first | assumption | exact ⟨d0, d1, d2, d3, hbw.drew⟩ | go_keep) (first | (go_at_call 76; refine (rput_S _ HST.out _ _ (by omega) (by omega) _ (by assumption)).mono ?_; rintro e w2 ⟨rfl, hSS⟩))
        go_wp2_with fail
        go_meet
        case rel => exact ⟨rfl, hSS.2.2.2.2⟩
      case rest =>
        obtain ⟨rfl, hbe⟩ := hcut
        obtain ⟨F, hF⟩ : ∃ F : ByteArray, F = Oct.putB 0 4 ++ Oct.putB x.lsn 6 ++ Oct.putB x.kind 1 ++ Oct.putB 0 1 ++ Oct.putB x.link 3 ++ Oct.putB rs.length 2 ++ Oct.putB at_ 2 := ⟨_, rfl⟩
        have hFs : F.size = 19 := by rw [hF]; simp only [ByteArray.size_append, z1, z2, z3, z4, z5, z6, z7]
        rw [← hF]
        have hfit := HFIT.out
        obtain ⟨room, hroom⟩ : ∃ room : Nat, room = 512 - Pg.sizeN rs := ⟨_, rfl⟩
        have hri : (at_ : Int) - 19 - (S.size : Int) = (room : Int) := by
          have h1 := HAT.out
          have h2 := HSs.out
          unfold Pg.sizeN at hroom hfit
          omega
        have hr512 : room ≤ 512 := by omega
        have hat2 : at_ ≤ 512 := by have := HAT.out; omega
        have hmk := make_zeros room (by omega)
        have hcv := zeros_back room
        obtain ⟨R, hR⟩ : ∃ R : ByteArray, R = ⟨(List.replicate room 0).toArray⟩ := ⟨_, rfl⟩
        rw [← hR] at hcv
        have hRs : R.size = room := by rw [hR]; show (List.replicate room (0 : UInt8)).toArray.size = _; simp
        have hRs2 : R.size ≤ 512 := by omega
        have HF := Lib.hid hF
        have HR := Lib.hid hR
        have HRM := Lib.hid hroom
        clear hF hR hroom hfit hRs z1 z2 z3 z4 z5 z6 z7 d0 d1 d2 d3 hbw
        go_wp2_with fail
        go_ret
        refine ⟨ret_str ?_, HW1.out.trans ((hbe.mono (by omega)).trans ((Below.refl _ _).alloc (by have := hbe.size; omega) _))⟩
        rw [HL.out, Pg.layR, if_neg HFIT.out]
        apply ByteArray.ext
        have e1 : F.data.toList = Pg.headL x rs.length (512 - Pg.sumSizes rs) := by
          rw [HF.out, Pg.headL]
          simp only [ByteArray.data_append, Array.toList_append]
          obtain ⟨y1, y2, y3⟩ := HXS.out
          have q1 : (Oct.putB 0 4).data.toList = Oct.putL 0 4 := Oct.putB_list 0 4 (by omega)
          have q4 : (Oct.putB 0 1).data.toList = Oct.putL 0 1 := Oct.putB_list 0 1 (by omega)
          have q2 : (Oct.putB x.lsn 6).data.toList = Oct.putL x.lsn 6 := (Oct.putB_list x.lsn 6 (by omega)).trans (by rw [Oct.word_nat _ (by omega)])
          have q3 : (Oct.putB x.kind 1).data.toList = Oct.putL x.kind 1 := (Oct.putB_list x.kind 1 (by omega)).trans (by rw [Oct.word_nat _ (by omega)])
          have q5 : (Oct.putB x.link 3).data.toList = Oct.putL x.link 3 := (Oct.putB_list x.link 3 (by omega)).trans (by rw [Oct.word_nat _ (by omega)])
          have q6 : (Oct.putB rs.length 2).data.toList = Oct.putL rs.length 2 := (Oct.putB_list rs.length 2 (by omega)).trans (by rw [Oct.word_nat _ (by omega)])
          have q7 : (Oct.putB at_ 2).data.toList = Oct.putL (512 - Pg.sumSizes rs) 2 := (Oct.putB_list at_ 2 (by omega)).trans (by rw [Oct.word_nat _ (by omega), HAT.out])
          rw [q1, q2, q3, q4, q5, q6, q7]
        have e2 : S.data.toList = Pg.slotsL 512 rs := by rw [HS.out]
        have e3 : B.data.toList = Pg.bodyL rs := by rw [HB.out]
        have e4 : R.data.toList = List.replicate (512 - Pg.sizeN rs) 0 := by rw [HR.out, HRM.out]
        apply Array.toList_inj.1
        simp only [ByteArray.data_append, Array.toList_append, e1, e2, e3, e4]
end Go.Proofs.YtkndifannjpbcaaGreatDoor
