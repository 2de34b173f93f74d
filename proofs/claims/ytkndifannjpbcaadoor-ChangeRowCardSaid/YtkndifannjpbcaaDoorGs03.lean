/- strings.Builder: what WriteString and String do, with a frame that keeps another builder's bytes. -/
import Derived.Test.YtkndifannjpbcaaDoorProg
import Derived.Test.YtkndifannjpbcaaDoorGs02
import Derived.WalkKit
import Derived.WalkSpells
import Derived.WalkLawsBesides
import Derived.Lib.Hide
import Derived.Lib.AppendStr
import Derived.RegionTactic
import Derived.BigRegion
import Derived.ChangeAlike
import Derived.Lib.UnsafeStr
import Derived.Lib.Builder
import Derived.Test.YtkndifannjpbcaaDoorGs01
import Derived.Deep.QuietTactic
import Derived.BigQuiet
import Derived.Deep.DeepCutAuto
import Derived.Deep.LoopGhost
import Derived.Deep.RegionHeld3
import Derived.Deep.AppendLies
import Derived.Laws.ResultCell
import Derived.Laws.Tables
namespace Go.Proofs.YtkndifannjpbcaaDoor
open Go.RowKit

/-- Block b is a builder that holds the bytes l; its row of bytes, if there is one, is block number B or later, and ahead of H. -/
def Bld (B H b : Nat) (l : List UInt8) (w : World) : Prop :=
  b < B ∧ ∃ p v, w.heap[b]? = some (.cells #[p, v] 52 (0, 0)) ∧ (p = .pointer none ∨ p = .pointer (some ⟨b, 0, none⟩)) ∧ w.ownsRow B 5 1 v l.length (Lib.byteCells l) ∧ (∀ g, v.ownBlock = some g → g < H)

/-- Only block b, and the blocks from B on, may have turned. -/
structure KeptB (B b : Nat) (w w' : World) : Prop where
  os : w'.os = w.os
  tape : w'.tape = w.tape
  output : w'.output = w.output
  size : w.heap.size ≤ w'.heap.size
  block : ∀ k, k < B → k ≠ b → w'.heap[k]? = w.heap[k]?

theorem KeptB.refl (B b : Nat) (w : World) : KeptB B b w w := ⟨rfl, rfl, rfl, Nat.le_refl _, fun _ _ _ => rfl⟩
theorem KeptB.trans {B b : Nat} {u v w : World} (h : KeptB B b u v) (k : KeptB B b v w) : KeptB B b u w :=
  ⟨k.os.trans h.os, k.tape.trans h.tape, k.output.trans h.output, Nat.le_trans h.size k.size, fun i hi hb => (k.block i hi hb).trans (h.block i hi hb)⟩
theorem KeptB.of_below {B b : Nat} {u v : World} (hB : B ≤ u.heap.size) (h : Below u.heap.size u v) : KeptB B b u v :=
  ⟨h.os, h.tape, h.output, h.size, fun i hi _ => h.block i (by omega)⟩
theorem KeptB.below {B b lo : Nat} {u v : World} (h : KeptB B b u v) (h1 : lo ≤ B) (h2 : lo ≤ b) : Below lo u v :=
  ⟨h.os, h.tape, h.output, h.size, fun i hi => h.block i (by omega) (by omega)⟩
theorem copyCheck_fresh (b : Nat) (w : World) (h0 : w.cell? ⟨b, 0, none⟩ = some (.pointer none)) (hsh : w.shape? b = some (52, 2)) (hfz : w.frozen? ⟨b, 0, none⟩ = false) :
    Calls Tryd.prog 41 #[.pointer (some ⟨b, 0, none⟩)] w fun e w' => e = .returned (.tuple #[]) ∧ w' = w.setCell ⟨b, 0, none⟩ (.pointer (some ⟨b, 0, none⟩)) :=
  Any.Builder_copyCheck_fresh (ρ := Tryd.lays105_ren) { Tryd.lays105 with } Tryd.Builder_Extra_105.toX72 b w h0 hsh hfz
theorem copyCheck_used (b : Nat) (w : World) (h0 : w.cell? ⟨b, 0, none⟩ = some (.pointer (some ⟨b, 0, none⟩))) :
    Calls Tryd.prog 41 #[.pointer (some ⟨b, 0, none⟩)] w fun e w' => e = .returned (.tuple #[]) ∧ w' = w :=
  Any.Builder_copyCheck_used (ρ := Tryd.lays105_ren) { Tryd.lays105 with } Tryd.Builder_Extra_105.toX72 b w h0

theorem cell_of_blk {w : World} {g : Nat} {cs : Array Value} {t : TypeId} {fr : Nat × Nat} (h : w.heap[g]? = some (.cells cs t fr)) (i : Nat) : w.cell? ⟨g, i, none⟩ = cs[i]? := by simp [World.cell?, h]

theorem heap_set (w : World) (b i : Nat) (p v u : Value) (T : TypeId) (h : w.heap[b]? = some (.cells #[p, v] T (0, 0))) : (w.setCell ⟨b, i, none⟩ u).heap[b]? = some (.cells (#[p, v].setIfInBounds i u) T (0, 0)) := by
  simp [World.setCell, Array.getElem?_modify, h]

theorem bld_size {B H b : Nat} {l : List UInt8} {w : World} (h : Bld B H b l w) : b < w.heap.size := by
  obtain ⟨_, p, v, hb, _⟩ := h
  rcases Nat.lt_or_ge b w.heap.size with h' | h'
  · exact h'
  · rw [Array.getElem?_eq_none h'] at hb; cases hb

theorem own_set {w : World} {B b i : Nat} {v u : Value} {n : Nat} {xs : List Value} (hbB : b < B) (h : w.ownsRow B 5 1 v n xs) : (w.setCell ⟨b, i, none⟩ u).ownsRow B 5 1 v n xs := by
  refine ⟨h.1, ?_⟩
  rcases h.2 with hz | ⟨g, cap, cur, hv, hg, hh, r⟩
  · exact .inl hz
  · exact .inr ⟨g, cap, cur, hv, hg, by rw [Below.heap_setCell _ _ _ _ (by show g ≠ b; omega)]; exact hh, r⟩

theorem copyCheck_any (B H b : Nat) (l : List UInt8) (w : World) (h : Bld B H b l w) :
    Calls Tryd.prog 41 #[.pointer (some ⟨b, 0, none⟩)] w fun e w' => e = .returned (.tuple #[]) ∧
      (b < B ∧ ∃ v, w'.heap[b]? = some (.cells #[.pointer (some ⟨b, 0, none⟩), v] 52 (0, 0)) ∧ w'.ownsRow B 5 1 v l.length (Lib.byteCells l) ∧ (∀ g, v.ownBlock = some g → g < H)) ∧ KeptB B b w w' ∧ w'.heap.size = w.heap.size := by
  obtain ⟨hbB, p, v, hb, hp, hown, hg⟩ := h
  rcases hp with rfl | rfl
  · refine (copyCheck_fresh b w (by rw [cell_of_blk hb]; rfl) (by simp [World.shape?, hb]) (by simp [World.frozen?, hb])).mono ?_
    rintro e w' ⟨rfl, rfl⟩
    refine ⟨rfl, ⟨hbB, v, heap_set w b 0 _ _ _ _ hb, own_set hbB hown, hg⟩, ⟨rfl, rfl, rfl, by simp [World.setCell], fun k _ hk => Below.heap_setCell _ _ _ _ hk⟩, by simp [World.setCell]⟩
  · refine (copyCheck_used b w (by rw [cell_of_blk hb]; rfl)).mono ?_
    rintro e w' ⟨rfl, rfl⟩
    exact ⟨rfl, ⟨hbB, v, hb, hown, hg⟩, ⟨rfl, rfl, rfl, Nat.le_refl _, fun _ _ _ => rfl⟩, rfl⟩

theorem cells_byte : Tryd.prog.cellsOf 5 = 1 := by kernel_rfl
theorem info_byte : (Tryd.prog.info? 5).map (fun i => (i.zero, i.size, i.bytes)) = some (some (.int .u8 0), 1, 1) := by kernel_rfl

set_option maxHeartbeats 1000000 in
theorem write_any (B H b : Nat) (l : List UInt8) (s : ByteArray) (w : World) (h : Bld B H b l w) (hlen : l.length + s.size ≤ 140737488355328) (hBw : B ≤ w.heap.size) :
    Calls Tryd.prog 29 #[.pointer (some ⟨b, 0, none⟩), .string s] w fun e w' => e = .returned (.tuple #[.int .i64 s.size, .nilIface]) ∧ Bld B w'.heap.size b (l ++ s.data.toList) w' ∧ KeptB B b w w' := by
  obtain ⟨i0, hi, hz0, hz1, hz2⟩ := info_parts info_byte
  have HC := Lib.hid (copyCheck_any B H b l w h)
  clear h
  go_enter Tryd.func29, Tryd.ntmps29
  go_wp2_with (go_at_call 41; refine HC.out.mono ?_)
  rintro e w1 ⟨rfl, ⟨hbB, v, hbk, hown, hg⟩, hk1, hs1⟩
  have c1 : w1.cell? ⟨b, 1, none⟩ = some v := by rw [cell_of_blk hbk]; rfl
  go_wp2_with (at_builtin; refine Lib.wpList_append_own_string _ rfl _ _ 50 9 rfl B 5 i0 Tryd.underlying50 Tryd.underlying9 hi hz0 hz1 hz2 _ _ _ rfl hown s rfl ?c3 ?c4 ?c5 ?_)
  case c3 => unfold maxLen; omega
  case c4 => omega
  case c5 => omega
  intro v' w2 hown' hgrow _
  have hlt : b < w1.heap.size := by
    rcases Nat.lt_or_ge b w1.heap.size with h' | h'
    · exact h'
    · rw [Array.getElem?_eq_none h'] at hbk; cases hbk
  have hne : v.ownBlock ≠ some b := fun e => by
    have := (hown.lt b e).1; omega
  have hb2 : w2.heap[b]? = some (.cells #[.pointer (some ⟨b, 0, none⟩), v] 52 (0, 0)) := by
    rw [hgrow.block b hlt (fun e => hne e.symm)]; exact hbk
  have d1 : w2.cell? ⟨b, 1, none⟩ = some v := by rw [cell_of_blk hb2]; rfl
  have f1 : w2.frozen? ⟨b, 1, none⟩ = false := by simp [World.frozen?, hb2]
  obtain ⟨ao, n', cap, rfl⟩ : ∃ ao n' cap, v' = .slice ao n' cap := by
    rcases hown'.2 with ⟨hv, _⟩ | ⟨g, cap, cur, hv, _⟩
    · exact ⟨_, _, _, hv⟩
    · exact ⟨_, _, _, hv⟩
  go_wp2_with fail
  go_ret2
  refine ⟨rfl, ?_, ?_⟩
  · have hbs : Lib.byteCells (l ++ s.data.toList) = Lib.byteCells l ++ Lib.strCells s := by
      simp [Lib.byteCells, Lib.strCells]
    refine ⟨hbB, _, _, heap_set w2 b 1 _ _ _ _ hb2, .inr rfl, ?_, fun g hg => ?_⟩
    · have := own_set (i := 1) (u := .slice ao n' cap) hbB hown'
      rw [hbs, List.length_append, show s.data.toList.length = s.size by simp]
      exact this
    · have := (hown'.lt g hg).2
      simpa [World.setCell] using this
  · refine ⟨hgrow.os.trans hk1.os, hgrow.tape.trans hk1.tape, hgrow.output.trans hk1.output, ?_, fun k hk hkb => ?_⟩
    · have := hgrow.size
      simp [World.setCell]; omega
    · rw [Below.heap_setCell _ _ _ _ hkb, hgrow.block k (by omega) (fun e => by have := (hown.lt k e.symm).1; omega), hk1.block k hk hkb]

/-- Only blocks from B to H, and new ones, may have turned. -/
structure KeptR (B H : Nat) (w w' : World) : Prop where
  os : w'.os = w.os
  tape : w'.tape = w.tape
  output : w'.output = w.output
  size : w.heap.size ≤ w'.heap.size
  block : ∀ k, k < w.heap.size → (k < B ∨ H ≤ k) → w'.heap[k]? = w.heap[k]?

theorem KeptR.drew (B H : Nat) (w : World) : KeptR B H w w.drew := ⟨rfl, rfl, rfl, Nat.le_refl _, fun _ _ _ => rfl⟩
theorem KeptR.alloc (B H : Nat) (w : World) (o : Obj) : KeptR B H w (w.alloc o).drew :=
  ⟨rfl, rfl, rfl, by show w.heap.size ≤ (w.heap.push o).size; simp, fun k hk _ => Below.heap_alloc w o k hk⟩
theorem KeptR.freeze (B H g n : Nat) (w : World) (h1 : B ≤ g) (h2 : g < H) : KeptR B H w (w.drew.freeze ⟨g, 0, none⟩ n) := by
  have hh : ∀ W : World, (W.freeze ⟨g, 0, none⟩ n).os = W.os ∧ (W.freeze ⟨g, 0, none⟩ n).tape = W.tape ∧ (W.freeze ⟨g, 0, none⟩ n).output = W.output ∧ (W.freeze ⟨g, 0, none⟩ n).heap.size = W.heap.size ∧ ∀ k, k ≠ g → (W.freeze ⟨g, 0, none⟩ n).heap[k]? = W.heap[k]? := by
    intro W
    unfold World.freeze
    split
    · exact ⟨rfl, rfl, rfl, rfl, fun _ _ => rfl⟩
    · refine ⟨rfl, rfl, rfl, by simp, fun k hk => ?_⟩
      simp only [Array.getElem?_modify]
      rw [if_neg (fun e => hk e.symm)]
  obtain ⟨e1, e2, e3, e4, e5⟩ := hh w.drew
  exact ⟨e1, e2, e3, by rw [e4]; exact Nat.le_refl _, fun k _ hk => e5 k (by omega)⟩

theorem ptr_type : Tryd.prog.underlying 64 = some (.pointer 5) := by kernel_rfl

set_option maxHeartbeats 2000000 in
set_option maxRecDepth 100000 in
theorem string_some (B H b : Nat) (l : List UInt8) (w : World) (h : Bld B H b l w) (h0 : l ≠ []) :
    Calls Tryd.prog 30 #[.pointer (some ⟨b, 0, none⟩)] w fun e w' => e = .returned (.string ⟨l.toArray⟩) ∧ KeptR B H w w' := by
  obtain ⟨hbB, p, v, hbk, hp, hown, hg⟩ := h
  have hl0 : l.length ≠ 0 := by simpa using h0
  obtain ⟨g, cap, cur, rfl, hbg, hgc, hnc, hcm, hcs, htake⟩ : ∃ g cap cur, v = .slice (some ⟨g, 0, none⟩) l.length cap ∧ B ≤ g ∧ w.heap[g]? = some (.cells cur 5 (0, 0)) ∧ l.length ≤ cap ∧ cap ≤ maxLen ∧ cur.size = cap * 1 ∧ cur.toList.take (l.length * 1) = Lib.byteCells l := by
    rcases hown.2 with ⟨_, hz⟩ | ⟨g, cap, cur, hv, r⟩
    · exact absurd hz hl0
    · exact ⟨g, cap, cur, hv, r⟩
  have hgH : g < H := hg g rfl
  have c1 : w.drew.cell? ⟨b, 1, none⟩ = some (.slice (some ⟨g, 0, none⟩) l.length cap) := by
    have : w.drew.heap[b]? = some (.cells #[p, .slice (some ⟨g, 0, none⟩) l.length cap] 52 (0, 0)) := hbk
    rw [cell_of_blk this]; rfl
  have hSD : (Builtin.unsafeSliceData_ #[50] 64 #[.slice (some ⟨g, 0, none⟩) l.length cap]).run Tryd.prog w.drew = .ok (.pointer (some ⟨g, 0, none⟩)) w.drew :=
    Lib.run_unsafeSliceData_row _ _ _ _ _ _ (by omega)
  have hUS : (Builtin.unsafeString_ #[64, 3] 9 #[.pointer (some ⟨g, 0, none⟩), .int .i64 l.length]).run Tryd.prog w.drew = .ok (.string ⟨l.toArray⟩) (w.drew.freeze ⟨g, 0, none⟩ l.length) := by
    refine Lib.run_unsafeString_row w.drew 64 3 9 5 ptr_type cells_byte g cur.size (by have hg' : w.drew.heap[g]? = some (.cells cur 5 (0, 0)) := hgc; simp [World.shape?, hg']) l h0 (by omega) (by unfold maxLen at hcm; omega) ?_
    intro j x hx
    have := hown.cells (g := g) rfl j (.int .u8 x.toNat) (by simp [Lib.byteCells, hx])
    exact this
  have HK := KeptR.freeze B H g l.length w hbg hgH
  clear hown hbk htake hcs hcm hnc hgc hg h0
  go_enter Tryd.func30, Tryd.ntmps30
  go_wp2
  go_region
  all_goals (go_wp2; go_ret; exact ⟨rfl, HK⟩)

theorem string_any (B H b : Nat) (l : List UInt8) (w : World) (h : Bld B H b l w) :
    Calls Tryd.prog 30 #[.pointer (some ⟨b, 0, none⟩)] w fun e w' => e = .returned (.string ⟨l.toArray⟩) ∧ KeptR B H w w' := by
  by_cases h0 : l = []
  · subst h0
    obtain ⟨hbB, p, v, hbk, hp, hown, hg⟩ := h
    have key : Calls Tryd.prog 30 #[.pointer (some ⟨b, 0, none⟩)] w fun e w' => e = .returned (.string ⟨#[]⟩) ∧ Below w.heap.size w w' := by
      rcases hown.2 with ⟨rfl, _⟩ | ⟨g, cap, cur, rfl, _, hgc, _, _, hcs, _⟩
      · exact Any.Builder_String_nil (ρ := Tryd.lays105_ren) { Tryd.lays105 with } Tryd.Builder_Extra_105 w.heap.size b p w hbk
      · by_cases hc : cap = 0
        · subst hc
          exact Any.Builder_String_noroom (ρ := Tryd.lays105_ren) { Tryd.lays105 with } Tryd.Builder_Extra_105 w.heap.size b g p cur w (Nat.le_refl _) hbk hgc
        · exact Any.Builder_String_room (ρ := Tryd.lays105_ren) { Tryd.lays105 with } Tryd.Builder_Extra_105 w.heap.size b g cap p w hc hbk
    refine key.mono ?_
    rintro e w' ⟨rfl, hb⟩
    exact ⟨rfl, hb.os, hb.tape, hb.output, hb.size, fun k hk _ => hb.block k hk⟩
  · exact string_some B H b l w h h0

/-- A builder that nobody has written yet. -/
theorem Bld.fresh (B H b : Nat) (w : World) (hb : b < B) (h : w.heap[b]? = some (.cells #[.pointer none, .slice none 0 0] 52 (0, 0))) : Bld B H b [] w :=
  ⟨hb, _, _, h, .inl rfl, ⟨rfl, .inl ⟨rfl, rfl⟩⟩, fun g hg => by simp [Value.ownBlock] at hg⟩
/-- A builder lies on where its block and its row do. -/
theorem Bld.kept {B H b : Nat} {l : List UInt8} {w w' : World} (h : Bld B H b l w) (hk : ∀ k, k < w.heap.size → (k = b ∨ (B ≤ k ∧ k < H)) → w'.heap[k]? = w.heap[k]?) : Bld B H b l w' := by
  have hlt := bld_size h
  obtain ⟨hbB, p, v, hb, hp, hown, hg⟩ := h
  refine ⟨hbB, p, v, by rw [hk b hlt (.inl rfl)]; exact hb, hp, ⟨hown.1, ?_⟩, hg⟩
  rcases hown.2 with hz | ⟨g, cap, cur, rfl, hbg, hgc, r⟩
  · exact .inl hz
  · have hgl : g < w.heap.size := by
      rcases Nat.lt_or_ge g w.heap.size with h' | h'
      · exact h'
      · rw [Array.getElem?_eq_none h'] at hgc; cases hgc
    exact .inr ⟨g, cap, cur, rfl, hbg, by rw [hk g hgl (.inr ⟨hbg, hg g rfl⟩)]; exact hgc, r⟩
theorem Bld.below {B H b : Nat} {l : List UInt8} {w w' : World} (h : Bld B H b l w) (hb : Below w.heap.size w w') : Bld B H b l w' :=
  h.kept fun k hk _ => hb.block k hk
theorem KeptR.below {B H lo : Nat} {w w' : World} (h : KeptR B H w w') (h1 : lo ≤ B) (h2 : lo ≤ w.heap.size) : Below lo w w' :=
  ⟨h.os, h.tape, h.output, h.size, fun k hk => h.block k (by omega) (.inl (by omega))⟩
theorem Bld.later {B H H' b : Nat} {l : List UInt8} {w : World} (h : Bld B H b l w) (hH : H ≤ H') : Bld B H' b l w := by
  obtain ⟨hbB, p, v, hb, hp, hown, hg⟩ := h
  exact ⟨hbB, p, v, hb, hp, hown, fun g hgg => Nat.lt_of_lt_of_le (hg g hgg) hH⟩
end Go.Proofs.YtkndifannjpbcaaDoor
/- The walks over package page: the bytes of a page's parts. -/
namespace Go.Proofs.YtkndifannjpbcaaDoor
open Go.RowKit

/-- The slice at A, of capacity c, reads as the texts rs. -/
def Cells (w : World) (A : Option Addr) (c : Nat) (rs : List ByteArray) : Prop :=
  0 < rs.length → ∃ b off, A = some ⟨b, off, none⟩ ∧ rs.length ≤ c ∧ b < w.heap.size ∧ ∀ j (h : j < rs.length), w.cell? ⟨b, off + j, none⟩ = some (.string rs[j])
/-- The slice v reads as the texts rs. -/
def StrsAt (w : World) (v : Value) (rs : List ByteArray) : Prop := ∃ A c, v = .slice A rs.length c ∧ Cells w A c rs
theorem Cells.below {w w' : World} {A : Option Addr} {c : Nat} {rs : List ByteArray} (h : Cells w A c rs) (hb : Below w.heap.size w w') : Cells w' A c rs := fun h0 => by
  obtain ⟨b, off, hA, hc, hlt, hcell⟩ := h h0
  refine ⟨b, off, hA, hc, Nat.lt_of_lt_of_le hlt hb.size, fun j hj => ?_⟩
  rw [hb.cell (p := ⟨b, off + j, none⟩) hlt]; exact hcell j hj
theorem Cells.at_ {w : World} {A : Option Addr} {c : Nat} {rs : List ByteArray} (h : Cells w A c rs) {k : Nat} (hk : k < rs.length) : ∃ b off, A = some ⟨b, off, none⟩ ∧ rs.length ≤ c ∧ b < w.heap.size ∧ w.cell? ⟨b, off + k, none⟩ = some (.string rs[k]) := by
  obtain ⟨b, off, hA, hc, hlt, hcell⟩ := h (by omega)
  exact ⟨b, off, hA, hc, hlt, hcell k hk⟩
theorem StrsAt.below {w w' : World} {v : Value} {rs : List ByteArray} (h : StrsAt w v rs) (hb : Below w.heap.size w w') : StrsAt w' v rs := by
  obtain ⟨A, c, hv, hC⟩ := h
  exact ⟨A, c, hv, hC.below hb⟩

theorem ret_int {k : IntKind} {a b : Int} (h : a = b) : Ending.returned (.int k a) = .returned (.int k b) := by rw [h]
theorem ret_str {a b : ByteArray} (h : a = b) : Ending.returned (.string a) = .returned (.string b) := by rw [h]

theorem andThen {a b c : World} (h : Below a.heap.size a b) (k : Below b.heap.size b c) : Below a.heap.size a c := h.trans (k.mono h.size)

theorem size_any (A : Option Addr) (c : Nat) (rs : List ByteArray) (hb : Pg.sizeN rs ≤ 1099511627776) (w : World) (h : Cells w A c rs) :
    Calls Tryd.prog 28 #[.slice A rs.length c] w fun e w' => e = .returned (.int .i64 (Pg.sizeN rs)) ∧ w = w' := by
  unfold Pg.sizeN at hb
  have HC := Lib.hid h
  clear h
  go_enter Tryd.func28, Tryd.ntmps28
  go_wp2_with fail
  go_loop [3, 12] (fun n i => ∃ k : Nat, k ≤ rs.length ∧ i = .int .i64 k ∧ n = .int .i64 ((19 + 4 * rs.length + Pg.sumSizes (rs.take k) : Nat) : Int)) (fun _ i => rs.length - (intOf i).toNat)
  case atStart => exact ⟨0, Nat.zero_le _, rfl, by simp [Pg.sumSizes]⟩
  case round =>
    obtain ⟨k, hk, rfl, rfl⟩ := hrel
    have hle := Pg.sumSizes_take_le rs k
    by_cases hlt : k < rs.length
    · obtain ⟨b, off, rfl, hc, hbl, hcell⟩ := HC.out.at_ hlt
      have HS := Lib.hid (Pg.sumSizes_snoc rs k hlt)
      have hle2 := Pg.sumSizes_take_le rs (k + 1)
      have hsz : Pg.sumSizes (rs.take k) + rs[k].size ≤ Pg.sumSizes rs := by rw [← HS.out]; exact hle2
      clear hle2
      generalize hr : rs[k] = r at hcell hsz
      have HR := Lib.hid hr
      clear hr
      go_wp2_with fail
      go_round
      case rel => exact ⟨k + 1, by omega, by go_num, by rw [HS.out, HR.out]; go_num⟩
      case measure => simp [intOf]; omega
    · obtain rfl : k = rs.length := by omega
      go_wp2_with fail
      go_ret
      exact ⟨ret_int (by unfold Pg.sizeN; omega), rfl⟩

/-- The box that holds a page's parts. -/
def boxOf (x : Pg.Leaf) (A : Option Addr) (m c : Nat) : Obj := .cells #[.int .i64 x.lsn, .int .i64 x.kind, .int .i64 x.link, .slice A m c] 40
theorem empty_iff (r : ByteArray) : r.toList.isEmpty = decide (r.size = 0) := by
  rw [ByteArray.toList_eq]
  have h : r.data.toList.length = r.size := by simp
  cases hl : r.data.toList with
  | nil => rw [hl] at h; simp at h; simp [h.symm]
  | cons a l =>
    rw [hl, List.length_cons] at h
    simp only [List.isEmpty_cons]
    exact (decide_eq_false (by omega)).symm

theorem three_new (w : World) (o1 o2 o3 : Obj) : (((w.alloc o1).alloc o2).alloc o3).heap[w.heap.size]? = some o1 ∧ (((w.alloc o1).alloc o2).alloc o3).heap[w.heap.size + 1]? = some o2 ∧ (((w.alloc o1).alloc o2).alloc o3).heap[w.heap.size + 1 + 1]? = some o3 ∧ (((w.alloc o1).alloc o2).alloc o3).heap.size = w.heap.size + 3 := by
  have e : (((w.alloc o1).alloc o2).alloc o3).heap = ((w.heap.push o1).push o2).push o3 := rfl
  rw [e]
  refine ⟨?_, ?_, ?_, by simp⟩
  · rw [Array.getElem?_push_lt (by simp; omega), Array.getElem_push_lt (by simp), Array.getElem_push_eq]
  · rw [Array.getElem?_push_lt (by simp), Array.getElem_push]; simp
  · rw [Array.getElem?_push]; simp

/-- octet.Put, where four cells of an old block are held. -/
theorem put_held (n size : Int) (h0 : 0 ≤ size) (h8 : size ≤ 8) (X : Nat) (v0 v1 v2 v3 : Value) (w0 w : World) (hX : X < w0.heap.size)
    (h : w.cell? ⟨X, 0, none⟩ = some v0 ∧ w.cell? ⟨X, 1, none⟩ = some v1 ∧ w.cell? ⟨X, 2, none⟩ = some v2 ∧ w.cell? ⟨X, 3, none⟩ = some v3 ∧ Below w0.heap.size w0 w) :
    Calls Tryd.prog 27 #[.int .i64 n, .int .i64 size] w fun e w' => e = .returned (.string (Oct.putB n size)) ∧
      (w'.cell? ⟨X, 0, none⟩ = some v0 ∧ w'.cell? ⟨X, 1, none⟩ = some v1 ∧ w'.cell? ⟨X, 2, none⟩ = some v2 ∧ w'.cell? ⟨X, 3, none⟩ = some v3 ∧ Below w0.heap.size w0 w') := by
  obtain ⟨c0, c1, c2, c3, hb⟩ := h
  have hs := hb.size
  refine (put_any n size h0 h8 w).mono ?_
  rintro e w' ⟨rfl, hb1⟩
  refine ⟨rfl, ?_, ?_, ?_, ?_, andThen hb hb1⟩
  · rw [hb1.cell (p := ⟨X, 0, none⟩) (by show X < _; omega)]; exact c0
  · rw [hb1.cell (p := ⟨X, 1, none⟩) (by show X < _; omega)]; exact c1
  · rw [hb1.cell (p := ⟨X, 2, none⟩) (by show X < _; omega)]; exact c2
  · rw [hb1.cell (p := ⟨X, 3, none⟩) (by show X < _; omega)]; exact c3

set_option maxRecDepth 100000 in
set_option maxHeartbeats 2000000 in
theorem made_any (x : Pg.Leaf) (A : Option Addr) (c : Nat) (hx : Pg.Small x) (hb : Pg.sizeN x.recs ≤ 1099511627776) (w : World) (h : Cells w A c x.recs) :
    Calls Tryd.prog 17 #[.agg #[.int .i64 x.lsn, .int .i64 x.kind, .int .i64 x.link, .slice A x.recs.length c]] w fun e w' => e = .returned (.string ⟨(Pg.layL x).toArray⟩) ∧ Below w.heap.size w w' := by
  have HXS := Lib.hid hx
  clear hx
  have HC := Lib.hid h
  have hbn : x.recs.length ≤ 1099511627776 := by unfold Pg.sizeN at hb; omega
  have HB := Lib.hid hb
  clear h hb
  go_enter Tryd.func17, Tryd.ntmps17
  go_upto_block 0 with (fail)
  go_cut [] (fun wc => ∃ m : Nat, m ≤ x.recs.length ∧ Pg.trimN x.recs x.recs.length = m ∧ wc = w.alloc (boxOf x A m c))
  case first =>
    go_wp2_with fail
    go_loopg [] x.recs.length (fun m wr => m ≤ x.recs.length ∧ Pg.trimN x.recs m = Pg.trimN x.recs x.recs.length ∧ wr = w.alloc (boxOf x A m c))
    case atStart => exact ⟨Nat.le_refl _, rfl, rfl⟩
    case round =>
      obtain ⟨hm, ht, rfl⟩ := hrel
      have HT := Lib.hid ht
      clear ht
      unfold boxOf
      by_cases h0 : gk = 0
      · subst h0
        go_wp2_with fail
        go_meet
        case rel => exact ⟨0, Nat.zero_le _, by rw [← HT.out]; rfl, rfl⟩
      · obtain ⟨b, off, rfl, hc, hbl, hcell⟩ := HC.out.at_ (k := gk - 1) (by omega)
        obtain ⟨m, rfl⟩ : ∃ m, gk = m + 1 := ⟨gk - 1, by omega⟩
        simp only [Nat.add_sub_cancel] at hcell
        have hie := empty_iff x.recs[m]
        have HR := Lib.hid (show x.recs[m]?.getD ⟨#[]⟩ = x.recs[m] by simp [show m < x.recs.length by omega])
        have hcc : (World.cell? (w.alloc (boxOf x (some ⟨b, off, none⟩) (m + 1) c)) ⟨b, off + m, none⟩) = some (.string x.recs[m]) := by
          rw [World.cell?_alloc_lt _ _ _ hbl]; exact hcell
        unfold boxOf at hcc
        generalize hr : x.recs[m] = r at hcell hie hcc HR
        by_cases he : r.size = 0
        · have hie2 : r.toList.isEmpty = true := by rw [hie]; exact decide_eq_true he
          clear hie hr
          have HE := Lib.hid he
          clear he
          go_wp2_with fail
          go_roundg m
          case measure => omega
          case rel => exact ⟨by omega, by rw [← HT.out, Pg.trimN, HR.out, if_pos HE.out], rfl⟩
        · have hie2 : r.toList.isEmpty = false := by rw [hie]; exact decide_eq_false he
          clear hie hr
          have HE := Lib.hid he
          clear he
          go_wp2_with fail
          go_meet
          case rel => exact ⟨m + 1, hm, by rw [← HT.out, Pg.trimN, HR.out, if_neg HE.out], rfl⟩
  case rest =>
    obtain ⟨m, hm, ht, rfl⟩ := hcut
    have hlen : (x.recs.take m).length = m := by rw [List.length_take]; omega
    have hsz : Pg.sizeN (x.recs.take m) ≤ 1099511627776 := by
      have := HB.out
      have := Pg.sumSizes_take_le x.recs m
      unfold Pg.sizeN at *; omega
    have HC2 := Lib.hid (show Cells w A c (x.recs.take m) from fun h0 => by
      obtain ⟨b, off, hA, hc, hlt, hcell⟩ := HC.out (by omega)
      refine ⟨b, off, hA, by omega, hlt, fun j hj => ?_⟩
      rw [List.getElem_take]; exact hcell j (by omega))
    have HL := Lib.hid (show Pg.layL x = Pg.layR x (x.recs.take m) by rw [Pg.layL, Pg.trim, ht])
    generalize hrs : x.recs.take m = rs at hlen hsz HC2 HL
    subst hlen
    clear HC HB hbn hm ht hrs
    unfold boxOf
    by_cases hfit : 512 < Pg.sizeN rs
    · go_wp2_with (go_at_call 28; refine (size_any A c rs hsz _ (HC2.out.below ((Below.refl _ _).alloc (Nat.le_refl _) _))).mono ?_; rintro e w' ⟨rfl, rfl⟩)
      go_ret
      exact ⟨ret_str (by rw [HL.out, Pg.layR, if_pos hfit]), (Below.refl _ _).alloc (Nat.le_refl _) _⟩
    · go_upto_block 2 with (go_at_call 28; refine (size_any A c rs hsz _ (HC2.out.below ((Below.refl _ _).alloc (Nat.le_refl _) _))).mono ?_; rintro e w' ⟨rfl, rfl⟩)
      have hs512 : Pg.sumSizes rs ≤ 512 := by unfold Pg.sizeN at hfit; omega
      have hn123 : rs.length ≤ 512 := by unfold Pg.sizeN at hfit; omega
      obtain ⟨W3, hW3⟩ : ∃ W3 : World, W3 = (((w.alloc (.cells #[.int .i64 x.lsn, .int .i64 x.kind, .int .i64 x.link, .slice A rs.length c] 40)).alloc (.cells #[.pointer none, .slice none 0 0] 52)).alloc (.cells #[.pointer none, .slice none 0 0] 52)) := ⟨_, rfl⟩
      rw [← hW3]
      have hb3 : Below w.heap.size w W3 := by rw [hW3]; exact (((Below.refl _ _).alloc (Nat.le_refl _) _).alloc (by simp) _).alloc (by simp; omega) _
      obtain ⟨hx3, h43, h53, hz3⟩ := three_new w (.cells #[.int .i64 x.lsn, .int .i64 x.kind, .int .i64 x.link, .slice A rs.length c] 40) (.cells #[.pointer none, .slice none 0 0] 52) (.cells #[.pointer none, .slice none 0 0] 52)
      rw [← hW3] at hx3 h43 h53 hz3
      clear hW3
      have HB3 := Lib.hid hb3
      have HX3 := Lib.hid hx3
      have H43 := Lib.hid h43
      have H53 := Lib.hid h53
      have HZ3 := Lib.hid hz3
      have HFIT := Lib.hid hfit
      clear hb3 hx3 h43 h53 hz3 hfit
      go_cut [6] (fun s6 wc => s6 = .int .i64 ((512 - Pg.sumSizes rs : Nat) : Int) ∧ Bld W3.heap.size wc.heap.size (w.heap.size + 1) (Pg.slotsL 512 rs) wc ∧ KeptB W3.heap.size (w.heap.size + 1) W3 wc)
      case first =>
        go_wp2_with fail
        go_loopw [6, 43] (fun a i wr => ∃ k : Nat, k ≤ rs.length ∧ i = .int .i64 k ∧ a = .int .i64 ((512 - Pg.sumSizes (rs.take k) : Nat) : Int) ∧ Bld W3.heap.size wr.heap.size (w.heap.size + 1) (Pg.slotsL 512 (rs.take k)) wr ∧ KeptB W3.heap.size (w.heap.size + 1) W3 wr) (fun _ i _ => rs.length - (intOf i).toNat)
        case atStart => exact ⟨0, Nat.zero_le _, rfl, by simp [Pg.sumSizes], Bld.fresh _ _ _ _ (by rw [HZ3.out]; omega) H43.out, KeptB.refl _ _ _⟩
        case round =>
          obtain ⟨k, hk, rfl, rfl, hbld, hkept⟩ := hrel
          have HK := Lib.hid hkept
          have HD := Lib.hid hbld
          have hsl := Pg.sumSizes_take_le rs k
          have hWr : W3.heap.size ≤ wr.heap.size := hkept.size
          clear hbld hkept
          by_cases hlt : k < rs.length
          · obtain ⟨b, off, rfl, hc, hbl, hcell⟩ := HC2.out.at_ hlt
            have hcw : wr.cell? ⟨b, off + k, none⟩ = some (.string rs[k]) := by
              rw [(HK.out.below (lo := w.heap.size) (by rw [HZ3.out]; omega) (by omega)).cell (p := ⟨b, off + k, none⟩) hbl, HB3.out.cell (p := ⟨b, off + k, none⟩) hbl]; exact hcell
            have HS := Lib.hid (Pg.sumSizes_snoc rs k hlt)
            have HSL := Lib.hid (Pg.slotsL_snoc rs k hlt)
            have hle2 := Pg.sumSizes_take_le rs (k + 1)
            have hsz2 : Pg.sumSizes (rs.take k) + rs[k].size ≤ 512 := by rw [← HS.out]; omega
            have hlen : (Pg.slotsL 512 (rs.take k)).length ≤ 4096 := by rw [Pg.slotsL_length, List.length_take]; omega
            have hie := empty_iff rs[k]
            clear hle2 hcell
            generalize hr : rs[k] = r at hcw hsz2 hie HS HSL
            clear hr
            by_cases he : r.size = 0
            · have hie2 : r.toList.isEmpty = true := by rw [hie]; exact decide_eq_true he
              clear hie
              have HE := Lib.hid he
              clear he
              go_wp2_with (first | (go_at_call 27; refine (put_any _ _ (by omega) (by omega) _).mono ?_; rintro e w1 ⟨rfl, hb1⟩) | (go_at_call 29; refine (write_any _ _ _ _ _ _ (HD.out.below hb1) ?_ ?_).mono ?_; (rw [show (Oct.putB 0 4).size = 4 from Oct.putB_size 0 4 (by omega)]; omega); (have := hb1.size; omega); rintro e w2 ⟨rfl, hbld2, hk2⟩))
              go_roundw
              case rel => exact ⟨k + 1, by omega, by go_num, by rw [HS.out, HE.out]; rfl, by
                rw [HSL.out, Pg.slotL, if_pos HE.out]
                rw [show (Oct.putB 0 4).data.toList = Oct.putL 0 4 from Oct.putB_list 0 4 (by omega)] at hbld2
                exact hbld2, HK.out.trans ((KeptB.of_below hWr hb1).trans hk2)⟩
              case measure => simp [intOf]; omega
            · have hie2 : r.toList.isEmpty = false := by rw [hie]; exact decide_eq_false he
              clear hie
              have HE := Lib.hid he
              clear he
              obtain ⟨a, ha⟩ : ∃ a : Nat, a = 512 - Pg.sumSizes (rs.take k) := ⟨_, rfl⟩
              rw [← ha]
              have hra : r.size ≤ a := by omega
              have ha512 : a ≤ 512 := by omega
              have HA := Lib.hid ha
              clear ha
              have hadd : ∀ (u v : Int) (W : World), (Op.stringOp .add (Oct.putB u 2) (Oct.putB v 2)).run Tryd.prog W = .ok (.string (Oct.putB u 2 ++ Oct.putB v 2)) W := fun u v W => run_string_add_sum W _ _ (by
                rw [show (Oct.putB u 2).size = 2 from Oct.putB_size u 2 (by omega), show (Oct.putB v 2).size = 2 from Oct.putB_size v 2 (by omega)]; omega)
              go_wp2_with (first | (go_at_call 27; (with_reducible refine (put_any (r.size : Int) _ (by omega) (by omega) _).mono ?_); rintro e w2 ⟨rfl, hb2⟩) | (go_at_call 27; refine (put_any _ _ (by omega) (by omega) _).mono ?_; rintro e w1 ⟨rfl, hb1⟩) | (go_at_call 29; refine (write_any _ _ _ _ _ _ ((HD.out.below hb1).below hb2) ?_ ?_).mono ?_; (rw [ByteArray.size_append, show (Oct.putB _ 2).size = 2 from Oct.putB_size _ 2 (by omega), show (Oct.putB _ 2).size = 2 from Oct.putB_size _ 2 (by omega)]; omega); (have := hb1.size; have := hb2.size; omega); rintro e w3 ⟨rfl, hbld3, hk3⟩))
              go_roundw
              case rel =>
                refine ⟨k + 1, by omega, by go_num, ?_, ?_, HK.out.trans ((KeptB.of_below hWr hb1).trans ((KeptB.of_below (by have := hb1.size; omega) hb2).trans hk3))⟩
                · have := HA.out
                  rw [HS.out]
                  exact congrArg (Value.int IntKind.i64) (by omega)
                · rw [HSL.out, Pg.slotL, if_neg HE.out, ← HA.out]
                  have e1 : (Oct.putB ((a : Int) - (r.size : Int)) 2).data.toList = Oct.putL (a - r.size) 2 := by
                    rw [show ((a : Int) - (r.size : Int)) = ((a - r.size : Nat) : Int) by omega]
                    have := Oct.putB_list ((a - r.size : Nat) : Int) 2 (by omega)
                    rwa [Oct.word_nat (a - r.size) (by omega)] at this
                  have e2 : (Oct.putB (r.size : Int) 2).data.toList = Oct.putL r.size 2 := by
                    have := Oct.putB_list (r.size : Int) 2 (by omega)
                    rwa [Oct.word_nat r.size (by omega)] at this
                  rw [ByteArray.data_append, Array.toList_append, e1, e2] at hbld3
                  exact hbld3
              case measure => simp [intOf]; omega
          · obtain rfl : k = rs.length := by omega
            have HT := Lib.hid (List.take_length (l := rs))
            go_wp2_with fail
            go_meet
            case rel =>
              have h1 := HD.out
              rw [HT.out] at h1
              exact ⟨by rw [HT.out], h1, HK.out⟩
      case rest =>
        obtain ⟨wm, rfl⟩ : ∃ wm : World, wm = wc := ⟨_, rfl⟩
        obtain ⟨rfl, hbld, hkept⟩ := hcut
        have HD := Lib.hid hbld
        have HK := Lib.hid hkept
        have hWc : W3.heap.size ≤ wm.heap.size := hkept.size
        clear hbld hkept
        have hx : wm.heap[w.heap.size]? = some (.cells #[.int .i64 x.lsn, .int .i64 x.kind, .int .i64 x.link, .slice A rs.length c] 40 (0, 0)) := by
          rw [HK.out.block _ (by rw [HZ3.out]; omega) (by omega)]; exact HX3.out
        have c0 : wm.cell? ⟨w.heap.size, 0, none⟩ = some (.int .i64 x.lsn) := by rw [cell_of_blk hx]; rfl
        have c1 : wm.cell? ⟨w.heap.size, 1, none⟩ = some (.int .i64 x.kind) := by rw [cell_of_blk hx]; rfl
        have c2 : wm.cell? ⟨w.heap.size, 2, none⟩ = some (.int .i64 x.link) := by rw [cell_of_blk hx]; rfl
        have c3 : wm.cell? ⟨w.heap.size, 3, none⟩ = some (.slice A rs.length c) := by rw [cell_of_blk hx]; rfl
        have HX := Lib.hid hx
        clear hx
        go_upto_block 4 with (fail)
        go_cut [] (fun wc => Bld wm.heap.size wc.heap.size (w.heap.size + 1 + 1) (Pg.bodyL rs) wc ∧ KeptB wm.heap.size (w.heap.size + 1 + 1) wm wc)
        case first =>
          go_wp2_with fail
          go_loopw [9] (fun i wr => ∃ j : Nat, j ≤ rs.length ∧ i = .int .i64 ((j : Int) - 1) ∧ Bld wm.heap.size wr.heap.size (w.heap.size + 1 + 1) (Pg.bodyL (rs.drop j)) wr ∧ KeptB wm.heap.size (w.heap.size + 1 + 1) wm wr) (fun i _ => (intOf i + 1).toNat)
          case atStart =>
            refine ⟨rs.length, Nat.le_refl _, rfl, ?_, KeptB.refl _ _ _⟩
            rw [List.drop_length]
            exact Bld.fresh _ _ _ _ (by have := HZ3.out; omega) (by rw [HK.out.block _ (by rw [HZ3.out]; omega) (by omega)]; exact H53.out)
          case round =>
            obtain ⟨j, hj, rfl, hbld, hkept⟩ := hrel
            have HK4 := Lib.hid hkept
            have HD4 := Lib.hid hbld
            have hWr : wm.heap.size ≤ wr.heap.size := hkept.size
            have hz := HZ3.out
            have d3 : wr.cell? ⟨w.heap.size, 3, none⟩ = some (.slice A rs.length c) := by
              have : wr.heap[w.heap.size]? = _ := (hkept.block _ (by omega) (by omega)).trans HX.out
              rw [cell_of_blk this]; rfl
            clear hbld hkept c0 c1 c2 c3 hz
            by_cases h0 : j = 0
            · subst h0
              go_wp2_with fail
              go_meet
              case rel => exact ⟨HD4.out, HK4.out⟩
            · obtain ⟨k, rfl⟩ : ∃ k, j = k + 1 := ⟨j - 1, by omega⟩
              rw [show ((k + 1 : Nat) : Int) - 1 = (k : Int) by omega]
              obtain ⟨b, off, rfl, hc, hbl, hcell⟩ := HC2.out.at_ (k := k) (by omega)
              have hcw : wr.cell? ⟨b, off + k, none⟩ = some (.string rs[k]) := by
                have hz := HZ3.out
                rw [(HK4.out.below (lo := w.heap.size) (by omega) (by omega)).cell (p := ⟨b, off + k, none⟩) hbl, (HK.out.below (lo := w.heap.size) (by omega) (by omega)).cell (p := ⟨b, off + k, none⟩) hbl, HB3.out.cell (p := ⟨b, off + k, none⟩) hbl]; exact hcell
              have HBD := Lib.hid (Pg.bodyL_drop rs k (by omega))
              have hlen : (Pg.bodyL (rs.drop (k + 1))).length + rs[k].size ≤ 4096 := by
                have h1 := Pg.bodyL_length (rs.drop k)
                rw [HBD.out, List.length_append] at h1
                have h2 := Pg.sumSizes_append (rs.take k) (rs.drop k)
                rw [List.take_append_drop] at h2
                have h3 : rs[k].data.toList.length = rs[k].size := by simp
                omega
              clear hcell
              generalize hr : rs[k] = r at hcw hlen HBD
              clear hr
              go_wp2_with (go_at_call 29; refine (write_any _ _ _ _ _ _ HD4.out ?_ ?_).mono ?_; (omega); (omega); rintro e w2 ⟨rfl, hbld2, hk2⟩)
              go_roundw
              case rel => exact ⟨k, by omega, rfl, by rw [HBD.out]; exact hbld2, HK4.out.trans hk2⟩
              case measure => simp [intOf]
        case rest =>
          obtain ⟨hbld5, hkept5⟩ := hcut
          have HD5 := Lib.hid hbld5
          have HK5 := Lib.hid hkept5
          have hWd : wm.heap.size ≤ wc.heap.size := hkept5.size
          have hx5 : wc.heap[w.heap.size]? = some (.cells #[.int .i64 x.lsn, .int .i64 x.kind, .int .i64 x.link, .slice A rs.length c] 40 (0, 0)) := by
            have hz := HZ3.out
            rw [HK5.out.block _ (by omega) (by omega)]; exact HX.out
          have d0 : wc.cell? ⟨w.heap.size, 0, none⟩ = some (.int .i64 x.lsn) := by rw [cell_of_blk hx5]; rfl
          have d1 : wc.cell? ⟨w.heap.size, 1, none⟩ = some (.int .i64 x.kind) := by rw [cell_of_blk hx5]; rfl
          have d2 : wc.cell? ⟨w.heap.size, 2, none⟩ = some (.int .i64 x.link) := by rw [cell_of_blk hx5]; rfl
          have d3 : wc.cell? ⟨w.heap.size, 3, none⟩ = some (.slice A rs.length c) := by rw [cell_of_blk hx5]; rfl
          have HX5 := Lib.hid hx5
          clear hbld5 hkept5 hx5 c0 c1 c2 c3
          obtain ⟨wd, rfl⟩ : ∃ wd : World, wd = wc := ⟨_, rfl⟩
          go_upto_region 20 with (fail)
          have hXl : w.heap.size < wd.heap.size := by have := HZ3.out; omega
          have hbr : Below wd.heap.size wd wd := Below.refl _ _
          obtain ⟨at_, hat⟩ : ∃ a : Nat, a = 512 - Pg.sumSizes rs := ⟨_, rfl⟩
          rw [← hat]
          have HAT := Lib.hid hat
          clear hat
          have z1 : (Oct.putB 0 4).size = 4 := Oct.putB_size 0 4 (by omega)
          have z2 : (Oct.putB x.lsn 6).size = 6 := Oct.putB_size x.lsn 6 (by omega)
          have z3 : (Oct.putB x.kind 1).size = 1 := Oct.putB_size x.kind 1 (by omega)
          have z4 : (Oct.putB 0 1).size = 1 := Oct.putB_size 0 1 (by omega)
          have z5 : (Oct.putB x.link 3).size = 3 := Oct.putB_size x.link 3 (by omega)
          have z6 : (Oct.putB rs.length 2).size = 2 := Oct.putB_size rs.length 2 (by omega)
          have z7 : (Oct.putB at_ 2).size = 2 := Oct.putB_size at_ 2 (by omega)
          go_cut [10] (fun s10 we => s10 = .string (Oct.putB 0 4 ++ Oct.putB x.lsn 6 ++ Oct.putB x.kind 1 ++ Oct.putB 0 1 ++ Oct.putB x.link 3 ++ Oct.putB rs.length 2 ++ Oct.putB at_ 2) ∧ Below wd.heap.size wd we)
          case first =>
            go_region_held3 (fun w' => w'.cell? ⟨w.heap.size, 0, none⟩ = some (.int .i64 x.lsn) ∧ w'.cell? ⟨w.heap.size, 1, none⟩ = some (.int .i64 x.kind) ∧ w'.cell? ⟨w.heap.size, 2, none⟩ = some (.int .i64 x.link) ∧ w'.cell? ⟨w.heap.size, 3, none⟩ = some (.slice A rs.length c) ∧ Below wd.heap.size wd w') (first | assumption | exact ⟨d0, d1, d2, d3, hbr.drew⟩ | go_keep) (first | (go_at_call 27; refine (put_held _ _ (by omega) (by omega) w.heap.size _ _ _ _ wd _ hXl (by assumption)).mono ?_; rintro e w1 ⟨rfl, hS⟩))
            go_wp2_with fail
            go_meet
            case rel => exact ⟨rfl, hS.2.2.2.2⟩
          case rest =>
            obtain ⟨rfl, hbe⟩ := hcut
            have hz := HZ3.out
            have hbe2 := hbe.size
            have hWm : W3.heap.size ≤ wm.heap.size := HK.out.size
            obtain ⟨F, hF⟩ : ∃ F : ByteArray, F = Oct.putB 0 4 ++ Oct.putB x.lsn 6 ++ Oct.putB x.kind 1 ++ Oct.putB 0 1 ++ Oct.putB x.link 3 ++ Oct.putB rs.length 2 ++ Oct.putB at_ 2 := ⟨_, rfl⟩
            have hFs : F.size = 19 := by rw [hF]; simp only [ByteArray.size_append, z1, z2, z3, z4, z5, z6, z7]
            rw [← hF]
            obtain ⟨S, hS⟩ : ∃ S : ByteArray, S = ⟨(Pg.slotsL 512 rs).toArray⟩ := ⟨_, rfl⟩
            have hSs : S.size ≤ 4096 := by rw [hS]; show (Pg.slotsL 512 rs).toArray.size ≤ _; simp [Pg.slotsL_length]; omega
            obtain ⟨B, hB⟩ : ∃ B : ByteArray, B = ⟨(Pg.bodyL rs).toArray⟩ := ⟨_, rfl⟩
            have hBs : B.size ≤ 4096 := by rw [hB]; show (Pg.bodyL rs).toArray.size ≤ _; simp [Pg.bodyL_length]; omega
            obtain ⟨room, hroom⟩ : ∃ room : Nat, room = 512 - Pg.sizeN rs := ⟨_, rfl⟩
            have hfit := HFIT.out
            have hri : (512 : Int) - (Pg.sizeN rs : Int) = (room : Int) := by omega
            have hr512 : room ≤ 512 := by omega
            obtain ⟨R, hR⟩ : ∃ R : ByteArray, R = ⟨(Lib.repeatL (⟨#[0]⟩ : ByteArray).data.toList room).toArray⟩ := ⟨_, rfl⟩
            have hRl : R.data.toList = List.replicate room 0 := by
              rw [hR]
              have key : ∀ n, Lib.repeatL (⟨#[0]⟩ : ByteArray).data.toList n = List.replicate n 0 := fun n => by
                induction n with
                | zero => rfl
                | succ n ih => rw [Lib.repeatL, ih]; rfl
              rw [key]
            have hRs : R.size = room := by
              have : R.data.toList.length = R.size := by simp
              rw [← this, hRl, List.length_replicate]
            have b4 : Bld W3.heap.size wm.heap.size (w.heap.size + 1) (Pg.slotsL 512 rs) wc := ((HD.out.later (Nat.le_refl _)).kept (fun k hk _ => HK5.out.block k (by omega) (by omega))).below hbe
            have HB4 := Lib.hid b4
            have hc1 : ∀ W, Bld W3.heap.size wm.heap.size (w.heap.size + 1) (Pg.slotsL 512 rs) W → Calls Tryd.prog 30 #[.pointer (some ⟨w.heap.size + 1, 0, none⟩)] W fun e w' => e = .returned (.string S) ∧ KeptR W3.heap.size wm.heap.size W w' := fun W h => by
              rw [hS]; exact string_any _ _ _ _ W h
            have hc2 : ∀ W, Bld wm.heap.size wd.heap.size (w.heap.size + 1 + 1) (Pg.bodyL rs) W → Calls Tryd.prog 30 #[.pointer (some ⟨w.heap.size + 1 + 1, 0, none⟩)] W fun e w' => e = .returned (.string B) ∧ KeptR wm.heap.size wd.heap.size W w' := fun W h => by
              rw [hB]; exact string_any _ _ _ _ W h
            have hc3 : ∀ W, Calls Tryd.prog 31 #[.string ⟨#[0]⟩, .int .i64 (room : Int)] W fun e w' => e = .returned (.string R) ∧ Below W.heap.size W w' := fun W => by
              rw [hR]; exact Tryd.strings_Repeat ⟨#[0]⟩ room W (by omega) (by show 1 * room ≤ _; omega)
            have HC1 := Lib.hid hc1
            have HC2' := Lib.hid hc2
            have HC3 := Lib.hid hc3
            have HF := Lib.hid hF
            have HS := Lib.hid hS
            have HB' := Lib.hid hB
            have HRl := Lib.hid hRl
            have HRm := Lib.hid hroom
            rw [hri]
            clear hc1 hc2 hc3 hF hS hB hRl hR hri hroom b4 z1 z2 z3 z4 z5 z6 z7 d0 d1 d2 d3
            have HB5 := Lib.hid (show ∀ W V, KeptR W3.heap.size wm.heap.size wc W → Below W.heap.size W V → Bld wm.heap.size wd.heap.size (w.heap.size + 1 + 1) (Pg.bodyL rs) V from fun W V k1 k2 =>
              ((HD5.out.below hbe).kept (fun k hk hor => k1.block k (by have := hbe.size; omega) (by omega))).below k2)
            go_wp2_with (first | (go_at_call 30; (with_reducible refine (HC1.out _ ?_).mono ?_); (exact HB4.out); rintro e w1 ⟨rfl, hk1⟩) | (go_at_call 31; refine (HC3.out _).mono ?_; rintro e w2 ⟨rfl, hk2⟩) | (go_at_call 30; (with_reducible refine (HC2'.out _ ?_).mono ?_); (exact HB5.out _ _ hk1 hk2); rintro e w3 ⟨rfl, hk3⟩))
            go_ret
            refine ⟨ret_str ?_, ?_⟩
            · rw [HL.out, Pg.layR, if_neg HFIT.out]
              apply ByteArray.ext
              have e1 : F.data.toList = Pg.headL x rs.length (512 - Pg.sumSizes rs) := by
                rw [HF.out, Pg.headL]
                simp only [ByteArray.data_append, Array.toList_append]
                have q1 : (Oct.putB 0 4).data.toList = Oct.putL 0 4 := Oct.putB_list 0 4 (by omega)
                have q4 : (Oct.putB 0 1).data.toList = Oct.putL 0 1 := Oct.putB_list 0 1 (by omega)
                obtain ⟨y1, y2, y3⟩ := HXS.out
                have q2 : (Oct.putB x.lsn 6).data.toList = Oct.putL x.lsn 6 := (Oct.putB_list x.lsn 6 (by omega)).trans (by rw [Oct.word_nat _ (by omega)])
                have q3 : (Oct.putB x.kind 1).data.toList = Oct.putL x.kind 1 := (Oct.putB_list x.kind 1 (by omega)).trans (by rw [Oct.word_nat _ (by omega)])
                have q5 : (Oct.putB x.link 3).data.toList = Oct.putL x.link 3 := (Oct.putB_list x.link 3 (by omega)).trans (by rw [Oct.word_nat _ (by omega)])
                have q6 : (Oct.putB rs.length 2).data.toList = Oct.putL rs.length 2 := (Oct.putB_list rs.length 2 (by omega)).trans (by rw [Oct.word_nat _ (by omega)])
                have q7 : (Oct.putB at_ 2).data.toList = Oct.putL (512 - Pg.sumSizes rs) 2 := (Oct.putB_list at_ 2 (by omega)).trans (by rw [Oct.word_nat _ (by have := HAT.out; omega), HAT.out])
                rw [q1, q2, q3, q4, q5, q6, q7]
              have e2 : S.data.toList = Pg.slotsL 512 rs := by rw [HS.out]
              have e3 : B.data.toList = Pg.bodyL rs := by rw [HB'.out]
              apply Array.toList_inj.1
              simp only [ByteArray.data_append, Array.toList_append, e1, e2, e3, HRl.out, HRm.out]
            · exact (((((HB3.out.trans (HK.out.below (by omega) (by omega))).trans (HK5.out.below (by omega) (by omega))).trans (hbe.mono (by omega))).trans (hk1.below (by omega) (by omega))).trans (hk2.mono (by have := hk1.size; omega))).trans (hk3.below (by omega) (by have := hk1.size; have := hk2.size; omega))
end Go.Proofs.YtkndifannjpbcaaDoor
/- The walks over the reference of chapter 37: the bytes of a page's parts. -/
namespace Go.Proofs.YtkndifannjpbcaaDoor
open Go.RowKit

/-- A slice cut at its end reads as the first texts. -/
theorem Cells.take {w : World} {A : Option Addr} {c : Nat} {rs : List ByteArray} (h : Cells w A c rs) (m : Nat) (hm : m ≤ rs.length) : Cells w A c (rs.take m) := fun h0 => by
  rw [List.length_take] at h0
  obtain ⟨b, off, hA, hc, hlt, hcell⟩ := h (by omega)
  refine ⟨b, off, hA, by rw [List.length_take]; omega, hlt, fun j hj => ?_⟩
  rw [List.getElem_take]; exact hcell j (by rw [List.length_take] at hj; omega)

theorem make_zeros (n : Nat) (hn : n ≤ 4096) (W : World) : (Instr.makeSlice 50 (.int .i64 (n : Int)) (.int .i64 (n : Int))).run Tryd.prog W = .ok (.slice (some ⟨W.heap.size, 0, none⟩) n n) (W.alloc (.cells (madeCells #[Value.int .u8 0] n) 5)) := by
  obtain ⟨i0, hi, hz0, hz1, hz2⟩ := info_parts Tryd.elem8
  have h := run_make (P := Tryd.prog) W 50 5 i0 (.int .u8 0) Tryd.underlying50 hi hz0 .i64 .i64 n n (by omega) (by omega) (by rw [hz2]; omega) (by omega)
  rw [hz1, Int.toNat_natCast, Nat.mul_one] at h
  exact h
theorem zeros_back (n : Nat) (W : World) : (convert 50 9 (.slice (some ⟨W.heap.size, 0, none⟩) n n)).run Tryd.prog (W.alloc (.cells (madeCells #[Value.int .u8 0] n) 5)) = .ok (.string ⟨(List.replicate n 0).toArray⟩) (W.alloc (.cells (madeCells #[Value.int .u8 0] n) 5)) := by
  have h := run_convert_bytes_back (P := Tryd.prog) (W.alloc (.cells (madeCells #[Value.int .u8 0] n) 5)) 50 9 5 ⟨W.heap.size, 0, none⟩ n (List.replicate n 0) Tryd.underlying50 Tryd.underlying5 Tryd.underlying9 (fun j hj => by
    have hj' : j < n := by simpa using hj
    have ha : (⟨W.heap.size, 0, none⟩ : Addr).add j = ⟨W.heap.size, j, none⟩ := by
      unfold Addr.add; split
      · rename_i h; rw [h]
      · simp
    rw [ha, World.cell?_alloc_new]
    simp [madeCells, hj', Nat.mod_one])
  rw [List.length_replicate] at h
  exact h

end Go.Proofs.YtkndifannjpbcaaDoor
/- The walks over package page and its reference: a page taken apart. -/
namespace Go.Proofs.YtkndifannjpbcaaDoor
open Go.RowKit

theorem intOf_small (u : Nat) (h : u < 281474976710656) : Oct.intOf u = (u : Int) := by
  unfold Oct.intOf; rw [if_pos (by omega)]
theorem getN_lt (s : List UInt8) (a k : Nat) (h : k ≤ 6) : Oct.getN s a k < 281474976710656 := by
  have h1 := Oct.getL_lt ((s.drop a).take k)
  have h2 : 256 ^ ((s.drop a).take k).length ≤ 256 ^ 6 := Nat.pow_le_pow_right (by omega) (by rw [List.length_take]; omega)
  unfold Oct.getN; omega

theorem num_any (s : ByteArray) (a size : Int) (h0 : 0 ≤ a) (h1 : 1 ≤ size) (h6 : size ≤ 6) (hin : a + size ≤ s.size) (hm : s.size ≤ 1048576) (w : World) :
    Calls Tryd.prog 40 #[.string s, .int .i64 a, .int .i64 size] w fun e w' => e = .returned (.int .i64 (Oct.getN s.data.toList a.toNat size.toNat)) ∧ Below w.heap.size w w' := by
  obtain ⟨a, rfl⟩ := Int.eq_ofNat_of_zero_le h0
  obtain ⟨k, rfl⟩ := Int.eq_ofNat_of_zero_le (show 0 ≤ size by omega)
  have HC := Lib.hid (fun W => get_yes s a k (by omega) (by omega) (by omega) (by omega) W)
  rw [intOf_small _ (getN_lt _ _ _ (by omega))] at HC
  go_enter Tryd.func40, Tryd.ntmps40
  go_wp2_with (go_at_call 49; refine (HC.out _).mono ?_; rintro e w' ⟨rfl, hb⟩)
  go_ret
  exact ⟨rfl, hb⟩
theorem blk4 {w : World} {b : Nat} {T : TypeId} {v0 v1 v2 v3 : Value} (h : w.heap[b]? = some (.cells #[v0, v1, v2, v3] T (0, 0))) :
    w.cell? ⟨b, 0, none⟩ = some v0 ∧ w.cell? ⟨b, 1, none⟩ = some v1 ∧ w.cell? ⟨b, 2, none⟩ = some v2 ∧ w.cell? ⟨b, 3, none⟩ = some v3 ∧
    w.frozen? ⟨b, 0, none⟩ = false ∧ w.frozen? ⟨b, 1, none⟩ = false ∧ w.frozen? ⟨b, 2, none⟩ = false ∧ w.frozen? ⟨b, 3, none⟩ = false := by
  refine ⟨by rw [cell_of_blk h]; rfl, by rw [cell_of_blk h]; rfl, by rw [cell_of_blk h]; rfl, by rw [cell_of_blk h]; rfl, ?_, ?_, ?_, ?_⟩ <;> simp [World.frozen?, h]
theorem blk_new {w w' : World} {o : Obj} (hb : Below (w.alloc o).heap.size (w.alloc o) w') : w'.heap[w.heap.size]? = some o :=
  (hb.block _ (by simp)).trans (heap_alloc_new w _)
theorem blk_old {w w' : World} {b : Nat} {o : Obj} (h : w.heap[b]? = some o) (hb : Below w.heap.size w w') : w'.heap[b]? = some o := by
  have hlt : b < w.heap.size := by
    rcases Nat.lt_or_ge b w.heap.size with h' | h'
    · exact h'
    · rw [Array.getElem?_eq_none h'] at h; cases h
  rw [hb.block b hlt]; exact h
theorem blk_past {w w' : World} {b : Nat} {o o2 : Obj} (h : w.heap[b]? = some o) (hb : Below (w.alloc o2).heap.size (w.alloc o2) w') : w'.heap[b]? = some o := by
  have hlt : b < w.heap.size := by
    rcases Nat.lt_or_ge b w.heap.size with h' | h'
    · exact h'
    · rw [Array.getElem?_eq_none h'] at h; cases h
  rw [hb.block b (by simp; omega), Below.heap_alloc w o2 b hlt]; exact h
theorem below_past {w w' : World} {o : Obj} (hb : Below (w.alloc o).heap.size (w.alloc o) w') : Below w.heap.size w w' :=
  ((Below.refl _ _).alloc (Nat.le_refl _) _).trans (hb.mono (by simp))

theorem info_string : (Tryd.prog.info? 9).map (fun i => (i.zero, i.size, i.bytes)) = some (some (.string ⟨#[]⟩), 1, 16) := by kernel_rfl

theorem ownsRow_below {w w' : World} {B : Nat} {e : TypeId} {size n : Nat} {v : Value} {xs : List Value} (h : w.ownsRow B e size v n xs) (hb : Below w.heap.size w w') : w'.ownsRow B e size v n xs := by
  refine ⟨h.1, ?_⟩
  rcases h.2 with hz | ⟨g, cap, cur, hv, hg, hh, r⟩
  · exact .inl hz
  · exact .inr ⟨g, cap, cur, hv, hg, blk_old hh hb, r⟩
theorem blk_set {w : World} {b : Nat} (i : Nat) {cs : Array Value} {T : TypeId} {fr : Nat × Nat} (h : w.heap[b]? = some (.cells cs T fr)) (v : Value) : (w.setCell ⟨b, i, none⟩ v).heap[b]? = some (.cells (cs.setIfInBounds i v) T fr) := by
  rw [setCell_eq_setRow w b i cs T fr v h]
  exact setRow_heap w b _ _ T _ h
theorem ownsRow_set {w : World} {B : Nat} {e : TypeId} {size n : Nat} {v : Value} {xs : List Value} (h : w.ownsRow B e size v n xs) (a : Addr) (u : Value) (ha : a.block < B) : (w.setCell a u).ownsRow B e size v n xs := by
  refine ⟨h.1, ?_⟩
  rcases h.2 with hz | ⟨g, cap, cur, hv, hg, hh, r⟩
  · exact .inl hz
  · exact .inr ⟨g, cap, cur, hv, hg, by rw [Below.heap_setCell _ _ _ _ (by omega)]; exact hh, r⟩
theorem own_alloc_drew {w : World} {B : Nat} {e : TypeId} {size n : Nat} {v : Value} {xs : List Value} (h : w.ownsRow B e size v n xs) (o : Obj) : (w.alloc o).drew.ownsRow B e size v n xs :=
  ownsRow_below h (((Below.refl _ _).alloc (Nat.le_refl _) o).drew)

theorem extract_eq (p : ByteArray) (a l : Nat) : p.extract a (a + l) = ⟨((p.data.toList.drop a).take l).toArray⟩ := by
  apply ByteArray.ext
  apply Array.ext'
  simp

/-- A slice of texts whose block is at B or past it. -/
def OwnCells (B : Nat) (w : World) (A : Option Addr) (c : Nat) (rs : List ByteArray) : Prop :=
  0 < rs.length → ∃ b, A = some ⟨b, 0, none⟩ ∧ B ≤ b ∧ rs.length ≤ c ∧ b < w.heap.size ∧ ∀ j (hj : j < rs.length), w.cell? ⟨b, j, none⟩ = some (.string rs[j])
theorem OwnCells.cells {B : Nat} {w : World} {A : Option Addr} {c : Nat} {rs : List ByteArray} (h : OwnCells B w A c rs) : Cells w A c rs := fun h0 => by
  obtain ⟨b, hA, hB, hc, hlt, hcell⟩ := h h0
  exact ⟨b, 0, hA, hc, hlt, fun j hj => by rw [Nat.zero_add]; exact hcell j hj⟩
theorem OwnCells.set {B : Nat} {w : World} {A : Option Addr} {c : Nat} {rs : List ByteArray} (h : OwnCells B w A c rs) (a : Addr) (ha : a.block < B) (u : Value) : OwnCells B (w.setCell a u) A c rs := fun h0 => by
  obtain ⟨b, hA, hB, hc, hlt, hcell⟩ := h h0
  refine ⟨b, hA, hB, hc, by simpa using hlt, fun j hj => ?_⟩
  rw [← hcell j hj]
  exact World.cell?_of_block (Below.heap_setCell _ _ _ _ (by simp; omega))
theorem OwnCells.mono {B B' : Nat} {w : World} {A : Option Addr} {c : Nat} {rs : List ByteArray} (h : OwnCells B w A c rs) (hB : B' ≤ B) : OwnCells B' w A c rs := fun h0 => by
  obtain ⟨b, hA, h1, h2⟩ := h h0
  exact ⟨b, hA, by omega, h2⟩
theorem OwnCells.below {B : Nat} {w w' : World} {A : Option Addr} {c : Nat} {rs : List ByteArray} (h : OwnCells B w A c rs) (hb : Below w.heap.size w w') : OwnCells B w' A c rs := fun h0 => by
  obtain ⟨b, hA, h1, h2, h3, h4⟩ := h h0
  refine ⟨b, hA, h1, h2, Nat.lt_of_lt_of_le h3 hb.size, fun j hj => ?_⟩
  rw [hb.cell (p := ⟨b, j, none⟩) h3]; exact h4 j hj
theorem own_cells {w : World} {B : Nat} {e : TypeId} {A : Option Addr} {k c : Nat} {rs : List ByteArray} (h : w.ownsRow B e 1 (.slice A k c) k (rs.map Value.string)) (hl : rs.length = k) : OwnCells B w A c rs := fun h0 => by
  rcases h.2 with ⟨h9, -⟩ | ⟨g, cap, cur, hv, hg, hh, h1, h2, h3, h4⟩
  · simp at h9; omega
  · have hv2 : A = some ⟨g, 0, none⟩ ∧ c = cap := by simpa using hv
    obtain ⟨rfl, rfl⟩ := hv2
    refine ⟨g, rfl, hg, by omega, (Array.getElem?_eq_some_iff.1 hh).1, fun j hj => ?_⟩
    have h5 : cur.toList[j]? = some (.string rs[j]) := by
      have h6 : (rs.map Value.string)[j]? = some (.string rs[j]) := by simp [hj]
      rw [← h4, List.getElem?_take_of_lt (by omega)] at h6
      exact h6
    rw [cell_of_blk hh]
    simpa using h5

/-- The struct of a page's parts. -/
abbrev leafV (x : Pg.Leaf) (A : Option Addr) (c : Nat) : Value := .agg #[.int .i64 x.lsn, .int .i64 x.kind, .int .i64 x.link, .slice A x.recs.length c]
abbrev zeroV : Value := .agg #[.int .i64 0, .int .i64 0, .int .i64 0, .slice none 0 0]
/-- What comes back where a page is taken apart: the parts and true, or zero and false. -/
def Gives1 (r : Option Pg.Leaf) (w : World) (e : Ending) (w' : World) : Prop :=
  (match r with
    | some x => ∃ A c, e = .returned (.tuple #[leafV x A c, .bool true]) ∧ OwnCells w.heap.size w' A c x.recs
    | none => e = .returned (.tuple #[zeroV, .bool false])) ∧ Below w.heap.size w w'

set_option maxRecDepth 100000 in
set_option maxHeartbeats 2000000 in
theorem read_any (p : ByteArray) (_hm : p.size ≤ 140737488355328) (w : World) :
    Calls Tryd.prog 26 #[.string p] w (Gives1 (Pg.rd p.data.toList) w) := by
  by_cases h512 : p.size = 512
  · have HL := Lib.hid (show p.data.toList.length = 512 by have h9 : p.data.toList.length = p.size := (by simp); omega)
    obtain ⟨lsn, hlsn⟩ : ∃ n, n = Oct.getN p.data.toList 4 6 := ⟨_, rfl⟩
    obtain ⟨kind, hkind⟩ : ∃ n, n = Oct.getN p.data.toList 10 1 := ⟨_, rfl⟩
    obtain ⟨link, hlink⟩ : ∃ n, n = Oct.getN p.data.toList 12 3 := ⟨_, rfl⟩
    obtain ⟨n, hn⟩ : ∃ n, n = Oct.getN p.data.toList 15 2 := ⟨_, rfl⟩
    have HN1 := Lib.hid (fun W => num_any p 4 6 (by omega) (by omega) (by omega) (by omega) (by omega) W)
    have HN2 := Lib.hid (fun W => num_any p 10 1 (by omega) (by omega) (by omega) (by omega) (by omega) W)
    have HN3 := Lib.hid (fun W => num_any p 12 3 (by omega) (by omega) (by omega) (by omega) (by omega) W)
    have HN4 := Lib.hid (fun W => num_any p 15 2 (by omega) (by omega) (by omega) (by omega) (by omega) W)
    rw [show ((4 : Int).toNat) = 4 from rfl, show ((6 : Int).toNat) = 6 from rfl, ← hlsn] at HN1
    rw [show ((10 : Int).toNat) = 10 from rfl, show ((1 : Int).toNat) = 1 from rfl, ← hkind] at HN2
    rw [show ((12 : Int).toNat) = 12 from rfl, show ((3 : Int).toNat) = 3 from rfl, ← hlink] at HN3
    rw [show ((15 : Int).toNat) = 15 from rfl, show ((2 : Int).toNat) = 2 from rfl, ← hn] at HN4
    have HQ1 := Lib.hid hlsn
    have HQ2 := Lib.hid hkind
    have HQ3 := Lib.hid hlink
    have HQ4 := Lib.hid hn
    clear hlsn hkind hlink hn
    by_cases hbad : 4 < kind ∨ 123 < n
    · have HR := Lib.hid (show Pg.rd p.data.toList = none by rw [Pg.rd, if_pos (by rw [← HQ2.out, ← HQ4.out]; exact .inr hbad)])
      have hb1 : 4 < kind ∨ (kind ≤ 4 ∧ 123 < n) := by omega
      clear hbad
      rcases hb1 with h1 | ⟨h1, h2⟩
      all_goals
        go_enter Tryd.func26, Tryd.ntmps26
        go_wp2_with (first | (go_at_call 40; (with_reducible refine (HN1.out _).mono ?_); rintro e w1 ⟨rfl, hb1⟩) | (go_at_call 40; (with_reducible refine (HN2.out _).mono ?_); rintro e w2 ⟨rfl, hb2⟩) | (go_at_call 40; (with_reducible refine (HN3.out _).mono ?_); rintro e w3 ⟨rfl, hb3⟩) | (go_at_call 40; (with_reducible refine (HN4.out _).mono ?_); rintro e w4 ⟨rfl, hb4⟩; obtain ⟨a0, a1, a2, a3, -⟩ := blk4 (blk_new hb4); obtain ⟨c0, c1, c2, c3, f0, f1, f2, f3⟩ := blk4 (blk_past (blk_old (blk_old (blk_new hb1) hb2) hb3) hb4)))
        refine bodyPost_ret (v := .tuple #[zeroV, .bool false]) (by simp [results, Tryd.results26, go_sem, c0, c1, c2, c3]) rfl ?_
        unfold Gives1
        rw [HR.out]
        have hbw : Below w.heap.size w w4 := andThen (andThen (andThen (below_past hb1) hb2) hb3) (below_past hb4)
        refine ⟨rfl, ?_⟩
        repeat (first | exact hbw | refine Below.setCell ?_ (by simp) _)
    · obtain ⟨hk4, hn123⟩ : kind ≤ 4 ∧ n ≤ 123 := by omega
      have HRD := Lib.hid (show Pg.rd p.data.toList = (Pg.recsOf p.data.toList n).map fun rs => ⟨lsn, kind, link, rs⟩ by
        rw [Pg.rd, if_neg (by rw [← HQ2.out, ← HQ4.out]; have := HL.out; omega), ← HQ1.out, ← HQ2.out, ← HQ3.out, ← HQ4.out])
      clear hbad
      go_enter Tryd.func26, Tryd.ntmps26
      go_upto_block 0 with (first | (go_at_call 40; (with_reducible refine (HN1.out _).mono ?_); rintro e w1 ⟨rfl, hb1⟩) | (go_at_call 40; (with_reducible refine (HN2.out _).mono ?_); rintro e w2 ⟨rfl, hb2⟩) | (go_at_call 40; (with_reducible refine (HN3.out _).mono ?_); rintro e w3 ⟨rfl, hb3⟩) | (go_at_call 40; (with_reducible refine (HN4.out _).mono ?_); rintro e w4 ⟨rfl, hb4⟩; obtain ⟨a0, a1, a2, a3, -⟩ := blk4 (blk_new hb4)))
      have hX := blk_new hb4
      have hZ := blk_past (blk_old (blk_old (blk_new hb1) hb2) hb3) hb4
      have hbw : Below w.heap.size w w4 := andThen (andThen (andThen (below_past hb1) hb2) hb3) (below_past hb4)
      have hlt : w.heap.size < w3.heap.size := by
        have := hb1.size; have := hb2.size; have := hb3.size; simp at *; omega
      have hlt4 : w3.heap.size < w4.heap.size := by have := hb4.size; simp at this; omega
      clear hb1 hb2 hb3 hb4 a0 a1 a2 a3
      generalize w3.heap.size = X at hX hlt hlt4 ⊢
      have HX := Lib.hid hX
      have HZ := Lib.hid hZ
      have HW := Lib.hid hbw
      clear hX hZ hbw
      go_wp2_with fail
      go_loopw [31] (fun i wr => ∃ (k : Nat) (rs : List ByteArray) (A : Option Addr) (c : Nat), k ≤ n ∧ i = .int .i64 k ∧ Pg.recsOf p.data.toList k = some rs ∧ wr.heap[X]? = some (.cells #[.int .i64 lsn, .int .i64 kind, .int .i64 link, .slice A k c] 40 (0, 0)) ∧ wr.heap[w.heap.size]? = some (.cells #[.int .i64 0, .int .i64 0, .int .i64 0, .slice none 0 0] 40 (0, 0)) ∧ wr.ownsRow w4.heap.size 9 1 (.slice A k c) k (rs.map Value.string) ∧ Below w.heap.size w wr ∧ w4.heap.size ≤ wr.heap.size) (fun i _ => n - (intOf i).toNat)
      case atStart => exact ⟨0, [], none, 0, Nat.zero_le _, rfl, rfl, HX.out, HZ.out, ⟨rfl, .inl ⟨rfl, rfl⟩⟩, HW.out, Nat.le_refl _⟩
      case round =>
        obtain ⟨k, rs, A, c, hk, rfl, hrs, hX, hZ, hown, hbw, hge⟩ := hrel
        have hrl := Pg.recsOf_length _ _ _ hrs
        have HRS := Lib.hid hrs
        have HX2 := Lib.hid hX
        have HZ2 := Lib.hid hZ
        have HO := Lib.hid hown
        have HW2 := Lib.hid hbw
        have HRL := Lib.hid hrl
        clear hrs hX hZ hown hbw hrl
        by_cases hkn : k < n
        · obtain ⟨at_, hat⟩ : ∃ a, a = Oct.getN p.data.toList (19 + 4 * k) 2 := ⟨_, rfl⟩
          obtain ⟨long, hlong⟩ : ∃ a, a = Oct.getN p.data.toList (21 + 4 * k) 2 := ⟨_, rfl⟩
          have hal : at_ < 65536 := by
            have h1 := Oct.getL_lt ((p.data.toList.drop (19 + 4 * k)).take 2)
            have h2 : 256 ^ ((p.data.toList.drop (19 + 4 * k)).take 2).length ≤ 256 ^ 2 := Nat.pow_le_pow_right (by omega) (by rw [List.length_take]; omega)
            rw [hat]; unfold Oct.getN; omega
          have hll : long < 65536 := by
            have h1 := Oct.getL_lt ((p.data.toList.drop (21 + 4 * k)).take 2)
            have h2 : 256 ^ ((p.data.toList.drop (21 + 4 * k)).take 2).length ≤ 256 ^ 2 := Nat.pow_le_pow_right (by omega) (by rw [List.length_take]; omega)
            rw [hlong]; unfold Oct.getN; omega
          have HA := Lib.hid (fun W => num_any p (19 + 4 * (k : Int)) 2 (by omega) (by omega) (by omega) (by omega) (by omega) W)
          have HB := Lib.hid (fun W => num_any p (19 + 4 * (k : Int) + 2) 2 (by omega) (by omega) (by omega) (by omega) (by omega) W)
          rw [show (19 + 4 * (k : Int)).toNat = 19 + 4 * k by omega, show ((2 : Int).toNat) = 2 from rfl, ← hat] at HA
          rw [show (19 + 4 * (k : Int) + 2).toNat = 21 + 4 * k by omega, show ((2 : Int).toNat) = 2 from rfl, ← hlong] at HB
          have HAT := Lib.hid hat
          have HLO := Lib.hid hlong
          clear hat hlong
          by_cases hbad : 400 < long ∨ 512 < at_ + long
          · have HN := Lib.hid (show Pg.rd p.data.toList = none by
              have h1 : Pg.recsOf p.data.toList (k + 1) = none := by
                simp only [Pg.recsOf, HRS.out]
                rw [if_pos (by rw [← HAT.out, ← HLO.out]; exact hbad)]
              have h2 := Pg.recsOf_none _ h1 (n - (k + 1))
              rw [show k + 1 + (n - (k + 1)) = n by omega] at h2
              rw [HRD.out, h2]; rfl)
            have hb1 : 400 < long ∨ (long ≤ 400 ∧ (512 : Int) - (long : Int) < (at_ : Int)) := by omega
            clear hbad
            rcases hb1 with h1 | ⟨h1, h2⟩
            all_goals
              go_wp2_with (first | (go_at_call 40; (with_reducible refine (HA.out _).mono ?_); rintro e w5 ⟨rfl, hb5⟩) | (go_at_call 40; (with_reducible refine (HB.out _).mono ?_); rintro e w6 ⟨rfl, hb6⟩; obtain ⟨c0, c1, c2, c3, f0, f1, f2, f3⟩ := blk4 (blk_old (blk_old HZ2.out hb5) hb6)))
              refine bodyPost_ret (v := .tuple #[zeroV, .bool false]) (by simp [results, Tryd.results26, go_sem, c0, c1, c2, c3]) rfl ?_
              unfold Gives1
              rw [HN.out]
              have hbw6 : Below w.heap.size w w6 := andThen (andThen HW2.out hb5) hb6
              refine ⟨rfl, ?_⟩
              repeat (first | exact hbw6 | refine Below.setCell ?_ (by simp) _)
          · obtain ⟨hl4, hal5⟩ : long ≤ 400 ∧ at_ + long ≤ 512 := by omega
            clear hbad
            go_upto_region 13 with (first | (go_at_call 40; (with_reducible refine (HA.out _).mono ?_); rintro e w5 ⟨rfl, hb5⟩) | (go_at_call 40; (with_reducible refine (HB.out _).mono ?_); rintro e w6 ⟨rfl, hb6⟩))
            obtain ⟨i0, hi0, hz0, hz1, hz2⟩ := info_parts info_string
            have hb56 : Below wr.heap.size wr w6 := andThen hb5 hb6
            have hX6 := blk_old HX2.out hb56
            have hZ6 := blk_old HZ2.out hb56
            have hown6 : w6.ownsRow w4.heap.size 9 1 (.slice A k c) k (rs.map Value.string) := ownsRow_below HO.out hb56
            have hW6 : Below w.heap.size w w6 := andThen HW2.out hb56
            have hs6 := hb56.size
            obtain ⟨x0, x1, x2, x3, g0, g1, g2, g3⟩ := blk4 hX6
            have hp1 : (0 : Int) ≤ (at_ : Int) := by omega
            have hp2 : (at_ : Int) ≤ (at_ : Int) + (long : Int) := by omega
            have hp3 : (at_ : Int) + (long : Int) ≤ 512 := by omega
            have hp4 : IntKind.i64.wrap ((at_ : Int) + (long : Int)) = (at_ : Int) + (long : Int) := IntWalk.i64_in _ (by omega)
            have hp5 : ((at_ : Int) + (long : Int)).toNat = at_ + long := by omega
            have hp6 : 0 ≤ (at_ : Int) + (long : Int) := by omega
            have hp7 : at_ ≤ at_ + long := by omega
            have hp8 : at_ + long ≤ p.size := by omega
            clear hb5 hb6 hb56
            have HF := Lib.hid (show ∀ w7 : World, ((w6.alloc (.cells #[.string (p.extract at_ (at_ + long))] 9)).drew).grownBy w7 (Value.slice A k c).ownBlock → ∀ (b : Nat) (o : Obj), b < w4.heap.size → w6.heap[b]? = some o → w7.heap[b]? = some o by
              intro w7 hg b o hb ho
              rw [hg.block b (by simp; omega) (fun e9 => absurd (hown6.lt b e9.symm).1 (by omega))]
              exact (Below.heap_alloc w6 _ b (by omega)).trans ho)
            obtain ⟨-, -, -, z3, -⟩ := blk4 ((Below.heap_alloc w6 (.cells #[.string (p.extract at_ (at_ + long))] 9) X (by omega)).trans hX6)
            go_region_law? (refine step_append_lies _ (by rfl) _ _ _ (by rfl) w4.heap.size 9 i0 (.string ⟨#[]⟩) 1 16 Tryd.underlying34 hi0 hz0 hz1 hz2 rfl (by omega) (.slice A k c) k (rs.map Value.string) (by rfl) (own_alloc_drew hown6 _) ⟨w6.heap.size, 0, none⟩ 1 1 [.string (p.extract at_ (at_ + long))] (by rfl) (by rfl) (World.news_of_block (cs := #[.string (p.extract at_ (at_ + long))]) (t := 9) (fr := (0, 0)) (heap_alloc_new w6 _)) (by simp [Value.oneCell']) (by omega) (by simp [maxLen]; omega) (by omega) (by simp; omega) (w6.heap.size + 1) (by simp) ?_; intro gg cap w7 hown7 hgrow hat7 hlt7; obtain ⟨y0, y1, y2, y3, k0, k1, k2, k3⟩ := blk4 (HF.out w7 hgrow X _ hlt4 hX6))
            all_goals
              have hX7 := HF.out w7 hgrow X _ hlt4 hX6
              have hZ7 := HF.out w7 hgrow w.heap.size _ (by omega) hZ6
              have hb7 : Below w.heap.size w w7 := ((hW6.alloc (by omega) _).drew).grown hgrow (by simp; omega) (fun k9 e9 => by have := (hown6.lt k9 e9).1; omega)
              have hs7 : w6.heap.size + 1 ≤ w7.heap.size := by have := hgrow.size; simp at this; omega
              go_wp2_with fail
              go_roundw
              case rel =>
                refine ⟨k + 1, rs ++ [p.extract at_ (at_ + long)], some ⟨gg, 0, none⟩, cap, by omega, by go_num, ?_, ?_, ?_, ?_, ?_, ?_⟩
                · simp only [Pg.recsOf, HRS.out]
                  rw [if_neg (by rw [← HAT.out, ← HLO.out]; omega), ← HAT.out, ← HLO.out]
                  rw [extract_eq]
                · have := blk_set 3 hX7 (.slice (some ⟨gg, 0, none⟩) (k + 1) cap)
                  simpa using this
                · rw [Below.heap_setCell _ _ _ _ (by simp; omega)]; exact hZ7
                · have := ownsRow_set hown7 ⟨X, 3, none⟩ (.slice (some ⟨gg, 0, none⟩) (k + 1) cap) hlt4
                  simpa using this
                · exact hb7.setCell (by simp; omega) _
                · simp; omega
              case measure => simp [intOf]; omega
        · obtain rfl : k = n := by omega
          have hX := HX2.out
          obtain ⟨x0, x1, x2, x3, -⟩ := blk4 HX2.out
          obtain ⟨c0, c1, c2, c3, f0, f1, f2, f3⟩ := blk4 HZ2.out
          have hne : X ≠ w.heap.size := by omega
          go_wp2_with fail
          refine bodyPost_ret (v := .tuple #[leafV ⟨lsn, kind, link, rs⟩ A c, .bool true]) (by simp [results, Tryd.results26, go_sem, c0, c1, c2, c3]; exact HRL.out.symm) rfl ?_
          unfold Gives1
          rw [HRD.out, HRS.out]
          have hlen := HRL.out
          have hcl := own_cells HO.out hlen
          refine ⟨⟨A, c, by simp [leafV, hlen], ?_⟩, ?_⟩
          · refine OwnCells.mono (B := w4.heap.size) ?_ (by omega)
            repeat (first | exact hcl | refine OwnCells.set ?_ _ (by simp; omega) _)
          · repeat (first | exact HW2.out | refine Below.setCell ?_ (by simp) _)
  · have hne : ((p.size : Int) == 512) = false := by simp; omega
    have HR := Lib.hid (show Pg.rd p.data.toList = none by
      rw [Pg.rd, if_pos (.inl (by have h9 : p.data.toList.length = p.size := (by simp); omega))])
    clear h512
    go_enter Tryd.func26, Tryd.ntmps26
    go_wp2_with fail
    refine bodyPost_ret (v := .tuple #[zeroV, .bool false]) (by simp [results, Tryd.results26, go_sem]) rfl ?_
    unfold Gives1
    rw [HR.out]
    exact ⟨rfl, (Below.refl _ _).alloc (Nat.le_refl _) _⟩
end Go.Proofs.YtkndifannjpbcaaDoor
