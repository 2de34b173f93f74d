/- strings.Builder: what WriteString and String do, with a frame that keeps another builder's bytes. -/
import Derived.Test.YtgbihdlahghonaaProg
import Derived.Test.YtgbihdlahghonaaShelf
import Derived.WalkKit
import Derived.WalkSpells
import Derived.WalkLawsBesides
import Derived.Lib.Hide
import Derived.Lib.AppendStr
import Derived.RegionTactic
import Derived.BigRegion
import Derived.ChangeAlike
import Derived.Lib.UnsafeStr
import Derived.Lib.Builder
namespace Go.Proofs.Ytgbihdlahghonaa
open Go.RowKit

/-- Block b is a builder that holds the bytes l; its row of bytes, if there is one, is block number B or later, and ahead of H. -/
def Bld (B H b : Nat) (l : List UInt8) (w : World) : Prop :=
  b < B ∧ ∃ p v, w.heap[b]? = some (.cells #[p, v] 108 (0, 0)) ∧ (p = .pointer none ∨ p = .pointer (some ⟨b, 0, none⟩)) ∧ w.ownsRow B 5 1 v l.length (Lib.byteCells l) ∧ (∀ g, v.ownBlock = some g → g < H)

/-- Only block b, and the blocks from B on, may have turned. -/
structure KeptB (B b : Nat) (w w' : World) : Prop where
  os : w'.os = w.os
  tape : w'.tape = w.tape
  output : w'.output = w.output
  size : w.heap.size ≤ w'.heap.size
  block : ∀ k, k < B → k ≠ b → w'.heap[k]? = w.heap[k]?

theorem KeptB.refl (B b : Nat) (w : World) : KeptB B b w w := ⟨rfl, rfl, rfl, Nat.le_refl _, fun _ _ _ => rfl⟩
theorem KeptB.trans {B b : Nat} {u v w : World} (h : KeptB B b u v) (k : KeptB B b v w) : KeptB B b u w :=
  ⟨k.os.trans h.os, k.tape.trans h.tape, k.output.trans h.output, Nat.le_trans h.size k.size, fun i hi hb => (k.block i hi hb).trans (h.block i hi hb)⟩
theorem KeptB.of_below {B b : Nat} {u v : World} (hB : B ≤ u.heap.size) (h : Below u.heap.size u v) : KeptB B b u v :=
  ⟨h.os, h.tape, h.output, h.size, fun i hi _ => h.block i (by omega)⟩
theorem KeptB.below {B b lo : Nat} {u v : World} (h : KeptB B b u v) (h1 : lo ≤ B) (h2 : lo ≤ b) : Below lo u v :=
  ⟨h.os, h.tape, h.output, h.size, fun i hi => h.block i (by omega) (by omega)⟩
theorem copyCheck_fresh (b : Nat) (w : World) (h0 : w.cell? ⟨b, 0, none⟩ = some (.pointer none)) (hsh : w.shape? b = some (108, 2)) (hfz : w.frozen? ⟨b, 0, none⟩ = false) :
    Calls Try.prog 125 #[.pointer (some ⟨b, 0, none⟩)] w fun e w' => e = .returned (.tuple #[]) ∧ w' = w.setCell ⟨b, 0, none⟩ (.pointer (some ⟨b, 0, none⟩)) :=
  Any.Builder_copyCheck_fresh (ρ := Try.lays105_ren) { Try.lays105 with } Try.Builder_Extra_105.toX72 b w h0 hsh hfz
theorem copyCheck_used (b : Nat) (w : World) (h0 : w.cell? ⟨b, 0, none⟩ = some (.pointer (some ⟨b, 0, none⟩))) :
    Calls Try.prog 125 #[.pointer (some ⟨b, 0, none⟩)] w fun e w' => e = .returned (.tuple #[]) ∧ w' = w :=
  Any.Builder_copyCheck_used (ρ := Try.lays105_ren) { Try.lays105 with } Try.Builder_Extra_105.toX72 b w h0

theorem cell_of_blk {w : World} {g : Nat} {cs : Array Value} {t : TypeId} {fr : Nat × Nat} (h : w.heap[g]? = some (.cells cs t fr)) (i : Nat) : w.cell? ⟨g, i, none⟩ = cs[i]? := by simp [World.cell?, h]

theorem heap_set (w : World) (b i : Nat) (p v u : Value) (T : TypeId) (h : w.heap[b]? = some (.cells #[p, v] T (0, 0))) : (w.setCell ⟨b, i, none⟩ u).heap[b]? = some (.cells (#[p, v].setIfInBounds i u) T (0, 0)) := by
  simp [World.setCell, Array.getElem?_modify, h]

theorem bld_size {B H b : Nat} {l : List UInt8} {w : World} (h : Bld B H b l w) : b < w.heap.size := by
  obtain ⟨_, p, v, hb, _⟩ := h
  rcases Nat.lt_or_ge b w.heap.size with h' | h'
  · exact h'
  · rw [Array.getElem?_eq_none h'] at hb; cases hb

theorem own_set {w : World} {B b i : Nat} {v u : Value} {n : Nat} {xs : List Value} (hbB : b < B) (h : w.ownsRow B 5 1 v n xs) : (w.setCell ⟨b, i, none⟩ u).ownsRow B 5 1 v n xs := by
  refine ⟨h.1, ?_⟩
  rcases h.2 with hz | ⟨g, cap, cur, hv, hg, hh, r⟩
  · exact .inl hz
  · exact .inr ⟨g, cap, cur, hv, hg, by rw [Below.heap_setCell _ _ _ _ (by show g ≠ b; omega)]; exact hh, r⟩

theorem copyCheck_any (B H b : Nat) (l : List UInt8) (w : World) (h : Bld B H b l w) :
    Calls Try.prog 125 #[.pointer (some ⟨b, 0, none⟩)] w fun e w' => e = .returned (.tuple #[]) ∧
      (b < B ∧ ∃ v, w'.heap[b]? = some (.cells #[.pointer (some ⟨b, 0, none⟩), v] 108 (0, 0)) ∧ w'.ownsRow B 5 1 v l.length (Lib.byteCells l) ∧ (∀ g, v.ownBlock = some g → g < H)) ∧ KeptB B b w w' ∧ w'.heap.size = w.heap.size := by
  obtain ⟨hbB, p, v, hb, hp, hown, hg⟩ := h
  rcases hp with rfl | rfl
  · refine (copyCheck_fresh b w (by rw [cell_of_blk hb]; rfl) (by simp [World.shape?, hb]) (by simp [World.frozen?, hb])).mono ?_
    rintro e w' ⟨rfl, rfl⟩
    refine ⟨rfl, ⟨hbB, v, heap_set w b 0 _ _ _ _ hb, own_set hbB hown, hg⟩, ⟨rfl, rfl, rfl, by simp [World.setCell], fun k _ hk => Below.heap_setCell _ _ _ _ hk⟩, by simp [World.setCell]⟩
  · refine (copyCheck_used b w (by rw [cell_of_blk hb]; rfl)).mono ?_
    rintro e w' ⟨rfl, rfl⟩
    exact ⟨rfl, ⟨hbB, v, hb, hown, hg⟩, ⟨rfl, rfl, rfl, Nat.le_refl _, fun _ _ _ => rfl⟩, rfl⟩

theorem cells_byte : Try.prog.cellsOf 5 = 1 := by kernel_rfl
theorem info_byte : (Try.prog.info? 5).map (fun i => (i.zero, i.size, i.bytes)) = some (some (.int .u8 0), 1, 1) := by kernel_rfl

set_option maxHeartbeats 1000000 in
theorem write_any (B H b : Nat) (l : List UInt8) (s : ByteArray) (w : World) (h : Bld B H b l w) (hlen : l.length + s.size ≤ 140737488355328) (hBw : B ≤ w.heap.size) :
    Calls Try.prog 112 #[.pointer (some ⟨b, 0, none⟩), .string s] w fun e w' => e = .returned (.tuple #[.int .i64 s.size, .nilIface]) ∧ Bld B w'.heap.size b (l ++ s.data.toList) w' ∧ KeptB B b w w' := by
  obtain ⟨i0, hi, hz0, hz1, hz2⟩ := info_parts info_byte
  have HC := Lib.hid (copyCheck_any B H b l w h)
  clear h
  go_enter Try.func112, Try.ntmps112
  go_wp2_with (go_at_call 125; refine HC.out.mono ?_)
  rintro e w1 ⟨rfl, ⟨hbB, v, hbk, hown, hg⟩, hk1, hs1⟩
  have c1 : w1.cell? ⟨b, 1, none⟩ = some v := by rw [cell_of_blk hbk]; rfl
  go_wp2_with (at_builtin; refine Lib.wpList_append_own_string _ rfl _ _ 30 9 rfl B 5 i0 Try.underlying30 Try.underlying9 hi hz0 hz1 hz2 _ _ _ rfl hown s rfl ?c3 ?c4 ?c5 ?_)
  case c3 => unfold maxLen; omega
  case c4 => omega
  case c5 => omega
  intro v' w2 hown' hgrow _
  have hlt : b < w1.heap.size := by
    rcases Nat.lt_or_ge b w1.heap.size with h' | h'
    · exact h'
    · rw [Array.getElem?_eq_none h'] at hbk; cases hbk
  have hne : v.ownBlock ≠ some b := fun e => by
    have := (hown.lt b e).1; omega
  have hb2 : w2.heap[b]? = some (.cells #[.pointer (some ⟨b, 0, none⟩), v] 108 (0, 0)) := by
    rw [hgrow.block b hlt (fun e => hne e.symm)]; exact hbk
  have d1 : w2.cell? ⟨b, 1, none⟩ = some v := by rw [cell_of_blk hb2]; rfl
  have f1 : w2.frozen? ⟨b, 1, none⟩ = false := by simp [World.frozen?, hb2]
  obtain ⟨ao, n', cap, rfl⟩ : ∃ ao n' cap, v' = .slice ao n' cap := by
    rcases hown'.2 with ⟨hv, _⟩ | ⟨g, cap, cur, hv, _⟩
    · exact ⟨_, _, _, hv⟩
    · exact ⟨_, _, _, hv⟩
  go_wp2_with fail
  go_ret2
  refine ⟨rfl, ?_, ?_⟩
  · have hbs : Lib.byteCells (l ++ s.data.toList) = Lib.byteCells l ++ Lib.strCells s := by
      simp [Lib.byteCells, Lib.strCells]
    refine ⟨hbB, _, _, heap_set w2 b 1 _ _ _ _ hb2, .inr rfl, ?_, fun g hg => ?_⟩
    · have := own_set (i := 1) (u := .slice ao n' cap) hbB hown'
      rw [hbs, List.length_append, show s.data.toList.length = s.size by simp]
      exact this
    · have := (hown'.lt g hg).2
      simpa [World.setCell] using this
  · refine ⟨hgrow.os.trans hk1.os, hgrow.tape.trans hk1.tape, hgrow.output.trans hk1.output, ?_, fun k hk hkb => ?_⟩
    · have := hgrow.size
      simp [World.setCell]; omega
    · rw [Below.heap_setCell _ _ _ _ hkb, hgrow.block k (by omega) (fun e => by have := (hown.lt k e.symm).1; omega), hk1.block k hk hkb]

/-- Only blocks from B to H, and new ones, may have turned. -/
structure KeptR (B H : Nat) (w w' : World) : Prop where
  os : w'.os = w.os
  tape : w'.tape = w.tape
  output : w'.output = w.output
  size : w.heap.size ≤ w'.heap.size
  block : ∀ k, k < w.heap.size → (k < B ∨ H ≤ k) → w'.heap[k]? = w.heap[k]?

theorem KeptR.drew (B H : Nat) (w : World) : KeptR B H w w.drew := ⟨rfl, rfl, rfl, Nat.le_refl _, fun _ _ _ => rfl⟩
theorem KeptR.alloc (B H : Nat) (w : World) (o : Obj) : KeptR B H w (w.alloc o).drew :=
  ⟨rfl, rfl, rfl, by show w.heap.size ≤ (w.heap.push o).size; simp, fun k hk _ => Below.heap_alloc w o k hk⟩
theorem KeptR.freeze (B H g n : Nat) (w : World) (h1 : B ≤ g) (h2 : g < H) : KeptR B H w (w.drew.freeze ⟨g, 0, none⟩ n) := by
  have hh : ∀ W : World, (W.freeze ⟨g, 0, none⟩ n).os = W.os ∧ (W.freeze ⟨g, 0, none⟩ n).tape = W.tape ∧ (W.freeze ⟨g, 0, none⟩ n).output = W.output ∧ (W.freeze ⟨g, 0, none⟩ n).heap.size = W.heap.size ∧ ∀ k, k ≠ g → (W.freeze ⟨g, 0, none⟩ n).heap[k]? = W.heap[k]? := by
    intro W
    unfold World.freeze
    split
    · exact ⟨rfl, rfl, rfl, rfl, fun _ _ => rfl⟩
    · refine ⟨rfl, rfl, rfl, by simp, fun k hk => ?_⟩
      simp only [Array.getElem?_modify]
      rw [if_neg (fun e => hk e.symm)]
  obtain ⟨e1, e2, e3, e4, e5⟩ := hh w.drew
  exact ⟨e1, e2, e3, by rw [e4]; exact Nat.le_refl _, fun k _ hk => e5 k (by omega)⟩

theorem ptr_type : Try.prog.underlying 122 = some (.pointer 5) := by kernel_rfl

set_option maxHeartbeats 2000000 in
set_option maxRecDepth 100000 in
theorem string_some (B H b : Nat) (l : List UInt8) (w : World) (h : Bld B H b l w) (h0 : l ≠ []) :
    Calls Try.prog 113 #[.pointer (some ⟨b, 0, none⟩)] w fun e w' => e = .returned (.string ⟨l.toArray⟩) ∧ KeptR B H w w' := by
  obtain ⟨hbB, p, v, hbk, hp, hown, hg⟩ := h
  have hl0 : l.length ≠ 0 := by simpa using h0
  obtain ⟨g, cap, cur, rfl, hbg, hgc, hnc, hcm, hcs, htake⟩ : ∃ g cap cur, v = .slice (some ⟨g, 0, none⟩) l.length cap ∧ B ≤ g ∧ w.heap[g]? = some (.cells cur 5 (0, 0)) ∧ l.length ≤ cap ∧ cap ≤ maxLen ∧ cur.size = cap * 1 ∧ cur.toList.take (l.length * 1) = Lib.byteCells l := by
    rcases hown.2 with ⟨_, hz⟩ | ⟨g, cap, cur, hv, r⟩
    · exact absurd hz hl0
    · exact ⟨g, cap, cur, hv, r⟩
  have hgH : g < H := hg g rfl
  have c1 : w.drew.cell? ⟨b, 1, none⟩ = some (.slice (some ⟨g, 0, none⟩) l.length cap) := by
    have : w.drew.heap[b]? = some (.cells #[p, .slice (some ⟨g, 0, none⟩) l.length cap] 108 (0, 0)) := hbk
    rw [cell_of_blk this]; rfl
  have hSD : (Builtin.unsafeSliceData_ #[30] 122 #[.slice (some ⟨g, 0, none⟩) l.length cap]).run Try.prog w.drew = .ok (.pointer (some ⟨g, 0, none⟩)) w.drew :=
    Lib.run_unsafeSliceData_row _ _ _ _ _ _ (by omega)
  have hUS : (Builtin.unsafeString_ #[122, 3] 9 #[.pointer (some ⟨g, 0, none⟩), .int .i64 l.length]).run Try.prog w.drew = .ok (.string ⟨l.toArray⟩) (w.drew.freeze ⟨g, 0, none⟩ l.length) := by
    refine Lib.run_unsafeString_row w.drew 122 3 9 5 ptr_type cells_byte g cur.size (by have hg' : w.drew.heap[g]? = some (.cells cur 5 (0, 0)) := hgc; simp [World.shape?, hg']) l h0 (by omega) (by unfold maxLen at hcm; omega) ?_
    intro j x hx
    have := hown.cells (g := g) rfl j (.int .u8 x.toNat) (by simp [Lib.byteCells, hx])
    exact this
  have HK := KeptR.freeze B H g l.length w hbg hgH
  clear hown hbk htake hcs hcm hnc hgc hg h0
  go_enter Try.func113, Try.ntmps113
  go_wp2
  go_region
  all_goals (go_wp2; go_ret; exact ⟨rfl, HK⟩)

theorem string_any (B H b : Nat) (l : List UInt8) (w : World) (h : Bld B H b l w) :
    Calls Try.prog 113 #[.pointer (some ⟨b, 0, none⟩)] w fun e w' => e = .returned (.string ⟨l.toArray⟩) ∧ KeptR B H w w' := by
  by_cases h0 : l = []
  · subst h0
    obtain ⟨hbB, p, v, hbk, hp, hown, hg⟩ := h
    have key : Calls Try.prog 113 #[.pointer (some ⟨b, 0, none⟩)] w fun e w' => e = .returned (.string ⟨#[]⟩) ∧ Below w.heap.size w w' := by
      rcases hown.2 with ⟨rfl, _⟩ | ⟨g, cap, cur, rfl, _, hgc, _, _, hcs, _⟩
      · exact Any.Builder_String_nil (ρ := Try.lays105_ren) { Try.lays105 with } Try.Builder_Extra_105 w.heap.size b p w hbk
      · by_cases hc : cap = 0
        · subst hc
          exact Any.Builder_String_noroom (ρ := Try.lays105_ren) { Try.lays105 with } Try.Builder_Extra_105 w.heap.size b g p cur w (Nat.le_refl _) hbk hgc
        · exact Any.Builder_String_room (ρ := Try.lays105_ren) { Try.lays105 with } Try.Builder_Extra_105 w.heap.size b g cap p w hc hbk
    refine key.mono ?_
    rintro e w' ⟨rfl, hb⟩
    exact ⟨rfl, hb.os, hb.tape, hb.output, hb.size, fun k hk _ => hb.block k hk⟩
  · exact string_some B H b l w h h0

/-- A builder that nobody has written yet. -/
theorem Bld.fresh (B H b : Nat) (w : World) (hb : b < B) (h : w.heap[b]? = some (.cells #[.pointer none, .slice none 0 0] 108 (0, 0))) : Bld B H b [] w :=
  ⟨hb, _, _, h, .inl rfl, ⟨rfl, .inl ⟨rfl, rfl⟩⟩, fun g hg => by simp [Value.ownBlock] at hg⟩
/-- A builder lies on where its block and its row do. -/
theorem Bld.kept {B H b : Nat} {l : List UInt8} {w w' : World} (h : Bld B H b l w) (hk : ∀ k, k < w.heap.size → (k = b ∨ (B ≤ k ∧ k < H)) → w'.heap[k]? = w.heap[k]?) : Bld B H b l w' := by
  have hlt := bld_size h
  obtain ⟨hbB, p, v, hb, hp, hown, hg⟩ := h
  refine ⟨hbB, p, v, by rw [hk b hlt (.inl rfl)]; exact hb, hp, ⟨hown.1, ?_⟩, hg⟩
  rcases hown.2 with hz | ⟨g, cap, cur, rfl, hbg, hgc, r⟩
  · exact .inl hz
  · have hgl : g < w.heap.size := by
      rcases Nat.lt_or_ge g w.heap.size with h' | h'
      · exact h'
      · rw [Array.getElem?_eq_none h'] at hgc; cases hgc
    exact .inr ⟨g, cap, cur, rfl, hbg, by rw [hk g hgl (.inr ⟨hbg, hg g rfl⟩)]; exact hgc, r⟩
theorem Bld.below {B H b : Nat} {l : List UInt8} {w w' : World} (h : Bld B H b l w) (hb : Below w.heap.size w w') : Bld B H b l w' :=
  h.kept fun k hk _ => hb.block k hk
theorem KeptR.below {B H lo : Nat} {w w' : World} (h : KeptR B H w w') (h1 : lo ≤ B) (h2 : lo ≤ w.heap.size) : Below lo w w' :=
  ⟨h.os, h.tape, h.output, h.size, fun k hk => h.block k (by omega) (.inl (by omega))⟩
theorem Bld.later {B H H' b : Nat} {l : List UInt8} {w : World} (h : Bld B H b l w) (hH : H ≤ H') : Bld B H' b l w := by
  obtain ⟨hbB, p, v, hb, hp, hown, hg⟩ := h
  exact ⟨hbB, p, v, hb, hp, hown, fun g hgg => Nat.lt_of_lt_of_le (hg g hgg) hH⟩
end Go.Proofs.Ytgbihdlahghonaa
