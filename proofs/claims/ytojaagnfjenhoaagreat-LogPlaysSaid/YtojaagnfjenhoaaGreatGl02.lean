/- strings.Builder: what WriteString and String do, with a frame that keeps another builder's bytes. -/
import Derived.Test.YtojaagnfjenhoaaGreatProg
import Derived.Test.YtojaagnfjenhoaaGreatGl01
import Derived.WalkKit
import Derived.WalkSpells
import Derived.WalkLawsBesides
import Derived.Lib.Hide
import Derived.Lib.AppendStr
import Derived.RegionTactic
import Derived.BigRegion
import Derived.ChangeAlike
import Derived.Lib.UnsafeStr
import Derived.Lib.Builder
import Derived.Deep.QuietTactic
import Derived.BigQuiet
import Derived.Deep.DeepCutAuto
import Derived.Deep.LoopGhost
import Derived.Deep.RegionHeld3
import Derived.Deep.AppendLies
import Derived.Deep.MidRow
import Derived.Laws.ResultCell
import Derived.Laws.Tables
import Derived.Laws.StructEq
import Derived.Laws.CopyOwn
import Derived.Laws.MakeOwn
import Derived.Laws.OwnMore
import Derived.Maps.AppendAt
import Derived.OwnWalk
import Derived.IntWalk
namespace Go.Proofs.YtojaagnfjenhoaaGreat
open Go.RowKit
/-- Block b is a builder that holds the bytes l; its row of bytes, if there is one, is block number B or later, and ahead of H. -/
def Bld (B H b : Nat) (l : List UInt8) (w : World) : Prop :=
  b < B ∧ ∃ p v, w.heap[b]? = some (.cells #[p, v] 85 (0, 0)) ∧ (p = .pointer none ∨ p = .pointer (some ⟨b, 0, none⟩)) ∧ w.ownsRow B 5 1 v l.length (Lib.byteCells l) ∧ (∀ g, v.ownBlock = some g → g < H)
/-- Only block b, and the blocks from B on, may have turned. -/
structure KeptB (B b : Nat) (w w' : World) : Prop where
  os : w'.os = w.os
  tape : w'.tape = w.tape
  output : w'.output = w.output
  size : w.heap.size ≤ w'.heap.size
  block : ∀ k, k < B → k ≠ b → w'.heap[k]? = w.heap[k]?
theorem KeptB.refl (B b : Nat) (w : World) : KeptB B b w w := ⟨rfl, rfl, rfl, Nat.le_refl _, fun _ _ _ => rfl⟩
theorem KeptB.trans {B b : Nat} {u v w : World} (h : KeptB B b u v) (k : KeptB B b v w) : KeptB B b u w :=
  ⟨k.os.trans h.os, k.tape.trans h.tape, k.output.trans h.output, Nat.le_trans h.size k.size, fun i hi hb => (k.block i hi hb).trans (h.block i hi hb)⟩
theorem KeptB.of_below {B b : Nat} {u v : World} (hB : B ≤ u.heap.size) (h : Below u.heap.size u v) : KeptB B b u v :=
  ⟨h.os, h.tape, h.output, h.size, fun i hi _ => h.block i (by omega)⟩
theorem KeptB.below {B b lo : Nat} {u v : World} (h : KeptB B b u v) (h1 : lo ≤ B) (h2 : lo ≤ b) : Below lo u v :=
  ⟨h.os, h.tape, h.output, h.size, fun i hi => h.block i (by omega) (by omega)⟩
theorem copyCheck_fresh (b : Nat) (w : World) (h0 : w.cell? ⟨b, 0, none⟩ = some (.pointer none)) (hsh : w.shape? b = some (85, 2)) (hfz : w.frozen? ⟨b, 0, none⟩ = false) :
    Calls Tryz.prog 90 #[.pointer (some ⟨b, 0, none⟩)] w fun e w' => e = .returned (.tuple #[]) ∧ w' = w.setCell ⟨b, 0, none⟩ (.pointer (some ⟨b, 0, none⟩)) :=
  Any.Builder_copyCheck_fresh (ρ := Tryz.lays105_ren) { Tryz.lays105 with } Tryz.Builder_Extra_105.toX72 b w h0 hsh hfz
theorem copyCheck_used (b : Nat) (w : World) (h0 : w.cell? ⟨b, 0, none⟩ = some (.pointer (some ⟨b, 0, none⟩))) :
    Calls Tryz.prog 90 #[.pointer (some ⟨b, 0, none⟩)] w fun e w' => e = .returned (.tuple #[]) ∧ w' = w :=
  Any.Builder_copyCheck_used (ρ := Tryz.lays105_ren) { Tryz.lays105 with } Tryz.Builder_Extra_105.toX72 b w h0
theorem cell_of_blk {w : World} {g : Nat} {cs : Array Value} {t : TypeId} {fr : Nat × Nat} (h : w.heap[g]? = some (.cells cs t fr)) (i : Nat) : w.cell? ⟨g, i, none⟩ = cs[i]? := by simp [World.cell?, h]
theorem heap_set (w : World) (b i : Nat) (p v u : Value) (T : TypeId) (h : w.heap[b]? = some (.cells #[p, v] T (0, 0))) : (w.setCell ⟨b, i, none⟩ u).heap[b]? = some (.cells (#[p, v].setIfInBounds i u) T (0, 0)) := by
  simp [World.setCell, Array.getElem?_modify, h]
theorem bld_size {B H b : Nat} {l : List UInt8} {w : World} (h : Bld B H b l w) : b < w.heap.size := by
  obtain ⟨_, p, v, hb, _⟩ := h
  rcases Nat.lt_or_ge b w.heap.size with h' | h'
  · exact h'
  · rw [Array.getElem?_eq_none h'] at hb; cases hb
theorem own_set {w : World} {B b i : Nat} {v u : Value} {n : Nat} {xs : List Value} (hbB : b < B) (h : w.ownsRow B 5 1 v n xs) : (w.setCell ⟨b, i, none⟩ u).ownsRow B 5 1 v n xs := by
  refine ⟨h.1, ?_⟩
  rcases h.2 with hz | ⟨g, cap, cur, hv, hg, hh, r⟩
  · exact .inl hz
  · exact .inr ⟨g, cap, cur, hv, hg, by rw [Below.heap_setCell _ _ _ _ (by show g ≠ b; omega)]; exact hh, r⟩
theorem copyCheck_any (B H b : Nat) (l : List UInt8) (w : World) (h : Bld B H b l w) :
    Calls Tryz.prog 90 #[.pointer (some ⟨b, 0, none⟩)] w fun e w' => e = .returned (.tuple #[]) ∧
      (b < B ∧ ∃ v, w'.heap[b]? = some (.cells #[.pointer (some ⟨b, 0, none⟩), v] 85 (0, 0)) ∧ w'.ownsRow B 5 1 v l.length (Lib.byteCells l) ∧ (∀ g, v.ownBlock = some g → g < H)) ∧ KeptB B b w w' ∧ w'.heap.size = w.heap.size := by
  obtain ⟨hbB, p, v, hb, hp, hown, hg⟩ := h
  rcases hp with rfl | rfl
  · refine (copyCheck_fresh b w (by rw [cell_of_blk hb]; rfl) (by simp [World.shape?, hb]) (by simp [World.frozen?, hb])).mono ?_
    rintro e w' ⟨rfl, rfl⟩
    refine ⟨rfl, ⟨hbB, v, heap_set w b 0 _ _ _ _ hb, own_set hbB hown, hg⟩, ⟨rfl, rfl, rfl, by simp [World.setCell], fun k _ hk => Below.heap_setCell _ _ _ _ hk⟩, by simp [World.setCell]⟩
  · refine (copyCheck_used b w (by rw [cell_of_blk hb]; rfl)).mono ?_
    rintro e w' ⟨rfl, rfl⟩
    exact ⟨rfl, ⟨hbB, v, hb, hown, hg⟩, ⟨rfl, rfl, rfl, Nat.le_refl _, fun _ _ _ => rfl⟩, rfl⟩
theorem cells_byte : Tryz.prog.cellsOf 5 = 1 := by kernel_rfl
theorem info_byte : (Tryz.prog.info? 5).map (fun i => (i.zero, i.size, i.bytes)) = some (some (.int .u8 0), 1, 1) := by kernel_rfl
set_option maxHeartbeats 1000000 in
theorem write_any (B H b : Nat) (l : List UInt8) (s : ByteArray) (w : World) (h : Bld B H b l w) (hlen : l.length + s.size ≤ 140737488355328) (hBw : B ≤ w.heap.size) :
    Calls Tryz.prog 49 #[.pointer (some ⟨b, 0, none⟩), .string s] w fun e w' => e = .returned (.tuple #[.int .i64 s.size, .nilIface]) ∧ Bld B w'.heap.size b (l ++ s.data.toList) w' ∧ KeptB B b w w' := by
  obtain ⟨i0, hi, hz0, hz1, hz2⟩ := info_parts info_byte
  have HC := Lib.hid (copyCheck_any B H b l w h)
  clear h
  go_enter Tryz.func49, Tryz.ntmps49
  go_wp2_with (go_at_call 90; refine HC.out.mono ?_)
  rintro e w1 ⟨rfl, ⟨hbB, v, hbk, hown, hg⟩, hk1, hs1⟩
  have c1 : w1.cell? ⟨b, 1, none⟩ = some v := by rw [cell_of_blk hbk]; rfl
  go_wp2_with (at_builtin; refine Lib.wpList_append_own_string _ rfl _ _ 74 9 rfl B 5 i0 Tryz.underlying74 Tryz.underlying9 hi hz0 hz1 hz2 _ _ _ rfl hown s rfl ?c3 ?c4 ?c5 ?_)
  case c3 => unfold maxLen; omega
  case c4 => omega
  case c5 => omega
  intro v' w2 hown' hgrow _
  have hlt : b < w1.heap.size := by
    rcases Nat.lt_or_ge b w1.heap.size with h' | h'
    · exact h'
    · rw [Array.getElem?_eq_none h'] at hbk; cases hbk
  have hne : v.ownBlock ≠ some b := fun e => by
    have := (hown.lt b e).1; omega
  have hb2 : w2.heap[b]? = some (.cells #[.pointer (some ⟨b, 0, none⟩), v] 85 (0, 0)) := by
    rw [hgrow.block b hlt (fun e => hne e.symm)]; exact hbk
  have d1 : w2.cell? ⟨b, 1, none⟩ = some v := by rw [cell_of_blk hb2]; rfl
  have f1 : w2.frozen? ⟨b, 1, none⟩ = false := by simp [World.frozen?, hb2]
  obtain ⟨ao, n', cap, rfl⟩ : ∃ ao n' cap, v' = .slice ao n' cap := by
    rcases hown'.2 with ⟨hv, _⟩ | ⟨g, cap, cur, hv, _⟩
    · exact ⟨_, _, _, hv⟩
    · exact ⟨_, _, _, hv⟩
  go_wp2_with fail
  go_ret2
  refine ⟨rfl, ?_, ?_⟩
  · have hbs : Lib.byteCells (l ++ s.data.toList) = Lib.byteCells l ++ Lib.strCells s := by
      simp [Lib.byteCells, Lib.strCells]
    refine ⟨hbB, _, _, heap_set w2 b 1 _ _ _ _ hb2, .inr rfl, ?_, fun g hg => ?_⟩
    · have := own_set (i := 1) (u := .slice ao n' cap) hbB hown'
      rw [hbs, List.length_append, show s.data.toList.length = s.size by simp]
      exact this
    · have := (hown'.lt g hg).2
      simpa [World.setCell] using this
  · refine ⟨hgrow.os.trans hk1.os, hgrow.tape.trans hk1.tape, hgrow.output.trans hk1.output, ?_, fun k hk hkb => ?_⟩
    · have := hgrow.size
      simp [World.setCell]; omega
    · rw [Below.heap_setCell _ _ _ _ hkb, hgrow.block k (by omega) (fun e => by have := (hown.lt k e.symm).1; omega), hk1.block k hk hkb]
/-- Only blocks from B to H, and new ones, may have turned. -/
structure KeptR (B H : Nat) (w w' : World) : Prop where
  os : w'.os = w.os
  tape : w'.tape = w.tape
  output : w'.output = w.output
  size : w.heap.size ≤ w'.heap.size
  block : ∀ k, k < w.heap.size → (k < B ∨ H ≤ k) → w'.heap[k]? = w.heap[k]?
theorem KeptR.drew (B H : Nat) (w : World) : KeptR B H w w.drew := ⟨rfl, rfl, rfl, Nat.le_refl _, fun _ _ _ => rfl⟩
theorem KeptR.alloc (B H : Nat) (w : World) (o : Obj) : KeptR B H w (w.alloc o).drew :=
  ⟨rfl, rfl, rfl, by show w.heap.size ≤ (w.heap.push o).size; simp, fun k hk _ => Below.heap_alloc w o k hk⟩
theorem KeptR.freeze (B H g n : Nat) (w : World) (h1 : B ≤ g) (h2 : g < H) : KeptR B H w (w.drew.freeze ⟨g, 0, none⟩ n) := by
  have hh : ∀ W : World, (W.freeze ⟨g, 0, none⟩ n).os = W.os ∧ (W.freeze ⟨g, 0, none⟩ n).tape = W.tape ∧ (W.freeze ⟨g, 0, none⟩ n).output = W.output ∧ (W.freeze ⟨g, 0, none⟩ n).heap.size = W.heap.size ∧ ∀ k, k ≠ g → (W.freeze ⟨g, 0, none⟩ n).heap[k]? = W.heap[k]? := by
    intro W
    unfold World.freeze
    split
    · exact ⟨rfl, rfl, rfl, rfl, fun _ _ => rfl⟩
    · refine ⟨rfl, rfl, rfl, by simp, fun k hk => ?_⟩
      simp only [Array.getElem?_modify]
      rw [if_neg (fun e => hk e.symm)]
  obtain ⟨e1, e2, e3, e4, e5⟩ := hh w.drew
  exact ⟨e1, e2, e3, by rw [e4]; exact Nat.le_refl _, fun k _ hk => e5 k (by omega)⟩
theorem ptr_type : Tryz.prog.underlying 135 = some (.pointer 5) := by kernel_rfl
set_option maxHeartbeats 2000000 in
set_option maxRecDepth 100000 in
theorem string_some (B H b : Nat) (l : List UInt8) (w : World) (h : Bld B H b l w) (h0 : l ≠ []) :
    Calls Tryz.prog 51 #[.pointer (some ⟨b, 0, none⟩)] w fun e w' => e = .returned (.string ⟨l.toArray⟩) ∧ KeptR B H w w' := by
  obtain ⟨hbB, p, v, hbk, hp, hown, hg⟩ := h
  have hl0 : l.length ≠ 0 := by simpa using h0
  obtain ⟨g, cap, cur, rfl, hbg, hgc, hnc, hcm, hcs, htake⟩ : ∃ g cap cur, v = .slice (some ⟨g, 0, none⟩) l.length cap ∧ B ≤ g ∧ w.heap[g]? = some (.cells cur 5 (0, 0)) ∧ l.length ≤ cap ∧ cap ≤ maxLen ∧ cur.size = cap * 1 ∧ cur.toList.take (l.length * 1) = Lib.byteCells l := by
    rcases hown.2 with ⟨_, hz⟩ | ⟨g, cap, cur, hv, r⟩
    · exact absurd hz hl0
    · exact ⟨g, cap, cur, hv, r⟩
  have hgH : g < H := hg g rfl
  have c1 : w.drew.cell? ⟨b, 1, none⟩ = some (.slice (some ⟨g, 0, none⟩) l.length cap) := by
    have : w.drew.heap[b]? = some (.cells #[p, .slice (some ⟨g, 0, none⟩) l.length cap] 85 (0, 0)) := hbk
    rw [cell_of_blk this]; rfl
  have hSD : (Builtin.unsafeSliceData_ #[74] 135 #[.slice (some ⟨g, 0, none⟩) l.length cap]).run Tryz.prog w.drew = .ok (.pointer (some ⟨g, 0, none⟩)) w.drew :=
    Lib.run_unsafeSliceData_row _ _ _ _ _ _ (by omega)
  have hUS : (Builtin.unsafeString_ #[135, 3] 9 #[.pointer (some ⟨g, 0, none⟩), .int .i64 l.length]).run Tryz.prog w.drew = .ok (.string ⟨l.toArray⟩) (w.drew.freeze ⟨g, 0, none⟩ l.length) := by
    refine Lib.run_unsafeString_row w.drew 135 3 9 5 ptr_type cells_byte g cur.size (by have hg' : w.drew.heap[g]? = some (.cells cur 5 (0, 0)) := hgc; simp [World.shape?, hg']) l h0 (by omega) (by unfold maxLen at hcm; omega) ?_
    intro j x hx
    have := hown.cells (g := g) rfl j (.int .u8 x.toNat) (by simp [Lib.byteCells, hx])
    exact this
  have HK := KeptR.freeze B H g l.length w hbg hgH
  clear hown hbk htake hcs hcm hnc hgc hg h0
  go_enter Tryz.func51, Tryz.ntmps51
  go_wp2
  go_region
  all_goals (go_wp2; go_ret; exact ⟨rfl, HK⟩)
theorem string_any (B H b : Nat) (l : List UInt8) (w : World) (h : Bld B H b l w) :
    Calls Tryz.prog 51 #[.pointer (some ⟨b, 0, none⟩)] w fun e w' => e = .returned (.string ⟨l.toArray⟩) ∧ KeptR B H w w' := by
  by_cases h0 : l = []
  · subst h0
    obtain ⟨hbB, p, v, hbk, hp, hown, hg⟩ := h
    have key : Calls Tryz.prog 51 #[.pointer (some ⟨b, 0, none⟩)] w fun e w' => e = .returned (.string ⟨#[]⟩) ∧ Below w.heap.size w w' := by
      rcases hown.2 with ⟨rfl, _⟩ | ⟨g, cap, cur, rfl, _, hgc, _, _, hcs, _⟩
      · exact Any.Builder_String_nil (ρ := Tryz.lays105_ren) { Tryz.lays105 with } Tryz.Builder_Extra_105 w.heap.size b p w hbk
      · by_cases hc : cap = 0
        · subst hc
          exact Any.Builder_String_noroom (ρ := Tryz.lays105_ren) { Tryz.lays105 with } Tryz.Builder_Extra_105 w.heap.size b g p cur w (Nat.le_refl _) hbk hgc
        · exact Any.Builder_String_room (ρ := Tryz.lays105_ren) { Tryz.lays105 with } Tryz.Builder_Extra_105 w.heap.size b g cap p w hc hbk
    refine key.mono ?_
    rintro e w' ⟨rfl, hb⟩
    exact ⟨rfl, hb.os, hb.tape, hb.output, hb.size, fun k hk _ => hb.block k hk⟩
  · exact string_some B H b l w h h0
/-- A builder that nobody has written yet. -/
theorem Bld.fresh (B H b : Nat) (w : World) (hb : b < B) (h : w.heap[b]? = some (.cells #[.pointer none, .slice none 0 0] 85 (0, 0))) : Bld B H b [] w :=
  ⟨hb, _, _, h, .inl rfl, ⟨rfl, .inl ⟨rfl, rfl⟩⟩, fun g hg => by simp [Value.ownBlock] at hg⟩
/-- A builder lies on where its block and its row do. -/
theorem Bld.kept {B H b : Nat} {l : List UInt8} {w w' : World} (h : Bld B H b l w) (hk : ∀ k, k < w.heap.size → (k = b ∨ (B ≤ k ∧ k < H)) → w'.heap[k]? = w.heap[k]?) : Bld B H b l w' := by
  have hlt := bld_size h
  obtain ⟨hbB, p, v, hb, hp, hown, hg⟩ := h
  refine ⟨hbB, p, v, by rw [hk b hlt (.inl rfl)]; exact hb, hp, ⟨hown.1, ?_⟩, hg⟩
  rcases hown.2 with hz | ⟨g, cap, cur, rfl, hbg, hgc, r⟩
  · exact .inl hz
  · have hgl : g < w.heap.size := by
      rcases Nat.lt_or_ge g w.heap.size with h' | h'
      · exact h'
      · rw [Array.getElem?_eq_none h'] at hgc; cases hgc
    exact .inr ⟨g, cap, cur, rfl, hbg, by rw [hk g hgl (.inr ⟨hbg, hg g rfl⟩)]; exact hgc, r⟩
theorem Bld.below {B H b : Nat} {l : List UInt8} {w w' : World} (h : Bld B H b l w) (hb : Below w.heap.size w w') : Bld B H b l w' :=
  h.kept fun k hk _ => hb.block k hk
theorem KeptR.below {B H lo : Nat} {w w' : World} (h : KeptR B H w w') (h1 : lo ≤ B) (h2 : lo ≤ w.heap.size) : Below lo w w' :=
  ⟨h.os, h.tape, h.output, h.size, fun k hk => h.block k (by omega) (.inl (by omega))⟩
theorem Bld.later {B H H' b : Nat} {l : List UInt8} {w : World} (h : Bld B H b l w) (hH : H ≤ H') : Bld B H' b l w := by
  obtain ⟨hbB, p, v, hb, hp, hown, hg⟩ := h
  exact ⟨hbB, p, v, hb, hp, hown, fun g hgg => Nat.lt_of_lt_of_le (hg g hgg) hH⟩
end Go.Proofs.YtojaagnfjenhoaaGreat
/- Words for memory that serve every seat: rows that are read, rows of the call's own, appends. -/
namespace Go.Proofs.YtojaagnfjenhoaaGreat
open Go.RowKit
theorem joinB {a b c : World} (h : Below a.heap.size a b) (k : Below b.heap.size b c) : Below a.heap.size a c := h.trans (k.mono h.size)
theorem drewB (w : World) (n : Nat) : Below w.heap.size w (w.drewN n) := ⟨rfl, rfl, rfl, Nat.le_refl _, fun _ _ => rfl⟩
theorem pastAlloc {w w' : World} {o : Obj} (hb : Below w.heap.size w w') : Below w.heap.size w (w'.alloc o) := hb.alloc hb.size o
theorem allocB (w : World) (o : Obj) : Below w.heap.size w (w.alloc o) := pastAlloc (Below.refl _ _)
theorem heapLt {w : World} {g : Nat} {o : Obj} (h : w.heap[g]? = some o) : g < w.heap.size := (Array.getElem?_eq_some_iff.1 h).1
theorem blkNew {w w' : World} {o : Obj} (hb : Below (w.alloc o).heap.size (w.alloc o) w') : w'.heap[w.heap.size]? = some o :=
  (hb.block _ (by simp)).trans (heap_alloc_new w _)
theorem blkOld {w w' : World} {b : Nat} {o : Obj} (h : w.heap[b]? = some o) (hb : Below w.heap.size w w') : w'.heap[b]? = some o := by
  rw [hb.block b (heapLt h)]; exact h
theorem blkPast {w w' : World} {b : Nat} {o o2 : Obj} (h : w.heap[b]? = some o) (hb : Below (w.alloc o2).heap.size (w.alloc o2) w') : w'.heap[b]? = some o := by
  have hlt := heapLt h
  rw [hb.block b (by simp; omega), Below.heap_alloc w o2 b hlt]; exact h
theorem blkSet {w : World} {b : Nat} (i : Nat) {cs : Array Value} {T : TypeId} {fr : Nat × Nat} (h : w.heap[b]? = some (.cells cs T fr)) (v : Value) : (w.setCell ⟨b, i, none⟩ v).heap[b]? = some (.cells (cs.setIfInBounds i v) T fr) := by
  rw [setCell_eq_setRow w b i cs T fr v h]
  exact setRow_heap w b _ _ T _ h
theorem blkCell {w : World} {g : Nat} {cs : Array Value} {t : TypeId} {fr : Nat × Nat} (h : w.heap[g]? = some (.cells cs t fr)) (i : Nat) : w.cell? ⟨g, i, none⟩ = cs[i]? := by simp [World.cell?, h]
theorem blkFrozen {w : World} {g : Nat} {cs : Array Value} {t : TypeId} (h : w.heap[g]? = some (.cells cs t (0, 0))) (i : Nat) : w.frozen? ⟨g, i, none⟩ = false := by simp [World.frozen?, h]
theorem ownBelow {w w' : World} {B : Nat} {e : TypeId} {size n : Nat} {v : Value} {xs : List Value} (h : w.ownsRow B e size v n xs) (hb : Below w.heap.size w w') : w'.ownsRow B e size v n xs := by
  refine ⟨h.1, ?_⟩
  rcases h.2 with hz | ⟨g, cap, cur, hv, hg, hh, r⟩
  · exact .inl hz
  · exact .inr ⟨g, cap, cur, hv, hg, blkOld hh hb, r⟩
theorem ownSet {w : World} {B : Nat} {e : TypeId} {size n : Nat} {v : Value} {xs : List Value} (h : w.ownsRow B e size v n xs) (a : Addr) (u : Value) (ha : a.block < B) : (w.setCell a u).ownsRow B e size v n xs := by
  refine ⟨h.1, ?_⟩
  rcases h.2 with hz | ⟨g, cap, cur, hv, hg, hh, r⟩
  · exact .inl hz
  · exact .inr ⟨g, cap, cur, hv, hg, by rw [Below.heap_setCell _ _ _ _ (by omega)]; exact hh, r⟩
theorem ownMono {w : World} {B B' : Nat} {e : TypeId} {size n : Nat} {v : Value} {xs : List Value} (h : w.ownsRow B e size v n xs) (hb : B' ≤ B) : w.ownsRow B' e size v n xs := by
  refine ⟨h.1, ?_⟩
  rcases h.2 with h2 | ⟨g, cap, cur, hv, hg, h3⟩
  · exact .inl h2
  · exact .inr ⟨g, cap, cur, hv, Nat.le_trans hb hg, h3⟩
theorem ownLen {B n size : Nat} {e : TypeId} {v : Value} {xs : List Value} {w : World} (h : w.ownsRow B e size v n xs) : ∃ a c, v = .slice a n c := by
  rcases h.2 with ⟨rfl, h0⟩ | ⟨g', cap, cur, rfl, _⟩
  · exact ⟨_, _, by rw [h0]⟩
  · exact ⟨_, _, rfl⟩
theorem ownNil (w : World) (B : Nat) (e : TypeId) (size : Nat) : w.ownsRow B e size (.slice none 0 0) 0 [] := World.ownsRow_nil w B e size
theorem ownEmpty (w : World) (e : TypeId) (size : Nat) : (w.alloc (.cells #[] e)).ownsRow w.heap.size e size (.slice (some ⟨w.heap.size, 0, none⟩) 0 0) 0 [] := World.ownsRow_made w #[] 0 (Nat.le_refl _) (Nat.zero_le _) (by simp)
/-- The slice at A, of n elements and capacity c, reads as the cells vs. -/
def Reads (w : World) (A : Option Addr) (c n : Nat) (vs : List Value) : Prop :=
  0 < n → ∃ b off, A = some ⟨b, off, none⟩ ∧ n ≤ c ∧ b < w.heap.size ∧ ∀ j v, vs[j]? = some v → w.cell? ⟨b, off + j, none⟩ = some v
theorem Reads.none_ (w : World) (A : Option Addr) (c : Nat) (vs : List Value) : Reads w A c 0 vs := fun h => absurd h (by omega)
theorem Reads.below {w w' : World} {A : Option Addr} {c n : Nat} {vs : List Value} (h : Reads w A c n vs) (hb : Below w.heap.size w w') : Reads w' A c n vs := fun h0 => by
  obtain ⟨b, off, hA, hc, hlt, hcell⟩ := h h0
  refine ⟨b, off, hA, hc, Nat.lt_of_lt_of_le hlt hb.size, fun j v hj => ?_⟩
  rw [hb.cell (p := ⟨b, off + j, none⟩) hlt]; exact hcell j v hj
theorem Reads.alloc {w : World} {A : Option Addr} {c n : Nat} {vs : List Value} (h : Reads w A c n vs) (o : Obj) : Reads (w.alloc o) A c n vs := h.below (allocB w o)
theorem Reads.at_ {w : World} {A : Option Addr} {c n : Nat} {vs : List Value} (h : Reads w A c n vs) (h0 : 0 < n) : ∃ b off, A = some ⟨b, off, none⟩ ∧ n ≤ c ∧ b < w.heap.size ∧ ∀ j v, vs[j]? = some v → w.cell? ⟨b, off + j, none⟩ = some v := h h0
theorem own_reads {w : World} {B : Nat} {e : TypeId} {size n c : Nat} {A : Option Addr} {vs : List Value} (h : w.ownsRow B e size (.slice A n c) n vs) : Reads w A c n vs := fun h0 => by
  rcases h.2 with ⟨_, hz⟩ | ⟨g, cap, cur, hv, hg, hh, hn, hm, hs, ht⟩
  · omega
  · injection hv with h1 h2 h3
    subst h1 h3
    refine ⟨g, 0, rfl, hn, heapLt hh, fun j v hj => ?_⟩
    have h5 : cur.toList[j]? = some v := by
      rw [← ht] at hj
      rw [List.getElem?_take] at hj
      split at hj
      · exact hj
      · cases hj
    rw [blkCell hh, Nat.zero_add]
    simpa using h5
theorem reads_blk {w : World} {g : Nat} {cs : List Value} {T : TypeId} {n c : Nat} (h : w.heap[g]? = some (.cells cs.toArray T (0, 0))) (hn : n ≤ c) : Reads w (some ⟨g, 0, none⟩) c n cs := fun _ =>
  ⟨g, 0, rfl, hn, heapLt h, fun j v hj => by rw [blkCell h, Nat.zero_add]; simpa using hj⟩
/-- Elements of k cells each, one behind the other. -/
theorem flat_at {α : Type} {enc : α → List Value} {k : Nat} (hk : ∀ x, (enc x).length = k) : ∀ (l : List α) (j i : Nat) (hj : j < l.length), i < k → (l.flatMap enc)[j * k + i]? = (enc l[j])[i]? := by
  intro l
  induction l with
  | nil => intro j i h; simp at h
  | cons x l ih =>
    intro j i hj hi
    rw [List.flatMap_cons]
    cases j with
    | zero => rw [List.getElem?_append_left (by rw [hk]; omega)]; simp
    | succ j =>
      rw [List.getElem?_append_right (by rw [hk, Nat.succ_mul]; omega), hk, show (j + 1) * k + i - k = j * k + i by rw [Nat.succ_mul]; omega]
      exact ih j i (by simpa using hj) hi
theorem flat_len {α : Type} {enc : α → List Value} {k : Nat} (hk : ∀ x, (enc x).length = k) (l : List α) : (l.flatMap enc).length = l.length * k := by
  induction l with
  | nil => simp
  | cons x l ih => rw [List.flatMap_cons, List.length_append, hk, ih, List.length_cons, Nat.succ_mul]; omega
/-- A cell of an element of a slice that is read. -/
theorem read_at {α : Type} {enc : α → List Value} {k : Nat} (hk : ∀ x, (enc x).length = k) {w : World} {A : Option Addr} {c : Nat} {l : List α} (h : Reads w A c l.length (l.flatMap enc)) {j : Nat} (hj : j < l.length) :
    ∃ b off, A = some ⟨b, off, none⟩ ∧ l.length ≤ c ∧ b < w.heap.size ∧ ∀ i v, (enc l[j])[i]? = some v → w.cell? ⟨b, off + j * k + i, none⟩ = some v := by
  obtain ⟨b, off, hA, hc, hlt, hcell⟩ := h (by omega)
  refine ⟨b, off, hA, hc, hlt, fun i v hv => ?_⟩
  have hi : i < k := by
    have := (List.getElem?_eq_some_iff.1 hv).1
    rw [hk] at this; exact this
  rw [Nat.add_assoc]
  exact hcell _ _ (by rw [flat_at hk l j i hj hi]; exact hv)
theorem run_app_nil {P : Program} {w : World} {t e ty : TypeId} {i0 : TypeInfo} {B n size : Nat} {v : Value} {xs : List Value} (ht : P.underlying t = some (.slice e)) (hi : P.info? e = some i0) (hown : w.ownsRow B e size v n xs) (c : Nat) :
    (Builtin.append_ #[t, t] ty #[v, .slice none 0 c]).run P w = .ok v w := by
  rcases hown.2 with ⟨rfl, hz⟩ | ⟨g, cap, cur, rfl, _, _, hnc, _⟩
  · simp [Builtin.append_, run_underlying ht, sizeOf, typeInfo, hi, Builtin.lenOf, Builtin.firstCells]
  · simp [Builtin.append_, run_underlying ht, sizeOf, typeInfo, hi, Builtin.lenOf, Builtin.firstCells, hnc, storeCells]
/-- append onto a row of the call's own: elements of any size, the source nil or not. -/
theorem wp_appR {P : Program} {o : Oper} {a : Act} {K : Act → World → Prop} {Q : Exit → Act → World → Prop} (w : World) (s x : Operand) (t e : TypeId) (i0 : TypeInfo) (z : Value) (size bytes : Nat)
    (ht : P.underlying t = some (.slice e)) (hi : P.info? e = some i0) (hz : i0.zero = some z) (hsz : i0.size = size) (hby : i0.bytes = bytes) (hzc : z.cells.size = size) (hpos : 0 < size)
    (ho : o.op = .call { callee := .builtin .append, args := #[s, x], argTypes := #[t, t] })
    (B : Nat) (v : Value) (n : Nat) (xs : List Value) (hs : a.eval s = v) (hown : w.ownsRow B e size v n xs) (A : Option Addr) (m c : Nat) (ys : List Value) (hx : a.eval x = .slice A m c) (hy : Reads w A c m ys) (hyl : ys.length = m * size) (h1 : ∀ u ∈ ys, u.oneCell' = true)
    (hlen : n + m ≤ 1048576) (hbs : bytes ≤ 1024) (hbase : B ≤ w.heap.size)
    (h : ∀ v' w', w'.ownsRow B e size v' (n + m) (xs ++ ys) → w.grownBy w' v.ownBlock → Below B w w' → K (a.put o.dst v') w') : o.wp P a w K Q := by
  rcases A with _ | ad
  · have hn : m = 0 := by
      rcases Nat.eq_zero_or_pos m with h0 | h0
      · exact h0
      · obtain ⟨b, off, e, _⟩ := hy h0
        cases e
    subst hn
    have hys : ys = [] := List.eq_nil_of_length_eq_zero (by simpa using hyl)
    subst hys
    have hrun := run_app_nil (ty := o.type) ht hi hown c
    unfold Oper.wp execOp
    simp only [ho, resolve, invoke, builtin, Sem.run_bind, Sem.run_pure, Result.andThen_ok, List.map_toArray, List.map_cons, List.map_nil, hs, hx, hrun]
    exact h v w (by simpa using hown) (World.grownBy.refl w _) (Below.refl _ _)
  · refine wp_append_own w s x _ ho B e i0 z size bytes ht hi hz hsz hby hzc hpos v n xs hs hown ad m c ys hx hyl ?_ h1 (by simp only [maxLen]; omega) ?_ hbase ?_
    · intro j u hu
      have hpos : 0 < m := by
        have := (List.getElem?_eq_some_iff.1 hu).1
        rcases Nat.eq_zero_or_pos m with h0 | h0
        · subst h0; rw [Nat.zero_mul] at hyl; omega
        · exact h0
      obtain ⟨b, off, e, _, _, hE⟩ := hy hpos
      injection e with e
      subst e
      rw [show (⟨b, off, none⟩ : Addr).add j = ⟨b, off + j, none⟩ from Addr.add_mid b off j]
      exact hE j u hu
    · have : (n + m) * bytes ≤ 1048576 * 1024 := Nat.mul_le_mul hlen hbs
      omega
    · intro v' w' h1 h2 _
      exact h v' w' h1 h2 ((Below.refl _ _).grown h2 hbase (fun k hk => (hown.lt k hk).1))
/-- At an operation that is wanted. -/
theorem listWants {P : Program} {ops : Array Oper} {Q : Exit → Act → World → Prop} {a : Act} {w : World} {rest : List Oper} {o : Oper} (hw : Region.wanted o (yielded ops a.tmps) = true) (h : ∀ K : Act → World → Prop, (∀ a w, wpList P ops Q rest a w → K a w) → o.wp P a w K Q) : wpList P ops Q (o :: rest) a w :=
  wpList_step fun K hK => by rw [if_pos hw]; exact h K hK
/-- A value of as many cells as the block has is stored into it whole. -/
theorem run_store_whole {P : Program} (w : World) (b : Nat) (ty : TypeId) (cells cur : Array Value) (t : TypeId) (hg : w.heap[b]? = some (.cells cur t (0, 0))) (hsz : cur.size = cells.size) (hi : (P.info? ty).map (·.size) = some cells.size) (h1 : cells.all (·.oneCell') = true) :
    (storeVar ty ⟨b, 0, none⟩ (.agg cells)).run P w = .ok () (w.setRow b cells) := by
  have hst := run_storeCells_at P b 0 t cells.toList 0 cur w hg (by simp [hsz]) (fun v hv => (Array.all_eq_true_iff_forall_mem.1 h1) v (by simpa using hv))
  simp only [Nat.zero_add, List.take_zero, List.nil_append] at hst
  have e : (cells.toList ++ cur.toList.drop cells.toList.length).toArray = cells := by
    rw [List.drop_of_length_le (by simp [hsz])]; simp
  rw [e] at hst
  cases hq : P.info? ty with
  | none => simp [hq] at hi
  | some i =>
    have hs : cells.size = i.size := by simp [hq] at hi; omega
    simp [storeVar, sizeOf, typeInfo, hq, Value.cells, hs, hst]
theorem wp_store_whole {P : Program} {op : Oper} {a : Act} {w : World} {K : Act → World → Prop} {Q : Exit → Act → World → Prop} (ty : TypeId) (x y : Operand) (ho : op.op = .store ty x y)
    (b : Nat) (cells cur : Array Value) (t : TypeId) (hx : a.eval x = .pointer (some ⟨b, 0, none⟩)) (hy : a.eval y = .agg cells) (hg : w.heap[b]? = some (.cells cur t (0, 0))) (hsz : cur.size = cells.size)
    (hi : (P.info? ty).map (·.size) = some cells.size) (h1 : cells.all (·.oneCell') = true) (h : K (a.put op.dst undef) (w.setRow b cells)) : op.wp P a w K Q := by
  unfold Oper.wp execOp
  simp only [ho, hx, hy, Instr.storeAt, Instr.sureAddr, Sem.run_bind, Sem.run_pure, Result.andThen_ok, run_store_whole w b ty cells cur t hg hsz hi h1]
  exact h
theorem alloc_setRow (w : World) (cs cur : Array Value) (t : TypeId) : (w.alloc (.cells cur t)).setRow w.heap.size cs = w.alloc (.cells cs t) := by
  have e : (w.heap.push (Obj.cells cur t)).modify w.heap.size (fun | .cells _ elem frozen => .cells cs elem frozen | o => o) = w.heap.push (.cells cs t) := by
    apply Array.ext_getElem?
    intro i
    rw [Array.getElem?_modify, Array.getElem?_push, Array.getElem?_push]
    by_cases h : i = w.heap.size
    · subst h; simp
    · rw [if_neg (fun e => h e.symm), if_neg h, if_neg h]
  show ({ w with heap := (w.heap.push (Obj.cells cur t)).modify w.heap.size (fun | .cells _ elem frozen => .cells cs elem frozen | o => o) } : World) = { w with heap := w.heap.push (.cells cs t) }
  rw [e]
/-- The variable that was made last gets its value. -/
theorem wpList_store_new {P : Program} {ops : Array Oper} {rest : List Oper} {op : Oper} {a : Act} {w : World} {Q : Exit → Act → World → Prop} (hgd : op.guard = none) (ty : TypeId) (x y : Operand) (ho : op.op = .store ty x y)
    (cells cur : Array Value) (t : TypeId) (hx : a.eval x = .pointer (some ⟨w.heap.size, 0, none⟩)) (hy : a.eval y = .agg cells) (hsz : cur.size = cells.size)
    (hi : (P.info? ty).map (·.size) = some cells.size) (h1 : cells.all (·.oneCell') = true)
    (h : wpList P ops Q rest (a.put op.dst undef) (w.alloc (.cells cells t))) : wpList P ops Q (op :: rest) a (w.alloc (.cells cur t)) :=
  wpList_plain hgd fun _ hK => wp_store_whole ty x y ho w.heap.size cells cur t hx hy (heap_alloc_new w _) hsz hi h1 (hK _ _ (by rw [alloc_setRow]; exact h))
theorem results_cell {P : Program} {fn : Func} {p : Tmp} {ty : TypeId} (h : fn.results = #[.cell p ty]) (tmps : Array Value) (w : World) {ad : Addr} (hp : tmps.getD p undef = .pointer (some ad)) {v : Value} (hl : (loadVar ty ad).run P w = .ok v w) :
    (results fn tmps).run P w = .ok v w := by
  simp only [results, h]
  have hp' : tmps[p]?.getD undef = .pointer (some ad) := by simpa using hp
  simp [hp', asAddr, hl]
/-- A whole block is read. -/
theorem load_whole {P : Program} {w : World} {b : Nat} {ty : TypeId} {cells : Array Value} {t : TypeId} {d : TypeDesc} (hg : w.heap[b]? = some (.cells cells t (0, 0)))
    (hu : P.underlying ty = some d) (hd : d.isRow = true) (hi : (P.info? ty).map (·.size) = some cells.size) : (loadVar ty ⟨b, 0, none⟩).run P w = .ok (.agg cells) w := by
  have h := run_loadVar_mid (P := P) w b 0 ty cells.toList d (fun j v hj => by rw [blkCell hg, Nat.zero_add]; simpa using hj) hu hd (by simpa using hi)
  simpa using h
/-- A whole block is read, by an operation that may be guarded, and is wanted. -/
theorem listLoad {P : Program} {ops : Array Oper} {rest : List Oper} {op : Oper} {a : Act} {w : World} {Q : Exit → Act → World → Prop} (hw : Region.wanted op (yielded ops a.tmps) = true) (ty : TypeId) (x : Operand) (ho : op.op = .load ty x)
    (b : Nat) (hx : a.eval x = .pointer (some ⟨b, 0, none⟩)) (cells : Array Value) (t : TypeId) (hg : w.heap[b]? = some (.cells cells t (0, 0))) (d : TypeDesc)
    (hu : P.underlying ty = some d) (hd : d.isRow = true) (hi : (P.info? ty).map (·.size) = some cells.size)
    (h : wpList P ops Q rest (a.put op.dst (.agg cells)) w) : wpList P ops Q (op :: rest) a w :=
  listWants hw fun K hK => by
    refine wp_load_mid ty x ho b 0 hx cells.toList d (fun j v hj => by rw [blkCell hg, Nat.zero_add]; simpa using hj) hu hd (by simpa using hi) ?_
    simpa using hK _ _ h
/-! Steps through a region that draws its order, with the facts that the kernel reckons left to the end (short.py writes them). -/
section
variable {P : Program} {ops : Array Oper} {Q : Exit → Act → World → Prop} {md : Region.Mode} {S : World → Prop}
theorem tkW (i : Nat) (d : Option Nat) {op : Op} {ty : TypeId} {pos : String} {aft : Array Edge} {g : Option (Nat × Bool)} {v : Value} {fuel : Nat} {listed : Array Bool} {a : Act} {w : World} (hi : ops[i]? = some ⟨d, op, ty, pos, aft, g⟩)
    (hy : ∀ w, S w → (execOp a.eval ⟨d, op, ty, pos, aft, g⟩).run P w = .ok (.value v) w) (h : wpAnyH P md ops Q S fuel (listed.setIfInBounds i true) (a.put d v) w)
    (hw : Region.wanted ⟨d, op, ty, pos, aft, g⟩ (yielded ops a.tmps) = true := by rfl) (hS : S w := by assumption) (hs : Region.noSelect ops = true := by kernel_rfl) (hf : Region.free md ops listed i = true := by kernel_rfl) (hr : (Region.ready md ops listed).contains i = true := by kernel_rfl) (hQ : ∀ c a w, Q (.panic c) (a.put d v) w → Q (.panic c) a w := by exact fun _ _ _ h => h) :
    wpAnyH P md ops Q S (fuel + 1) listed a w := wpAnyH_take hi hs hf hr hQ (.inl ⟨hw, hy⟩) hS h
theorem tkV (i : Nat) (d : Option Nat) {op : Op} {ty : TypeId} {pos : String} {aft : Array Edge} {g : Option (Nat × Bool)} {v : Value} {fuel : Nat} {listed : Array Bool} {a : Act} {w : World} (hi : ops[i]? = some ⟨d, op, ty, pos, aft, g⟩)
    (hy : YieldsIf P ops S ⟨d, op, ty, pos, aft, g⟩ v a) (h : wpAnyH P md ops Q S fuel (listed.setIfInBounds i true) (a.put d v) w)
    (hS : S w := by assumption) (hs : Region.noSelect ops = true := by kernel_rfl) (hf : Region.free md ops listed i = true := by kernel_rfl) (hr : (Region.ready md ops listed).contains i = true := by kernel_rfl) (hQ : ∀ c a w, Q (.panic c) (a.put d v) w → Q (.panic c) a w := by exact fun _ _ _ h => h) :
    wpAnyH P md ops Q S (fuel + 1) listed a w := wpAnyH_take hi hs hf hr hQ hy hS h
theorem rdH (i : Nat) (d : Option Nat) {op : Op} {ty : TypeId} {pos : String} {aft : Array Edge} {g : Option (Nat × Bool)} {fuel : Nat} {listed : Array Bool} {a : Act} {w : World} (hi : ops[i]? = some ⟨d, op, ty, pos, aft, g⟩)
    (h : ∀ K' : Act → World → Prop, Shut (∀ a w, S w → (S w → wpAnyH P md ops Q S fuel (listed.setIfInBounds i true) a w) → K' a w) → if Region.wanted ⟨d, op, ty, pos, aft, g⟩ (yielded ops a.tmps) = true then Oper.wp P ⟨d, op, ty, pos, aft, g⟩ a w K' Q else K' (a.put d undef) w)
    (hr : Region.ready md ops listed = [i] := by kernel_rfl) : wpAnyH P md ops Q S (fuel + 1) listed a w :=
  wpAnyH_ready hr (by simp) (AllReadyH.cons hi h AllReadyH.nil)
end
end Go.Proofs.YtojaagnfjenhoaaGreat
namespace Go.Proofs.YtojaagnfjenhoaaGreat
/-- The cells of a record. -/
abbrev rcA (a b c d e f g h i : Int) (j k : ByteArray) (l m : Int) (n : ByteArray) (o p : Int) (q r : Value) : Array Value := #[.int .i64 a, .int .i64 b, .int .i64 c, .int .i64 d, .int .i64 e, .int .i64 f, .int .i64 g, .int .i64 h, .int .i64 i, .string j, .string k, .int .i64 l, .int .i64 m, .string n, .int .i64 o, .int .i64 p, q, r]
end Go.Proofs.YtojaagnfjenhoaaGreat
namespace Go.Proofs.YtojaagnfjenhoaaGreat
/-- How a slot is written. -/
theorem pS : (∀ (l : List Value) (i : Nat) (v : Value), l.toArray.setIfInBounds i v = (l.set i v).toArray) ∧ (∀ (a : Value) (l : List Value) (v : Value), (a :: l).set 0 v = v :: l) ∧ ∀ (a : Value) (l : List Value) (i : Nat) (v : Value), (a :: l).set (i + 1) v = a :: l.set i v := ⟨fun _ _ _ => List.setIfInBounds_toArray .., fun _ _ _ => rfl, fun _ _ _ _ => rfl⟩
end Go.Proofs.YtojaagnfjenhoaaGreat
/- Words for memory that serve every seat: one element is appended, whatever it is. -/
namespace Go.Proofs.YtojaagnfjenhoaaGreat
open Go.RowKit
theorem wantedIf {c : Prop} [Decidable c] {p q : Prop} (hc : c) (h : p) : if c then p else q := by rw [if_pos hc]; exact h
/-- One element is appended to a row of the call's own. -/
theorem wp_push {P : Program} {o : Oper} {a : Act} {K : Act → World → Prop} {Q : Exit → Act → World → Prop} (w : World) (s x : Operand) (t e : TypeId) {z : Value} {size bytes : Nat}
    (ht : P.underlying t = some (.slice e)) (hi : (P.info? e).map (fun i => (i.zero, i.size, i.bytes)) = some (some z, size, bytes)) (hzc : z.cells.size = size) (hpos : 0 < size) (hby : bytes ≤ 1024)
    (ho : o.op = .call { callee := .builtin .append, args := #[s, x], argTypes := #[t, t] })
    (B : Nat) (v : Value) (n : Nat) (xs : List Value) (hs : a.eval s = v) (hown : w.ownsRow B e size v n xs) (g : Nat) (cs : List Value) (T : TypeId) (hx : a.eval x = .slice (some ⟨g, 0, none⟩) 1 1) (hg : w.heap[g]? = some (.cells cs.toArray T (0, 0)))
    (hcl : cs.length = size) (h1 : ∀ u ∈ cs, u.oneCell' = true) (hlen : n + 1 ≤ 1048576) (hbase : B ≤ w.heap.size)
    (h : ∀ v' w', w'.ownsRow B e size v' (n + 1) (xs ++ cs) → w.grownBy w' v.ownBlock → Below B w w' → K (a.put o.dst v') w') : o.wp P a w K Q := by
  obtain ⟨i0, hi, hz0, hz1, hz2⟩ := info_parts hi
  exact wp_appR w s x t e i0 _ size bytes ht hi hz0 hz1 hz2 hzc hpos ho B v n xs hs hown _ 1 1 cs hx (reads_blk (cs := cs) hg (Nat.le_refl _)) (by omega) h1 hlen hby hbase h
theorem wpList_push {P : Program} {ops : Array Oper} {rest : List Oper} {o : Oper} {a : Act} {Q : Exit → Act → World → Prop} {w : World} (hw : Region.wanted o (yielded ops a.tmps) = true) (s x : Operand) (t e : TypeId) {z : Value} {size bytes : Nat}
    (ht : P.underlying t = some (.slice e)) (hi : (P.info? e).map (fun i => (i.zero, i.size, i.bytes)) = some (some z, size, bytes)) (hzc : z.cells.size = size) (hpos : 0 < size) (hby : bytes ≤ 1024)
    (ho : o.op = .call { callee := .builtin .append, args := #[s, x], argTypes := #[t, t] })
    (B : Nat) (v : Value) (n : Nat) (xs : List Value) (hs : a.eval s = v) (hown : w.ownsRow B e size v n xs) (g : Nat) (cs : List Value) (T : TypeId) (hx : a.eval x = .slice (some ⟨g, 0, none⟩) 1 1) (hg : w.heap[g]? = some (.cells cs.toArray T (0, 0)))
    (hcl : cs.length = size) (h1 : ∀ u ∈ cs, u.oneCell' = true) (hlen : n + 1 ≤ 1048576) (hbase : B ≤ w.heap.size)
    (h : ∀ v' w', w'.ownsRow B e size v' (n + 1) (xs ++ cs) → w.grownBy w' v.ownBlock → Below B w w' → wpList P ops Q rest (a.put o.dst v') w') : wpList P ops Q (o :: rest) a w :=
  listWants hw fun _ hK => wp_push w s x t e ht hi hzc hpos hby ho B v n xs hs hown g cs T hx hg hcl h1 hlen hbase (fun v' w' a b c => hK _ _ (h v' w' a b c))
/-- The slice v is a row of the call's own that reads as the list l. -/
abbrev OwnL {α : Type} (enc : α → List Value) (k : Nat) (e : TypeId) (B : Nat) (w : World) (v : Value) (l : List α) : Prop := w.ownsRow B e k v l.length (l.flatMap enc)
theorem OwnL.push {α : Type} {enc : α → List Value} {k : Nat} {e : TypeId} {B : Nat} {w : World} {v : Value} {l : List α} {x : α} (h : w.ownsRow B e k v (l.length + 1) (l.flatMap enc ++ enc x)) : OwnL enc k e B w v (l ++ [x]) := by
  unfold OwnL
  rw [List.length_append, List.flatMap_append]
  simpa using h
theorem OwnL.form {α : Type} {enc : α → List Value} {k : Nat} {e : TypeId} {B : Nat} {w : World} {v : Value} {l : List α} (h : OwnL enc k e B w v l) : ∃ A c, v = .slice A l.length c ∧ Reads w A c l.length (l.flatMap enc) := by
  obtain ⟨A, c, rfl⟩ := ownLen h
  exact ⟨A, c, rfl, own_reads h⟩
/-- A row of the call's own, where one older block alone turns. -/
theorem ownKept {w w' : World} {B b : Nat} {e : TypeId} {size n : Nat} {v : Value} {xs : List Value} (h : w.ownsRow B e size v n xs) (hb : b < B) (hk : KeptB w.heap.size b w w') : w'.ownsRow B e size v n xs := by
  refine ⟨h.1, ?_⟩
  rcases h.2 with hz | ⟨g, cap, cur, hv, hg, hh, r⟩
  · exact .inl hz
  · exact .inr ⟨g, cap, cur, hv, hg, (hk.block g (heapLt hh) (by omega)).trans hh, r⟩
/-- A row of the call's own and a block of another kind are apart. -/
theorem ownApart {w : World} {B g n size : Nat} {e t : TypeId} {v : Value} {xs : List Value} {cs : Array Value} {fr : Nat × Nat} (h : w.ownsRow B e size v n xs) (hg : w.heap[g]? = some (.cells cs t fr)) (hne : e ≠ t) : v.ownBlock ≠ some g := by
  rcases h.2 with ⟨rfl, _⟩ | ⟨g', cap, cur, rfl, _, hh, _⟩
  · simp [Value.ownBlock]
  · intro he
    have hgg : g' = g := by simpa [Value.ownBlock] using he
    subst hgg
    rw [hh] at hg
    injection hg with hg
    injection hg with _ ht
    exact hne ht
/-- Two rows of the call's own, of unlike kinds: the one grows, the other stays. -/
theorem ownGrown {w w' : World} {B n m size size' : Nat} {e e' : TypeId} {v v' : Value} {xs xs' : List Value} (h : w.ownsRow B e size v n xs) (h' : w.ownsRow B e' size' v' m xs') (hne : e ≠ e') (hg : w.grownBy w' v'.ownBlock) : w'.ownsRow B e size v n xs := by
  refine ⟨h.1, ?_⟩
  rcases h.2 with hz | ⟨g, cap, cur, hv, hgB, hh, r⟩
  · exact .inl hz
  · exact .inr ⟨g, cap, cur, hv, hgB, (hg.block g (heapLt hh) (fun e1 => ownApart h' hh (fun e2 => hne e2.symm) e1.symm)).trans hh, r⟩
end Go.Proofs.YtojaagnfjenhoaaGreat
/- The walks over package disk: Read. -/
namespace Go.Proofs.YtojaagnfjenhoaaGreat
open Go.RowKit
def strC (b : ByteArray) : List Value := [.string b]
theorem strC_len (b : ByteArray) : (strC b).length = 1 := rfl
theorem strC_map (l : List ByteArray) : l.flatMap strC = l.map Value.string := by
  induction l with
  | nil => rfl
  | cons b l ih => rw [List.flatMap_cons, ih]; rfl
abbrev diskV (d : Lg.Dk) (A : Option Addr) (c : Nat) : Value := .agg #[.slice A d.sectors.length c, .int .i64 d.left, .bool d.down]
/-- A disk in memory. -/
structure DiskR (w : World) (d : Lg.Dk) (A : Option Addr) (c : Nat) : Prop where
  secs : Reads w A c d.sectors.length (d.sectors.flatMap strC)
  small : d.sectors.length ≤ 1000000
theorem DiskR.below {w w' : World} {d : Lg.Dk} {A : Option Addr} {c : Nat} (h : DiskR w d A c) (hb : Below w.heap.size w w') : DiskR w' d A c := ⟨h.secs.below hb, h.small⟩
set_option maxRecDepth 100000 in
theorem has_any (d : Lg.Dk) (A : Option Addr) (c : Nat) (a : Int) (w : World) :
    Calls Tryz.prog 52 #[diskV d A c, .int .i64 a] w fun e w' => e = .returned (.bool (decide (Lg.hasD d a))) ∧ Below w.heap.size w w' := by
  obtain ⟨L, left, down⟩ := d
  by_cases h0 : 0 ≤ a
  · by_cases h1 : a < (L.length : Int)
    · rw [decide_eq_true (show Lg.hasD ⟨L, left, down⟩ a from And.intro h0 h1)]
      go_enter Tryz.func52, Tryz.ntmps52
      go_wp2_with fail
      go_ret
      exact ⟨by simp, allocB _ _⟩
    · rw [decide_eq_false (show ¬ Lg.hasD ⟨L, left, down⟩ a from fun h => h1 h.2)]
      go_enter Tryz.func52, Tryz.ntmps52
      go_wp2_with fail
      go_ret
      exact ⟨by simp, allocB _ _⟩
  · rw [decide_eq_false (show ¬ Lg.hasD ⟨L, left, down⟩ a from fun h => h0 h.1)]
    go_enter Tryz.func52, Tryz.ntmps52
    go_wp2_with fail
    go_ret
    exact ⟨by simp, allocB _ _⟩
set_option maxRecDepth 100000 in
set_option maxHeartbeats 1000000 in
theorem dread_any (d : Lg.Dk) (A : Option Addr) (c : Nat) (a : Int) (w : World) (h : DiskR w d A c) :
    Calls Tryz.prog 56 #[diskV d A c, .int .i64 a] w fun e w' => e = .returned (.tuple #[.string (Lg.readD d a).1, .int .i64 (Lg.readD d a).2]) ∧ Below w.heap.size w w' := by
  have HH := Lib.hid (fun W => has_any d A c a W)
  have HR := Lib.hid h.secs
  clear h
  unfold Lg.readD
  cases hd : d.down with
  | true =>
    obtain ⟨L, left, down⟩ := d
    simp only at hd
    subst hd
    rw [if_pos rfl]
    dsimp only [diskV]
    go_enter Tryz.func56, Tryz.ntmps56
    go_wp2_with fail
    go_ret2
    exact ⟨rfl, allocB _ _⟩
  | false =>
    rw [if_neg (by simp)]
    by_cases hh : Lg.hasD d a
    · rw [if_pos hh]
      rw [decide_eq_true hh] at HH
      obtain ⟨L, left, down⟩ := d
      simp only at hd
      subst hd
      unfold Lg.hasD at hh
      unfold Lg.secAt
      dsimp only [diskV] at hh HH HR ⊢
      obtain ⟨h0, h1⟩ := hh
      obtain ⟨k, rfl⟩ := Int.eq_ofNat_of_zero_le h0
      have hk : k < L.length := by omega
      obtain ⟨b, off, rfl, hc, hbl, hcell⟩ := read_at strC_len HR.out hk
      have q0 := hcell 0 _ rfl
      simp only [Nat.mul_one, Nat.add_zero] at q0
      rw [Int.toNat_natCast, List.getElem?_eq_getElem hk, Option.getD_some]
      generalize L[k] = x at q0 ⊢
      have Q0 := Lib.hid q0
      clear q0 hcell h0
      go_enter Tryz.func56, Tryz.ntmps56
      go_upto_region 5 with (go_at_call 52; (with_reducible refine (HH.out _).mono ?_); rintro e w1 ⟨rfl, hb1⟩; have hbx := blkCell (blkNew hb1))
      have q1 : w1.cell? ⟨b, off + k, none⟩ = some (.string x) := (joinB (allocB w _) hb1).cell (p := ⟨b, off + k, none⟩) hbl |>.trans Q0.out
      have HB1 := Lib.hid (joinB (allocB w _) hb1)
      clear hb1
      go_wp2_with fail
      go_ret2
      exact ⟨rfl, HB1.out⟩
    · rw [if_neg hh]
      rw [decide_eq_false hh] at HH
      clear hh
      obtain ⟨L, left, down⟩ := d
      simp only at hd
      subst hd
      dsimp only [diskV] at HH ⊢
      go_enter Tryz.func56, Tryz.ntmps56
      go_wp2_with (go_at_call 52; (with_reducible refine (HH.out _).mono ?_); rintro e w1 ⟨rfl, hb1⟩)
      go_ret2
      exact ⟨rfl, joinB (allocB _ _) hb1⟩
end Go.Proofs.YtojaagnfjenhoaaGreat
/- Words for memory that serve every seat: the boxes of a call, one behind the other. -/
namespace Go.Proofs.YtojaagnfjenhoaaGreat
open Go.RowKit
theorem heap_setRow_other (w : World) (b : Nat) (cs : Array Value) (k : Nat) (h : k ≠ b) : (w.setRow b cs).heap[k]? = w.heap[k]? := by
  show (w.heap.modify b _)[k]? = _
  rw [Array.getElem?_modify, if_neg (fun e => h e.symm)]
/-- The boxes l lie one behind the other from block B on; nothing ahead of w's end has turned. -/
structure BxL (B : Nat) (w : World) (l : List (Array Value × TypeId)) (u : World) : Prop where
  get : ∀ i p, l[i]? = some p → u.heap[B + i]? = some (.cells p.1 p.2 (0, 0))
  low : w.heap.size ≤ B
  below : Below w.heap.size w u
theorem BxL.get0 {B : Nat} {w u : World} {l : List (Array Value × TypeId)} {c0 : Array Value} {T0 : TypeId} (h : BxL B w ((c0, T0) :: l) u) : u.heap[B]? = some (.cells c0 T0 (0, 0)) := h.get 0 _ rfl
theorem BxL.get1 {B : Nat} {w u : World} {l : List (Array Value × TypeId)} {p : Array Value × TypeId} {c1 : Array Value} {T1 : TypeId} (h : BxL B w (p :: (c1, T1) :: l) u) : u.heap[B + 1]? = some (.cells c1 T1 (0, 0)) := h.get 1 _ rfl
theorem BxL.get2 {B : Nat} {w u : World} {l : List (Array Value × TypeId)} {p q : Array Value × TypeId} {c2 : Array Value} {T2 : TypeId} (h : BxL B w (p :: q :: (c2, T2) :: l) u) : u.heap[B + 2]? = some (.cells c2 T2 (0, 0)) := h.get 2 _ rfl
theorem BxL.nil {w u : World} (h : Below w.heap.size w u) : BxL u.heap.size w [] u := ⟨fun i p h => (by simp at h), h.size, h⟩
theorem BxL.lt {B : Nat} {w u : World} {l : List (Array Value × TypeId)} (h : BxL B w l u) {i : Nat} (hi : i < l.length) : B + i < u.heap.size := heapLt (h.get i _ (List.getElem?_eq_getElem hi))
theorem BxL.new {B : Nat} {w u : World} {l : List (Array Value × TypeId)} (h : BxL B w l u) (hs : u.heap.size = B + l.length) (cs : Array Value) (T : TypeId) : BxL B w (l ++ [(cs, T)]) (u.alloc (.cells cs T)) := by
  refine ⟨fun i p hp => ?_, h.low, pastAlloc h.below⟩
  by_cases hi : i < l.length
  · rw [List.getElem?_append_left hi] at hp
    exact blkOld (h.get i p hp) (allocB _ _)
  · rw [List.getElem?_append_right (by omega)] at hp
    have h0 : i - l.length = 0 := by
      have := (List.getElem?_eq_some_iff.1 hp).1
      simpa using this
    rw [h0] at hp
    simp only [List.getElem?_cons_zero, Option.some.injEq] at hp
    subst hp
    rw [show B + i = u.heap.size by omega]
    exact heap_alloc_new u _
theorem BxL.step {B : Nat} {w u v : World} {l : List (Array Value × TypeId)} (h : BxL B w l u) (hb : Below u.heap.size u v) : BxL B w l v :=
  ⟨fun i p hp => blkOld (h.get i p hp) hb, h.low, joinB h.below hb⟩
theorem BxL.under {B : Nat} {w u v : World} {l : List (Array Value × TypeId)} (h : BxL B w l u) {M : Nat} (hM : B + l.length ≤ M) (hb : Below M u v) : BxL B w l v := by
  have hl := h.low
  refine ⟨fun i p hp => ?_, h.low, h.below.trans (hb.mono (by omega))⟩
  have hi := (List.getElem?_eq_some_iff.1 hp).1
  exact (hb.block _ (by omega)).trans (h.get i p hp)
theorem BxL.drew {B : Nat} {w u : World} {l : List (Array Value × TypeId)} (h : BxL B w l u) : BxL B w l u.drew := h.step (Below.refl _ _).drew
theorem BxL.set {B : Nat} {w u : World} {l : List (Array Value × TypeId)} (h : BxL B w l u) (i j : Nat) (v : Value) (p : Array Value × TypeId) (hi : l[i]? = some p) : BxL B w (l.set i (p.1.setIfInBounds j v, p.2)) (u.setCell ⟨B + i, j, none⟩ v) := by
  have hil := (List.getElem?_eq_some_iff.1 hi).1
  refine ⟨fun k q hq => ?_, h.low, h.below.setCell (by have := h.low; show _ ≤ B + i; omega) v⟩
  by_cases hk : i = k
  · subst hk
    rw [List.getElem?_set_self hil] at hq
    injection hq with hq
    subst hq
    exact blkSet j (h.get i p hi) v
  · rw [List.getElem?_set_ne hk] at hq
    rw [Below.heap_setCell _ _ _ _ (by show B + k ≠ B + i; omega)]
    exact h.get k q hq
theorem BxL.row {B : Nat} {w u : World} {l : List (Array Value × TypeId)} (h : BxL B w l u) (i : Nat) (cs : Array Value) (p : Array Value × TypeId) (hi : l[i]? = some p) : BxL B w (l.set i (cs, p.2)) (u.setRow (B + i) cs) := by
  have hil := (List.getElem?_eq_some_iff.1 hi).1
  have hl := h.low
  refine ⟨fun k q hq => ?_, h.low, ⟨h.below.os, h.below.tape, h.below.output, by show _ ≤ (u.heap.modify _ _).size; have := h.below.size; simpa using this, fun k hk => (heap_setRow_other _ _ _ _ (by omega)).trans (h.below.block k hk)⟩⟩
  by_cases hk : i = k
  · subst hk
    rw [List.getElem?_set_self hil] at hq
    injection hq with hq
    subst hq
    exact setRow_heap _ _ _ _ _ _ (h.get i p hi)
  · rw [List.getElem?_set_ne hk] at hq
    rw [heap_setRow_other _ _ _ _ (by omega)]
    exact h.get k q hq
/-- What is read at A stays behind a store into a block elsewhere. -/
theorem Reads.off {w : World} {A : Option Addr} {c n : Nat} {vs : List Value} (h : Reads w A c n vs) (b j : Nat) (v : Value) (ha : 0 < n → ∀ ad, A = some ad → ad.block ≠ b) : Reads (w.setCell ⟨b, j, none⟩ v) A c n vs := fun h0 => by
  obtain ⟨g, off, e, hc, hlt, hcell⟩ := h h0
  have hne := ha h0 _ e
  refine ⟨g, off, e, hc, by simpa [World.setCell] using hlt, fun k u hk => ?_⟩
  have := hcell k u hk
  unfold World.cell? at this ⊢
  rw [Below.heap_setCell _ _ _ _ hne]
  exact this
theorem Reads.offRow {w : World} {A : Option Addr} {c n : Nat} {vs : List Value} (h : Reads w A c n vs) (b : Nat) (cs : Array Value) (ha : 0 < n → ∀ ad, A = some ad → ad.block ≠ b) : Reads (w.setRow b cs) A c n vs := fun h0 => by
  obtain ⟨g, off, e, hc, hlt, hcell⟩ := h h0
  have hne := ha h0 _ e
  refine ⟨g, off, e, hc, by show _ < (w.heap.modify _ _).size; simpa using hlt, fun k u hk => ?_⟩
  have := hcell k u hk
  unfold World.cell? at this ⊢
  rw [heap_setRow_other _ _ _ _ hne]
  exact this
theorem Reads.old {w : World} {A : Option Addr} {c n : Nat} {vs : List Value} (h : Reads w A c n vs) (h0 : 0 < n) : ∀ ad, A = some ad → ad.block < w.heap.size := fun ad e => by
  obtain ⟨g, off, e2, _, hlt, _⟩ := h h0
  rw [e2] at e
  injection e with e
  rw [← e]; exact hlt
/-- From w to v only blocks from lo to hi, and new ones, may have turned. -/
structure Apart (lo hi : Nat) (w v : World) : Prop where
  size : w.heap.size ≤ v.heap.size
  block : ∀ k, k < w.heap.size → (k < lo ∨ hi ≤ k) → v.heap[k]? = w.heap[k]?
theorem Apart.refl (lo hi : Nat) (w : World) : Apart lo hi w w := ⟨Nat.le_refl _, fun _ _ _ => rfl⟩
theorem Apart.trans {lo hi : Nat} {u v w : World} (h : Apart lo hi u v) (k : Apart lo hi v w) : Apart lo hi u w := ⟨Nat.le_trans h.size k.size, fun i h1 h2 => (k.block i (Nat.lt_of_lt_of_le h1 h.size) h2).trans (h.block i h1 h2)⟩
theorem Apart.below {lo hi : Nat} {w v : World} (hb : Below w.heap.size w v) : Apart lo hi w v := ⟨hb.size, fun k h1 _ => hb.block k h1⟩
theorem Apart.cell {lo hi : Nat} {u v : World} (h : Apart lo hi u v) (b j : Nat) (x : Value) (h1 : lo ≤ b) (h2 : b < hi) : Apart lo hi u (v.setCell ⟨b, j, none⟩ x) :=
  h.trans ⟨by simp [World.setCell], fun k _ hk => Below.heap_setCell _ _ _ _ (by show k ≠ b; omega)⟩
theorem Apart.row {lo hi : Nat} {u v : World} (h : Apart lo hi u v) (b : Nat) (cs : Array Value) (h1 : lo ≤ b) (h2 : b < hi) : Apart lo hi u (v.setRow b cs) :=
  h.trans ⟨by show _ ≤ (v.heap.modify _ _).size; simp, fun k _ hk => heap_setRow_other _ _ _ _ (by omega)⟩
theorem Apart.drew {lo hi : Nat} {u v : World} (h : Apart lo hi u v) : Apart lo hi u v.drew := h.trans (Apart.below (Below.refl _ _).drew)
theorem Reads.apart {lo hi : Nat} {w v : World} {A : Option Addr} {c n : Nat} {vs : List Value} (h : Reads w A c n vs) (ha : Apart lo hi w v) (hA : 0 < n → ∀ ad, A = some ad → ad.block < lo ∨ hi ≤ ad.block) : Reads v A c n vs := fun h0 => by
  obtain ⟨g, off, e, hc, hlt, hcell⟩ := h h0
  have hne := hA h0 _ e
  refine ⟨g, off, e, hc, Nat.lt_of_lt_of_le hlt ha.size, fun k u hk => ?_⟩
  have := hcell k u hk
  unfold World.cell? at this ⊢
  rw [ha.block _ hlt hne]
  exact this
theorem rowApart {lo hi : Nat} {w w' : World} {B : Nat} {e : TypeId} {size n : Nat} {v : Value} {xs : List Value} (h : w.ownsRow B e size v n xs) (hb : hi ≤ B) (ha : Apart lo hi w w') : w'.ownsRow B e size v n xs := by
  refine ⟨h.1, ?_⟩
  rcases h.2 with hz | ⟨g, cap, cur, hv, hg, hh, r⟩
  · exact .inl hz
  · exact .inr ⟨g, cap, cur, hv, hg, (ha.block g (heapLt hh) (.inr (by omega))).trans hh, r⟩
/-- A row of the call's own, and a store into a block of another kind. -/
theorem ownOther {w : World} {B g n size : Nat} {e t : TypeId} {v : Value} {xs : List Value} {cur : Array Value} {fr : Nat × Nat} (h : w.ownsRow B e size v n xs) (hg : w.heap[g]? = some (.cells cur t fr)) (hne : e ≠ t) (cs : Array Value) : (w.setRow g cs).ownsRow B e size v n xs := by
  refine ⟨h.1, ?_⟩
  rcases h.2 with hz | ⟨g', cap, cur', hv, hgB, hh, r⟩
  · exact .inl hz
  · refine .inr ⟨g', cap, cur', hv, hgB, ?_, r⟩
    rw [heap_setRow_other _ _ _ _ (fun e1 => ?_)]
    · exact hh
    · subst e1
      rw [hh] at hg
      injection hg with hg
      injection hg with _ ht
      exact hne ht
theorem ownCell {w : World} {B g b n size c : Nat} {e t : TypeId} {xs : List Value} {cur : Array Value} {fr : Nat × Nat} (h : w.ownsRow B e size (.slice (some ⟨b, 0, none⟩) n c) n xs) (hg : w.heap[g]? = some (.cells cur t fr)) (hne : e ≠ t) : b ≠ g := by
  rcases h.2 with ⟨hv, _⟩ | ⟨g', cap, cur', hv, _, hh, _⟩
  · cases hv
  · injection hv with h1
    injection h1 with h1
    injection h1 with h1
    subst h1
    intro e1
    subst e1
    rw [hh] at hg
    injection hg with hg
    injection hg with _ ht
    exact hne ht
theorem cellOther {w : World} {g b k : Nat} {x : Value} {o : Obj} {cs : Array Value} (h : w.cell? ⟨b, k, none⟩ = some x) (_hg : w.heap[g]? = some o) (hne : b ≠ g) : (w.setRow g cs).cell? ⟨b, k, none⟩ = some x := by
  unfold World.cell? at h ⊢
  rw [heap_setRow_other _ _ _ _ hne]
  exact h
/-- One element of a row of the call's own turns. -/
theorem ownAt {w : World} {B n : Nat} {e : TypeId} {v : Value} {xs : List Value} (h : w.ownsRow B e 1 v n xs) {k : Nat} (hk : k < n) : ∃ g cap, v = .slice (some ⟨g, 0, none⟩) n cap ∧ B ≤ g ∧ g < w.heap.size ∧ n ≤ cap ∧ w.cell? ⟨g, k, none⟩ = xs[k]? ∧ w.frozen? ⟨g, k, none⟩ = false ∧
    ∀ u, (w.setCell ⟨g, k, none⟩ u).ownsRow B e 1 v n (xs.set k u) := by
  rcases h.2 with ⟨_, hz⟩ | ⟨g, cap, cur, hv, hg, hh, hn, hm, hs, ht⟩
  · omega
  · refine ⟨g, cap, hv, hg, heapLt hh, hn, ?_, blkFrozen hh k, fun u => ⟨by rw [List.length_set]; exact h.1, .inr ⟨g, cap, cur.setIfInBounds k u, hv, hg, blkSet k hh u, hn, hm, by simpa using hs, ?_⟩⟩⟩
    · rw [blkCell hh, ← ht, List.getElem?_take, if_pos (by omega)]
      simp
    · rw [Array.toList_setIfInBounds, List.take_set, ht]
theorem ownRowOff {w : World} {B : Nat} {e : TypeId} {size n : Nat} {v : Value} {xs : List Value} (h : w.ownsRow B e size v n xs) (b : Nat) (cs : Array Value) (hb : b < B) : (w.setRow b cs).ownsRow B e size v n xs := by
  refine ⟨h.1, ?_⟩
  rcases h.2 with hz | ⟨g, cap, cur, hv, hg, hh, r⟩
  · exact .inl hz
  · exact .inr ⟨g, cap, cur, hv, hg, by rw [heap_setRow_other _ _ _ _ (by omega)]; exact hh, r⟩
/-- What lies at A is elsewhere than the blocks from lo to hi. -/
def AwayA (lo hi : Nat) (A : Option Addr) : Prop := ∀ ad, A = some ad → ad.block < lo ∨ hi ≤ ad.block
theorem AwayA.none_ (lo hi : Nat) : AwayA lo hi none := fun _ h => by cases h
/-- What lies at A is no older than block number n. -/
def NewA (n : Nat) (A : Option Addr) : Prop := ∀ ad, A = some ad → n ≤ ad.block
theorem NewA.none_ (n : Nat) : NewA n none := fun _ h => by cases h
theorem NewA.mono {n m : Nat} {A : Option Addr} (h : NewA n A) (hm : m ≤ n) : NewA m A := fun ad e => Nat.le_trans hm (h ad e)
/-- What lies at A is no older than block n, and a row of such a type. -/
def NewT (n : Nat) (w : World) (T : TypeId) (A : Option Addr) : Prop := ∀ ad, A = some ad → n ≤ ad.block ∧ ∃ cs fr, w.heap[ad.block]? = some (.cells cs T fr)
theorem NewT.none_ (n : Nat) (w : World) (T : TypeId) : NewT n w T none := fun _ h => by cases h
theorem NewT.mono {n m : Nat} {w : World} {T : TypeId} {A : Option Addr} (h : NewT n w T A) (hm : m ≤ n) : NewT m w T A := fun ad e => ⟨Nat.le_trans hm (h ad e).1, (h ad e).2⟩
theorem NewT.below {n : Nat} {w w' : World} {T : TypeId} {A : Option Addr} (h : NewT n w T A) (hb : Below w.heap.size w w') : NewT n w' T A := fun ad e => by
  obtain ⟨h1, cs, fr, h2⟩ := h ad e
  exact ⟨h1, cs, fr, blkOld h2 hb⟩
theorem NewT.own {w : World} {B : Nat} {T : TypeId} {size n c : Nat} {A : Option Addr} {xs : List Value} (h : w.ownsRow B T size (.slice A n c) n xs) : NewT B w T A := by
  intro ad hA
  rcases h.2 with ⟨hv, _⟩ | ⟨g, cap, cur, hv, hg, hh, _⟩
  · injection hv with h1; rw [h1] at hA; cases hA
  · injection hv with h1; rw [h1] at hA; injection hA with hA; rw [← hA]; exact ⟨hg, cur, _, hh⟩
theorem NewT.row {n : Nat} {w : World} {T : TypeId} {A : Option Addr} (h : NewT n w T A) (b : Nat) (cs : Array Value) : NewT n (w.setRow b cs) T A := fun ad e => by
  obtain ⟨h1, cs0, fr, h2⟩ := h ad e
  refine ⟨h1, ?_⟩
  by_cases hb : ad.block = b
  · subst hb; exact ⟨cs, fr, setRow_heap _ _ _ _ _ _ h2⟩
  · exact ⟨cs0, fr, (heap_setRow_other _ _ _ _ hb).trans h2⟩
theorem NewT.set {n : Nat} {w : World} {T : TypeId} {A : Option Addr} (h : NewT n w T A) (b j : Nat) (v : Value) : NewT n (w.setCell ⟨b, j, none⟩ v) T A := fun ad e => by
  obtain ⟨h1, cs0, fr, h2⟩ := h ad e
  refine ⟨h1, ?_⟩
  by_cases hb : ad.block = b
  · subst hb; exact ⟨_, fr, blkSet j h2 v⟩
  · exact ⟨cs0, fr, (Below.heap_setCell _ _ _ _ hb).trans h2⟩
theorem NewT.apart {n lo hi : Nat} {w v : World} {T : TypeId} {A : Option Addr} (h : NewT n w T A) (ha : Apart lo hi w v) (hn : hi ≤ n) : NewT n v T A := fun ad e => by
  obtain ⟨h1, cs0, fr, h2⟩ := h ad e
  exact ⟨h1, cs0, fr, (ha.block _ (heapLt h2) (.inr (by omega))).trans h2⟩
theorem NewT.grown {n m size B0 : Nat} {w w' : World} {T e : TypeId} {A : Option Addr} {v : Value} {xs : List Value} (h : NewT n w T A) (ho : w.ownsRow B0 e size v m xs) (hne : e ≠ T) (hg : w.grownBy w' v.ownBlock) : NewT n w' T A := fun ad ea => by
  obtain ⟨h1, cs0, fr, h2⟩ := h ad ea
  exact ⟨h1, cs0, fr, (hg.block _ (heapLt h2) (fun e1 => ownApart ho h2 hne e1.symm)).trans h2⟩
/-- What is read in a row of one kind stays, where a row of another kind grows. -/
theorem NewT.reads {n m size B0 k c : Nat} {w w' : World} {T e : TypeId} {A : Option Addr} {v : Value} {xs vs : List Value} (h : NewT n w T A) (hr : Reads w A c k vs) (ho : w.ownsRow B0 e size v m xs) (hne : e ≠ T) (hg : w.grownBy w' v.ownBlock) : Reads w' A c k vs := fun h0 => by
  obtain ⟨b, off, rfl, e2, e3, e4⟩ := hr h0
  obtain ⟨_, cs0, fr, h2⟩ := h _ rfl
  refine ⟨b, off, rfl, e2, Nat.lt_of_lt_of_le e3 hg.size, fun j u hj => ?_⟩
  have := e4 j u hj
  unfold World.cell? at this ⊢
  rw [hg.block _ e3 (fun e1 => ownApart ho h2 hne e1.symm)]
  exact this
/-- What is read in a row of one kind stays behind a store into a block of another kind. -/
theorem NewT.readsRow {n k c b : Nat} {w : World} {T t : TypeId} {A : Option Addr} {vs : List Value} {cur : Array Value} {fr : Nat × Nat} (h : NewT n w T A) (hr : Reads w A c k vs) (hb : w.heap[b]? = some (.cells cur t fr)) (hne : t ≠ T) (cs : Array Value) : Reads (w.setRow b cs) A c k vs :=
  hr.offRow b cs (fun _ ad e => by
    intro e1
    obtain ⟨_, cs0, fr0, h2⟩ := h ad e
    rw [e1, hb] at h2
    injection h2 with h2
    injection h2 with _ h2
    exact hne h2)
theorem listStore {P : Program} {ops : Array Oper} {rest : List Oper} {op : Oper} {a : Act} {w : World} {Q : Exit → Act → World → Prop} (hw : Region.wanted op (yielded ops a.tmps) = true) (ty : TypeId) (x y : Operand) (ho : op.op = .store ty x y)
    (b : Nat) (cells cur : Array Value) (t : TypeId) (hx : a.eval x = .pointer (some ⟨b, 0, none⟩)) (hy : a.eval y = .agg cells) (hg : w.heap[b]? = some (.cells cur t (0, 0))) (hsz : cur.size = cells.size)
    (hi : (P.info? ty).map (·.size) = some cells.size) (h1 : cells.all (·.oneCell') = true) (h : wpList P ops Q rest (a.put op.dst undef) (w.setRow b cells)) : wpList P ops Q (op :: rest) a w :=
  listWants hw fun _ hK => wp_store_whole ty x y ho b cells cur t hx hy hg hsz hi h1 (hK _ _ h)
theorem results_cell2 {P : Program} {fn : Func} {p q : Tmp} {ty : TypeId} (h : fn.results = #[.cell p ty, .tmp q]) (tmps : Array Value) (w : World) {ad : Addr} (hp : tmps.getD p undef = .pointer (some ad)) {v : Value} (hl : (loadVar ty ad).run P w = .ok v w) {v2 : Value} (h2 : tmps.getD q undef = v2) :
    (results fn tmps).run P w = .ok (.tuple #[v, v2]) w := by
  simp only [results, h]
  have hp' : tmps[p]?.getD undef = .pointer (some ad) := by simpa using hp
  have h2' : tmps[q]?.getD undef = v2 := by simpa using h2
  simp [Result.andThen, hp', h2', asAddr, hl]
theorem results_cell3 {P : Program} {fn : Func} {p q r : Tmp} {ty : TypeId} (h : fn.results = #[.cell p ty, .tmp q, .tmp r]) (tmps : Array Value) (w : World) {ad : Addr} (hp : tmps.getD p undef = .pointer (some ad)) {v : Value} (hl : (loadVar ty ad).run P w = .ok v w) {v2 v3 : Value} (h2 : tmps.getD q undef = v2) (h3 : tmps.getD r undef = v3) :
    (results fn tmps).run P w = .ok (.tuple #[v, v2, v3]) w := by
  simp only [results, h]
  have hp' : tmps[p]?.getD undef = .pointer (some ad) := by simpa using hp
  have h2' : tmps[q]?.getD undef = v2 := by simpa using h2
  have h3' : tmps[r]?.getD undef = v3 := by simpa using h3
  simp [Result.andThen, hp', h2', h3', asAddr, hl]
theorem results_cells {P : Program} {fn : Func} {p q r : Tmp} {ty ty2 : TypeId} (h : fn.results = #[.cell p ty, .cell q ty2, .tmp r]) (tmps : Array Value) (w : World) {ad ad2 : Addr} (hp : tmps.getD p undef = .pointer (some ad)) (hq : tmps.getD q undef = .pointer (some ad2)) {v v2 : Value} (hl : (loadVar ty ad).run P w = .ok v w) (hl2 : (loadVar ty2 ad2).run P w = .ok v2 w) {v3 : Value} (h3 : tmps.getD r undef = v3) :
    (results fn tmps).run P w = .ok (.tuple #[v, v2, v3]) w := by
  simp only [results, h]
  have hp' : tmps[p]?.getD undef = .pointer (some ad) := by simpa using hp
  have hq' : tmps[q]?.getD undef = .pointer (some ad2) := by simpa using hq
  have h3' : tmps[r]?.getD undef = v3 := by simpa using h3
  simp [Result.andThen, hp', hq', h3', asAddr, hl, hl2]
end Go.Proofs.YtojaagnfjenhoaaGreat
/- The walks over package disk: Write. -/
namespace Go.Proofs.YtojaagnfjenhoaaGreat
open Go.RowKit
/-- What Write answers. -/
def WriteOut (x : Lg.Dk × Int) (A : Option Addr) (w : World) (e : Ending) (w' : World) : Prop :=
  ∃ A' c', e = .returned (.tuple #[diskV x.1 A' c', .int .i64 x.2]) ∧ DiskR w' x.1 A' c' ∧ (A' = A ∨ NewT w.heap.size w' 9 A') ∧ Below w.heap.size w w'
theorem clone_any (l : List ByteArray) (A : Option Addr) (c : Nat) (h0 : 0 < l.length) (hl : l.length ≤ 1000000) (w : World) (h : Reads w A c l.length (l.flatMap strC)) :
    Calls Tryz.prog 53 #[.slice A l.length c] w fun e w' => ∃ v, e = .returned v ∧ w'.ownsRow w.heap.size 9 1 v l.length (l.map Value.string) ∧ Below w.heap.size w w' := by
  obtain ⟨b, off, rfl, _, _, hcell⟩ := h h0
  refine (Tryz.slices_Clone_string b off l.length c l w (Nat.le_refl _) (by omega) (fun j hj => ?_)).mono ?_
  · have h1 := hcell j (.string l[j]) (by rw [strC_map]; simp [hj])
    rw [h1, List.getD_eq_getElem?_getD, List.getElem?_eq_getElem hj]
    rfl
  · rintro e w' ⟨v, rfl, h1, _, h2⟩
    rw [List.take_length] at h1
    exact ⟨v, rfl, h1, h2⟩
theorem write_keep {d : Lg.Dk} {A : Option Addr} {c : Nat} {w w' : World} {dn : Bool} {k : Int} {x : Lg.Dk × Int} (hx : x = (⟨d.sectors, d.left, dn⟩, k)) (h : DiskR w d A c) (hb : Below w.heap.size w w') : WriteOut x A w (.returned (.tuple #[.agg #[.slice A d.sectors.length c, .int .i64 d.left, .bool dn], .int .i64 k])) w' := by
  subst hx
  exact ⟨A, c, rfl, ⟨h.secs.below hb, h.small⟩, .inl rfl, hb⟩
theorem write_new {L : List ByteArray} {A A' : Option Addr} {n c : Nat} {w w' : World} {left : Int} {x : Lg.Dk × Int} (hx : x = (⟨L, left, false⟩, 0)) (hn : L.length = n) {vs : List Value} (h : Reads w' A' c n vs) {M : List ByteArray} {k : Nat} {b : ByteArray} (hv : vs = (M.map Value.string).set k (.string b)) (hL : L = M.set k b) (hl : L.length ≤ 1000000) (hA : NewT w.heap.size w' 9 A') (hb : Below w.heap.size w w') :
    WriteOut x A w (.returned (.tuple #[.agg #[.slice A' n c, .int .i64 left, .bool false], .int .i64 0])) w' := by
  subst hx hn
  refine ⟨A', c, rfl, ⟨?_, hl⟩, .inr hA, hb⟩
  rw [strC_map]
  show Reads w' A' c L.length (L.map Value.string)
  rw [hv] at h
  rw [hL, List.map_set]
  rw [hL] at h
  exact h
/-! walk -/
set_option maxRecDepth 100000 in
set_option maxHeartbeats 2000000 in
theorem dwrite_down (L : List ByteArray) (left : Int) (A : Option Addr) (c : Nat) (a : Int) (b : ByteArray) (x : Lg.Dk × Int) (hx : x = (⟨L, left, true⟩, 20)) (w : World) (h : DiskR w ⟨L, left, true⟩ A c) :
    Calls Tryz.prog 27 #[.agg #[.slice A L.length c, .int .i64 left, .bool true], .int .i64 a, .string b] w (WriteOut x A w) := by
  have HO := Lib.hid (fun w' hb => write_keep (dn := true) hx h (w' := w') hb)
  dsimp only at HO
  clear hx h
  go_enter Tryz.func27, Tryz.ntmps27
  go_upto_region 1 with fail
  have H0 := Lib.hid (show BxL w.heap.size w [(#[.slice A L.length c, .int .i64 left, .bool true], 26), (#[.slice none 0 0, .int .i64 0, .bool false], 26)] ((w.alloc (.cells #[.slice A L.length c, .int .i64 left, .bool true] 26)).alloc (.cells #[.slice none 0 0, .int .i64 0, .bool false] 26)) from ((BxL.nil (Below.refl w.heap.size w)).new (by simp) #[.slice A L.length c, .int .i64 left, .bool true] 26).new (by simp) #[.slice none 0 0, .int .i64 0, .bool false] 26)
  have hc0 := blkCell (H0.out.get 0 _ rfl)
  simp only [Nat.add_zero] at hc0
  obtain ⟨W0, hW0⟩ : ∃ W, W = (w.alloc (.cells #[.slice A L.length c, .int .i64 left, .bool true] 26)).alloc (.cells #[.slice none 0 0, .int .i64 0, .bool false] 26) := ⟨_, rfl⟩
  rw [← hW0] at H0 hc0 ⊢
  clear hW0
  have HX0 := Lib.hid (show W0.heap[w.heap.size]? = some (.cells #[.slice A L.length c, .int .i64 left, .bool true] 26 (0, 0)) from (by have h := H0.out.get 0 _ rfl; simpa using h))
  go_wp2_with (first | (with_reducible refine listLoad (by kernel_rfl) 26 (.tmp 3) rfl w.heap.size rfl #[.slice A L.length c, .int .i64 left, .bool true] _ HX0.out _ Tryz.underlying26 (by kernel_rfl) (by kernel_rfl) ?_) | (with_reducible refine listStore (by kernel_rfl) 26 (.tmp 6) (.tmp 11) rfl (w.heap.size + 1) #[.slice A L.length c, .int .i64 left, .bool true] _ _ rfl rfl (H0.out.get 1 _ rfl) (by kernel_rfl) (by kernel_rfl) (by kernel_rfl) ?_))
  refine bodyPost_ret (v := .tuple #[.agg #[.slice A L.length c, .int .i64 left, .bool true], .int .i64 20]) (results_cell2 rfl _ _ rfl (load_whole (setRow_heap _ _ _ _ _ _ (H0.out.get 1 _ rfl)) Tryz.underlying26 (by kernel_rfl) (by kernel_rfl)) rfl) rfl ?_
  exact HO.out _ ((H0.out.row 1 _ _ rfl).below)
set_option maxRecDepth 100000 in
set_option maxHeartbeats 2000000 in
theorem dwrite_arg (L : List ByteArray) (left : Int) (A : Option Addr) (c : Nat) (a : Int) (b : ByteArray) (hno : ¬ (Lg.hasD ⟨L, left, false⟩ a ∧ b.size = 128)) (x : Lg.Dk × Int) (hx : x = (⟨L, left, false⟩, 1)) (w : World) (h : DiskR w ⟨L, left, false⟩ A c) :
    Calls Tryz.prog 27 #[.agg #[.slice A L.length c, .int .i64 left, .bool false], .int .i64 a, .string b] w (WriteOut x A w) := by
  have HO := Lib.hid (fun w' hb => write_keep (dn := false) hx h (w' := w') hb)
  dsimp only at HO
  have HH := Lib.hid (fun W => has_any ⟨L, left, false⟩ A c a W)
  clear hx h
  by_cases hh : Lg.hasD ⟨L, left, false⟩ a
  · rw [decide_eq_true hh] at HH
    have hs : ¬ b.size = 128 := fun e => hno ⟨hh, e⟩
    have hs2 : ((b.size : Int) == 128) = false := by simp; omega
    have hs3 : ((b.size : Int) != 128) = true := by simp; omega
    have hs4 : (b.size == 128) = false := by simp; omega
    have hs5 : (b.size != 128) = true := by simp; omega
    clear hno hh
    dsimp only [diskV] at HH
    go_enter Tryz.func27, Tryz.ntmps27
    go_upto_region 1 with fail
    have H0 := Lib.hid (show BxL w.heap.size w [(#[.slice A L.length c, .int .i64 left, .bool false], 26), (#[.slice none 0 0, .int .i64 0, .bool false], 26)] ((w.alloc (.cells #[.slice A L.length c, .int .i64 left, .bool false] 26)).alloc (.cells #[.slice none 0 0, .int .i64 0, .bool false] 26)) from ((BxL.nil (Below.refl w.heap.size w)).new (by simp) #[.slice A L.length c, .int .i64 left, .bool false] 26).new (by simp) #[.slice none 0 0, .int .i64 0, .bool false] 26)
    have hc0 := blkCell (H0.out.get 0 _ rfl)
    simp only [Nat.add_zero] at hc0
    obtain ⟨W0, hW0⟩ : ∃ W, W = (w.alloc (.cells #[.slice A L.length c, .int .i64 left, .bool false] 26)).alloc (.cells #[.slice none 0 0, .int .i64 0, .bool false] 26) := ⟨_, rfl⟩
    rw [← hW0] at H0 hc0 ⊢
    clear hW0
    have HX0 := Lib.hid (show W0.heap[w.heap.size]? = some (.cells #[.slice A L.length c, .int .i64 left, .bool false] 26 (0, 0)) from (by have h := H0.out.get 0 _ rfl; simpa using h))
    go_upto_region 4 with (first | (with_reducible refine listLoad (by kernel_rfl) 26 (.tmp 3) rfl w.heap.size rfl #[.slice A L.length c, .int .i64 left, .bool false] _ HX0.out _ Tryz.underlying26 (by kernel_rfl) (by kernel_rfl) ?_) | (go_at_call 52; (with_reducible refine (HH.out _).mono ?_); rintro e w1 ⟨rfl, hb1⟩; have H1 := Lib.hid (H0.out.step hb1); clear hb1; have hc1 := blkCell (H1.out.get 0 _ rfl); simp only [Nat.add_zero] at hc1))
    have HX1 := Lib.hid (show w1.heap[w.heap.size]? = some (.cells #[.slice A L.length c, .int .i64 left, .bool false] 26 (0, 0)) from (by have h := H1.out.get 0 _ rfl; simpa using h))
    clear hs hs2 hs3 hs4 hs5
    go_wp2_with (first | (with_reducible refine listLoad (by kernel_rfl) 26 (.tmp 3) rfl w.heap.size rfl #[.slice A L.length c, .int .i64 left, .bool false] _ HX1.out _ Tryz.underlying26 (by kernel_rfl) (by kernel_rfl) ?_) | (with_reducible refine listStore (by kernel_rfl) 26 (.tmp 6) (.tmp 22) rfl (w.heap.size + 1) #[.slice A L.length c, .int .i64 left, .bool false] _ _ rfl rfl (H1.out.get 1 _ rfl) (by kernel_rfl) (by kernel_rfl) (by kernel_rfl) ?_))
    refine bodyPost_ret (v := .tuple #[.agg #[.slice A L.length c, .int .i64 left, .bool false], .int .i64 1]) (results_cell2 rfl _ _ rfl (load_whole (setRow_heap _ _ _ _ _ _ (H1.out.get 1 _ rfl)) Tryz.underlying26 (by kernel_rfl) (by kernel_rfl)) rfl) rfl ?_
    exact HO.out _ ((H1.out.row 1 _ _ rfl).below)
  · rw [decide_eq_false hh] at HH
    clear hno hh
    dsimp only [diskV] at HH
    go_enter Tryz.func27, Tryz.ntmps27
    go_upto_region 1 with fail
    have H0 := Lib.hid (show BxL w.heap.size w [(#[.slice A L.length c, .int .i64 left, .bool false], 26), (#[.slice none 0 0, .int .i64 0, .bool false], 26)] ((w.alloc (.cells #[.slice A L.length c, .int .i64 left, .bool false] 26)).alloc (.cells #[.slice none 0 0, .int .i64 0, .bool false] 26)) from ((BxL.nil (Below.refl w.heap.size w)).new (by simp) #[.slice A L.length c, .int .i64 left, .bool false] 26).new (by simp) #[.slice none 0 0, .int .i64 0, .bool false] 26)
    have hc0 := blkCell (H0.out.get 0 _ rfl)
    simp only [Nat.add_zero] at hc0
    obtain ⟨W0, hW0⟩ : ∃ W, W = (w.alloc (.cells #[.slice A L.length c, .int .i64 left, .bool false] 26)).alloc (.cells #[.slice none 0 0, .int .i64 0, .bool false] 26) := ⟨_, rfl⟩
    rw [← hW0] at H0 hc0 ⊢
    clear hW0
    have HX0 := Lib.hid (show W0.heap[w.heap.size]? = some (.cells #[.slice A L.length c, .int .i64 left, .bool false] 26 (0, 0)) from (by have h := H0.out.get 0 _ rfl; simpa using h))
    go_upto_region 4 with (first | (with_reducible refine listLoad (by kernel_rfl) 26 (.tmp 3) rfl w.heap.size rfl #[.slice A L.length c, .int .i64 left, .bool false] _ HX0.out _ Tryz.underlying26 (by kernel_rfl) (by kernel_rfl) ?_) | (go_at_call 52; (with_reducible refine (HH.out _).mono ?_); rintro e w1 ⟨rfl, hb1⟩; have H1 := Lib.hid (H0.out.step hb1); clear hb1; have hc1 := blkCell (H1.out.get 0 _ rfl); simp only [Nat.add_zero] at hc1))
    have HX1 := Lib.hid (show w1.heap[w.heap.size]? = some (.cells #[.slice A L.length c, .int .i64 left, .bool false] 26 (0, 0)) from (by have h := H1.out.get 0 _ rfl; simpa using h))
    go_wp2_with (first | (with_reducible refine listLoad (by kernel_rfl) 26 (.tmp 3) rfl w.heap.size rfl #[.slice A L.length c, .int .i64 left, .bool false] _ HX1.out _ Tryz.underlying26 (by kernel_rfl) (by kernel_rfl) ?_) | (with_reducible refine listStore (by kernel_rfl) 26 (.tmp 6) (.tmp 22) rfl (w.heap.size + 1) #[.slice A L.length c, .int .i64 left, .bool false] _ _ rfl rfl (H1.out.get 1 _ rfl) (by kernel_rfl) (by kernel_rfl) (by kernel_rfl) ?_))
    refine bodyPost_ret (v := .tuple #[.agg #[.slice A L.length c, .int .i64 left, .bool false], .int .i64 1]) (results_cell2 rfl _ _ rfl (load_whole (setRow_heap _ _ _ _ _ _ (H1.out.get 1 _ rfl)) Tryz.underlying26 (by kernel_rfl) (by kernel_rfl)) rfl) rfl ?_
    exact HO.out _ ((H1.out.row 1 _ _ rfl).below)
set_option maxRecDepth 100000 in
set_option maxHeartbeats 2000000 in
theorem dwrite_out (L : List ByteArray) (A : Option Addr) (c : Nat) (a : Int) (b : ByteArray) (hh : Lg.hasD ⟨L, 0, false⟩ a) (hs : b.size = 128) (x : Lg.Dk × Int) (hx : x = (⟨L, 0, true⟩, 20)) (w : World) (h : DiskR w ⟨L, 0, false⟩ A c) :
    Calls Tryz.prog 27 #[.agg #[.slice A L.length c, .int .i64 0, .bool false], .int .i64 a, .string b] w (WriteOut x A w) := by
  have HO := Lib.hid (fun w' hb => write_keep (dn := true) hx h (w' := w') hb)
  dsimp only at HO
  have HH := Lib.hid (fun W => has_any ⟨L, 0, false⟩ A c a W)
  rw [decide_eq_true hh] at HH
  have hs1 : ((b.size : Int) == 128) = true := by simp; omega
  have hs2 : ((b.size : Int) != 128) = false := by simp; omega
  have hs3 : (b.size == 128) = true := by simp; omega
  have hs4 : (b.size != 128) = false := by simp; omega
  clear hx h hs hh
  dsimp only [diskV] at HH
  go_enter Tryz.func27, Tryz.ntmps27
  go_upto_region 1 with fail
  have H0 := Lib.hid (show BxL w.heap.size w [(#[.slice A L.length c, .int .i64 0, .bool false], 26), (#[.slice none 0 0, .int .i64 0, .bool false], 26)] ((w.alloc (.cells #[.slice A L.length c, .int .i64 0, .bool false] 26)).alloc (.cells #[.slice none 0 0, .int .i64 0, .bool false] 26)) from ((BxL.nil (Below.refl w.heap.size w)).new (by simp) #[.slice A L.length c, .int .i64 0, .bool false] 26).new (by simp) #[.slice none 0 0, .int .i64 0, .bool false] 26)
  have hc0 := blkCell (H0.out.get 0 _ rfl)
  simp only [Nat.add_zero] at hc0
  obtain ⟨W0, hW0⟩ : ∃ W, W = (w.alloc (.cells #[.slice A L.length c, .int .i64 0, .bool false] 26)).alloc (.cells #[.slice none 0 0, .int .i64 0, .bool false] 26) := ⟨_, rfl⟩
  rw [← hW0] at H0 hc0 ⊢
  clear hW0
  have HX0 := Lib.hid (show W0.heap[w.heap.size]? = some (.cells #[.slice A L.length c, .int .i64 0, .bool false] 26 (0, 0)) from (by have h := H0.out.get 0 _ rfl; simpa using h))
  go_upto_region 5 with (first | (with_reducible refine listLoad (by kernel_rfl) 26 (.tmp 3) rfl w.heap.size rfl #[.slice A L.length c, .int .i64 0, .bool false] _ HX0.out _ Tryz.underlying26 (by kernel_rfl) (by kernel_rfl) ?_) | (go_at_call 52; (with_reducible refine (HH.out _).mono ?_); rintro e w1 ⟨rfl, hb1⟩; have H1 := Lib.hid (H0.out.step hb1); clear hb1; have hc1 := blkCell (H1.out.get 0 _ rfl); simp only [Nat.add_zero] at hc1))
  clear hs1 hs2 hs3 hs4
  have hz1 := blkFrozen (H1.out.get 0 _ rfl)
  simp only [Nat.add_zero] at hz1
  go_upto_region 7 with fail
  have HX2 := Lib.hid (show (w1.setCell ⟨w.heap.size, 2, none⟩ (.bool true)).heap[w.heap.size]? = some (.cells #[.slice A L.length c, .int .i64 0, .bool true] 26 (0, 0)) from by have h := (H1.out.set 0 2 (.bool true) _ rfl).get 0 _ rfl; simpa using h)
  have H2 := Lib.hid (H1.out.set 0 2 (.bool true) _ rfl)
  go_wp2_with (first | (with_reducible refine listLoad (by kernel_rfl) 26 (.tmp 3) rfl w.heap.size rfl #[.slice A L.length c, .int .i64 0, .bool true] _ HX2.out _ Tryz.underlying26 (by kernel_rfl) (by kernel_rfl) ?_) | (with_reducible refine listStore (by kernel_rfl) 26 (.tmp 6) (.tmp 28) rfl (w.heap.size + 1) #[.slice A L.length c, .int .i64 0, .bool true] _ _ rfl rfl (H2.out.get 1 _ rfl) (by kernel_rfl) (by kernel_rfl) (by kernel_rfl) ?_))
  refine bodyPost_ret (v := .tuple #[.agg #[.slice A L.length c, .int .i64 0, .bool true], .int .i64 20]) (results_cell2 rfl _ _ rfl (load_whole (setRow_heap _ _ _ _ _ _ (H2.out.get 1 _ rfl)) Tryz.underlying26 (by kernel_rfl) (by kernel_rfl)) rfl) rfl ?_
  exact HO.out _ ((H2.out.row 1 _ _ rfl).below)
set_option maxRecDepth 100000 in
set_option maxHeartbeats 2000000 in
theorem dwrite_on (L : List ByteArray) (left : Int) (hl0 : left ≠ 0) (hlb : -9223372036854775808 ≤ left ∧ left ≤ 9223372036854775807) (A : Option Addr) (c : Nat) (k : Nat) (b : ByteArray) (hk : k < L.length) (hs : b.size = 128) (x : Lg.Dk × Int) (hx : x = (⟨L.set k b, if 0 < left then left - 1 else left, false⟩, 0)) (w : World) (h : DiskR w ⟨L, left, false⟩ A c) :
    Calls Tryz.prog 27 #[.agg #[.slice A L.length c, .int .i64 left, .bool false], .int .i64 (k : Int), .string b] w (WriteOut x A w) := by
  have HH := Lib.hid (fun W => has_any ⟨L, left, false⟩ A c k W)
  rw [decide_eq_true (show Lg.hasD ⟨L, left, false⟩ (k : Int) from ⟨by omega, by show (k : Int) < (L.length : Int); omega⟩)] at HH
  have hs1 : ((b.size : Int) == 128) = true := by simp; omega
  have hs2 : ((b.size : Int) != 128) = false := by simp; omega
  have hs3 : (b.size == 128) = true := by simp; omega
  have hs4 : (b.size != 128) = false := by simp; omega
  have hl1 : (left == 0) = false := by simpa using hl0
  have hlen : L.length ≤ 1000000 := h.small
  have HC := Lib.hid (fun W (hb : Below w.heap.size w W) => clone_any L A c (by omega) hlen W (h.secs.below hb))
  have HX := Lib.hid hx
  have hkI : (k : Int) < (L.length : Int) := by omega
  clear hx h hs
  dsimp only [diskV] at HH
  go_enter Tryz.func27, Tryz.ntmps27
  go_upto_region 1 with fail
  have H0 := Lib.hid (show BxL w.heap.size w [(#[.slice A L.length c, .int .i64 left, .bool false], 26), (#[.slice none 0 0, .int .i64 0, .bool false], 26)] ((w.alloc (.cells #[.slice A L.length c, .int .i64 left, .bool false] 26)).alloc (.cells #[.slice none 0 0, .int .i64 0, .bool false] 26)) from ((BxL.nil (Below.refl w.heap.size w)).new (by simp) #[.slice A L.length c, .int .i64 left, .bool false] 26).new (by simp) #[.slice none 0 0, .int .i64 0, .bool false] 26)
  have hc0 := blkCell (H0.out.get 0 _ rfl)
  simp only [Nat.add_zero] at hc0
  obtain ⟨W0, hW0⟩ : ∃ W, W = (w.alloc (.cells #[.slice A L.length c, .int .i64 left, .bool false] 26)).alloc (.cells #[.slice none 0 0, .int .i64 0, .bool false] 26) := ⟨_, rfl⟩
  rw [← hW0] at H0 hc0 ⊢
  clear hW0
  have HX0 := Lib.hid (show W0.heap[w.heap.size]? = some (.cells #[.slice A L.length c, .int .i64 left, .bool false] 26 (0, 0)) from (by have h := H0.out.get 0 _ rfl; simpa using h))
  go_upto_region 8 with (first | (with_reducible refine listLoad (by kernel_rfl) 26 (.tmp 3) rfl w.heap.size rfl #[.slice A L.length c, .int .i64 left, .bool false] _ HX0.out _ Tryz.underlying26 (by kernel_rfl) (by kernel_rfl) ?_) | (go_at_call 52; (with_reducible refine (HH.out _).mono ?_); rintro e w1 ⟨rfl, hb1⟩; have H1 := Lib.hid (H0.out.step hb1); clear hb1; have hc1 := blkCell (H1.out.get 0 _ rfl); simp only [Nat.add_zero] at hc1))
  clear hs1 hs2 hs3 hs4 hl1 HH hc0 HX0 H0
  go_upto_region 9 with (first | (go_at_call 53; (with_reducible refine (HC.out _ H1.out.below).mono ?_); rintro e w2 ⟨v, rfl, ho, hb2⟩; obtain ⟨A2, c2, rfl⟩ := ownLen ho; have H2 := Lib.hid (H1.out.step hb2); have hz2 := blkFrozen (H2.out.get 0 _ rfl); have hc2 := blkCell (H2.out.get 0 _ rfl); simp only [Nat.add_zero] at hc2 hz2; clear hb2 hc1))
  clear hc2 hz2
  have hsz := H1.out.lt (i := 1) (by simp)
  have ho2 := ownSet ho ⟨w.heap.size, 0, none⟩ (.slice A2 L.length c2) (by show w.heap.size < _; omega)
  obtain ⟨g, cap, hv, hg, hgl, hcap, hcl, hfz, hset⟩ := ownAt ho2 hk
  injection hv with hv1 hv2 hv3
  subst hv1 hv3
  have H3 := Lib.hid (H2.out.set 0 0 (.slice (some ⟨g, 0, none⟩) L.length c2) _ rfl)
  simp only [Nat.add_zero] at H3
  obtain ⟨W3, hW3⟩ : ∃ W, W = w2.setCell ⟨w.heap.size, 0, none⟩ (.slice (some ⟨g, 0, none⟩) L.length c2) := ⟨_, rfl⟩
  rw [← hW3] at H3 hcl hfz hset hgl ⊢
  have hc3 := blkCell (H3.out.get 0 _ rfl)
  simp only [Nat.add_zero] at hc3
  rw [List.getElem?_eq_getElem (by simpa using hk)] at hcl
  simp only [List.getElem_map] at hcl
  have HSET := Lib.hid hset
  clear hW3 H2 ho ho2 hset
  go_upto_region 10 with fail
  have hgw : w.heap.size + 2 ≤ g := by omega
  have H4 := Lib.hid (H3.out.under (M := g) (by show w.heap.size + 2 ≤ g; exact hgw) ((Below.refl g W3).setCell (p := ⟨g, k, none⟩) (Nat.le_refl g) (.string b)))
  have HO4 := Lib.hid (HSET.out (.string b))
  obtain ⟨W4, hW4⟩ : ∃ W, W = W3.setCell ⟨g, k, none⟩ (.string b) := ⟨_, rfl⟩
  rw [← hW4] at H4 HO4 ⊢
  have hc4 := blkCell (H4.out.get 0 _ rfl)
  have hz4 := blkFrozen (H4.out.get 0 _ rfl)
  simp only [Nat.add_zero] at hc4 hz4
  clear hW4 hc3 hcl hfz HSET
  by_cases hp : 0 < left
  · rw [if_pos hp] at HX
    have hwl : IntKind.i64.wrap (left - 1) = left - 1 := IntWalk.i64_in _ (by omega)
    go_upto_region 12 with fail
    have H5 := Lib.hid (H4.out.set 0 1 (.int .i64 (left - 1)) _ rfl)
    have HX5 := Lib.hid (show (W4.setCell ⟨w.heap.size, 1, none⟩ (.int .i64 (left - 1))).heap[w.heap.size]? = some (.cells #[.slice (some ⟨g, 0, none⟩) L.length c2, .int .i64 (left - 1), .bool false] 26 (0, 0)) from by have h := H5.out.get 0 _ rfl; simpa using h)
    have HO5 := Lib.hid (ownSet HO4.out ⟨w.heap.size, 1, none⟩ (.int .i64 (left - 1)) (by show w.heap.size < _; omega))
    go_wp2_with (first | (with_reducible refine listLoad (by kernel_rfl) 26 (.tmp 3) rfl w.heap.size rfl #[.slice (some ⟨g, 0, none⟩) L.length c2, .int .i64 (left - 1), .bool false] _ HX5.out _ Tryz.underlying26 (by kernel_rfl) (by kernel_rfl) ?_) | (with_reducible refine listStore (by kernel_rfl) 26 (.tmp 6) (.tmp 45) rfl (w.heap.size + 1) #[.slice (some ⟨g, 0, none⟩) L.length c2, .int .i64 (left - 1), .bool false] _ _ rfl rfl (H5.out.get 1 _ rfl) (by kernel_rfl) (by kernel_rfl) (by kernel_rfl) ?_))
    refine bodyPost_ret (v := .tuple #[.agg #[.slice (some ⟨g, 0, none⟩) L.length c2, .int .i64 (left - 1), .bool false], .int .i64 0]) (results_cell2 rfl _ _ rfl (load_whole (setRow_heap _ _ _ _ _ _ (H5.out.get 1 _ rfl)) Tryz.underlying26 (by kernel_rfl) (by kernel_rfl)) rfl) rfl ?_
    exact write_new HX.out (by rw [List.length_set]) ((own_reads HO5.out).offRow _ _ (fun _ ad e => (by injection e with e; rw [← e]; show g ≠ w.heap.size + 1; omega))) rfl rfl (by rw [List.length_set]; exact hlen) (((NewT.own HO5.out).row _ _).mono (by omega)) ((H5.out.row 1 _ _ rfl).below)
  · rw [if_neg hp] at HX
    have HX4 := Lib.hid (show W4.heap[w.heap.size]? = some (.cells #[.slice (some ⟨g, 0, none⟩) L.length c2, .int .i64 left, .bool false] 26 (0, 0)) from (by have h := H4.out.get 0 _ rfl; simpa using h))
    go_wp2_with (first | (with_reducible refine listLoad (by kernel_rfl) 26 (.tmp 3) rfl w.heap.size rfl #[.slice (some ⟨g, 0, none⟩) L.length c2, .int .i64 left, .bool false] _ HX4.out _ Tryz.underlying26 (by kernel_rfl) (by kernel_rfl) ?_) | (with_reducible refine listStore (by kernel_rfl) 26 (.tmp 6) (.tmp 45) rfl (w.heap.size + 1) #[.slice (some ⟨g, 0, none⟩) L.length c2, .int .i64 left, .bool false] _ _ rfl rfl (H4.out.get 1 _ rfl) (by kernel_rfl) (by kernel_rfl) (by kernel_rfl) ?_))
    refine bodyPost_ret (v := .tuple #[.agg #[.slice (some ⟨g, 0, none⟩) L.length c2, .int .i64 left, .bool false], .int .i64 0]) (results_cell2 rfl _ _ rfl (load_whole (setRow_heap _ _ _ _ _ _ (H4.out.get 1 _ rfl)) Tryz.underlying26 (by kernel_rfl) (by kernel_rfl)) rfl) rfl ?_
    exact write_new HX.out (by rw [List.length_set]) ((own_reads HO4.out).offRow _ _ (fun _ ad e => (by injection e with e; rw [← e]; show g ≠ w.heap.size + 1; omega))) rfl rfl (by rw [List.length_set]; exact hlen) (((NewT.own HO4.out).row _ _).mono (by omega)) ((H4.out.row 1 _ _ rfl).below)
theorem dwrite_any (d : Lg.Dk) (hlb : -9223372036854775808 ≤ d.left ∧ d.left ≤ 9223372036854775807) (A : Option Addr) (c : Nat) (a : Int) (b : ByteArray) (w : World) (h : DiskR w d A c) :
    Calls Tryz.prog 27 #[diskV d A c, .int .i64 a, .string b] w (WriteOut (Lg.writeD d a b) A w) := by
  obtain ⟨L, left, down⟩ := d
  cases down with
  | true => exact dwrite_down L left A c a b _ (by unfold Lg.writeD; rw [if_pos rfl]) w h
  | false =>
    by_cases h1 : Lg.hasD ⟨L, left, false⟩ a ∧ b.size = 128
    · by_cases h2 : left = 0
      · subst h2
        exact dwrite_out L A c a b h1.1 h1.2 _ (by unfold Lg.writeD; rw [if_neg (by simp), if_neg (fun hn => hn h1), if_pos rfl]) w h
      · obtain ⟨k, rfl⟩ := Int.eq_ofNat_of_zero_le h1.1.1
        have hk : k < L.length := by have h3 := h1.1.2; simp only at h3; omega
        exact dwrite_on L left h2 hlb A c k b hk h1.2 _ (by unfold Lg.writeD; rw [if_neg (by simp), if_neg (fun hn => hn h1), if_neg h2]; simp) w h
    · exact dwrite_arg L left A c a b h1 _ (by unfold Lg.writeD; rw [if_neg (by simp), if_pos h1]) w h
end Go.Proofs.YtojaagnfjenhoaaGreat
