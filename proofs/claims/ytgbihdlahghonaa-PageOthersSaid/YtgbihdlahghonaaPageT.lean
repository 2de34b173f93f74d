/- The records of a page with a slot turned: leaf.with. -/
import Derived.Test.YtgbihdlahghonaaPageS
namespace Pg
/-- The records with another one in a slot; the slots that lack ahead of it are free. -/
def putAt (rs : List ByteArray) (k : Nat) (r : ByteArray) : List ByteArray := (rs ++ List.replicate (k + 1 - rs.length) (⟨#[]⟩ : ByteArray)).set k r
/-- The records with enough free slots that one has the number k. -/
def upTo (rs : List ByteArray) (k : Nat) : List ByteArray := rs ++ List.replicate k (⟨#[]⟩ : ByteArray)
theorem upTo_length (rs : List ByteArray) (k : Nat) : (upTo rs k).length = rs.length + k := by simp [upTo]
theorem upTo_succ (rs : List ByteArray) (k : Nat) : upTo rs (k + 1) = upTo rs k ++ [⟨#[]⟩] := by
  unfold upTo
  rw [List.replicate_succ', List.append_assoc]
end Pg
namespace Go.Proofs.Ytgbihdlahghonaa
open Go.RowKit

/-- A new block of one text. -/
theorem cells_one (w : World) (r : ByteArray) : Cells (w.alloc (.cells #[.string r] 9)) (some ⟨w.heap.size, 0, none⟩) 1 [r] := fun _ => by
  refine ⟨w.heap.size, 0, rfl, Nat.le_refl _, by simp, fun j hj => ?_⟩
  obtain rfl : j = 0 := by simpa using hj
  rw [cell_of_row _ _ _ _ _ _ (heap_alloc_new w (.cells #[.string r] 9))]; rfl
theorem own_some {B : Nat} {w : World} {v : Value} {rs : List ByteArray} (h : OwnT B w v rs) (h0 : 0 < rs.length) : ∃ g c, v = .slice (some ⟨g, 0, none⟩) rs.length c ∧ B ≤ g ∧ rs.length ≤ c ∧ g < w.heap.size ∧ (∀ j (hj : j < rs.length), w.cell? ⟨g, j, none⟩ = some (.string rs[j])) ∧ (∀ j, w.frozen? ⟨g, j, none⟩ = false) := by
  obtain ⟨A, c, rfl, ho, -⟩ := h.form
  obtain ⟨g, rfl, h1, h2, h3, h4⟩ := ho h0
  exact ⟨g, c, rfl, h1, h2, h3, h4, fun j => h.frozenAt j⟩
theorem own_stored {B : Nat} {w : World} {g c : Nat} {rs : List ByteArray} (h : OwnT B w (.slice (some ⟨g, 0, none⟩) rs.length c) rs) (k : Nat) (r : ByteArray) : OwnT B (w.setCell ⟨g, k, none⟩ (.string r)) (.slice (some ⟨g, 0, none⟩) (rs.set k r).length c) (rs.set k r) := by
  have h1 := (h.stored k (.string r)).1
  unfold OwnT
  rw [List.length_set, List.map_set]
  exact h1

def lenV (v : Value) : Nat := match v with | .slice _ n _ => n | _ => 0

set_option maxRecDepth 100000 in
set_option maxHeartbeats 2000000 in
theorem with_any (x : Pg.Leaf) (A : Option Addr) (c k : Nat) (r : ByteArray) (hl : x.recs.length ≤ 4096) (hk : k ≤ 4096) (w : World) (h : Cells w A c x.recs) :
    Calls Try.prog 86 #[leafV x A c, .int .i64 (k : Int), .string r] w fun e w' => ∃ A' c', e = .returned (leafV { x with recs := Pg.putAt x.recs k r } A' c') ∧ OwnCells w.heap.size w' A' c' (Pg.putAt x.recs k r) ∧ Below w.heap.size w w' := by
  go_enter Try.func86, Try.ntmps86
  go_wp2_with (at_builtin; refine wpList_app _ rfl _ _ rfl (w.heap.size + 2) (.slice none 0 0) [] rfl (OwnT.nil _ _) A c x.recs rfl ((h.below ((Below.refl _ _).alloc (Nat.le_refl _) _)).below ((Below.refl _ _).alloc (Nat.le_refl _) _)) (by simp; omega) (by simp) ?_; intro v1 w1 hown1 hg1 hb1)
  rw [List.nil_append] at hown1
  have hsz1 : w.heap.size + 2 ≤ w1.heap.size := by have := hb1.size; simp at this; omega
  have hX1 : w1.heap[w.heap.size]? = some (.cells #[.int .i64 x.lsn, .int .i64 x.kind, .int .i64 x.link, .slice A x.recs.length c] 67 (0, 0)) := by
    rw [hb1.block _ (by omega), Below.heap_alloc _ _ _ (by simp)]; exact heap_alloc_new w _
  have hY1 : w1.heap[w.heap.size + 1]? = some (.cells #[.int .i64 0, .int .i64 0, .int .i64 0, .slice none 0 0] 67 (0, 0)) := by
    rw [hb1.block _ (by omega)]
    have := heap_alloc_new (w.alloc (.cells #[.int .i64 x.lsn, .int .i64 x.kind, .int .i64 x.link, .slice A x.recs.length c] 67)) (.cells #[.int .i64 0, .int .i64 0, .int .i64 0, .slice none 0 0] 67)
    simpa using this
  have hbw : Below w.heap.size w w1 := (((Below.refl _ _).alloc (Nat.le_refl _) _).alloc (by simp) _).trans (hb1.mono (by omega))
  have HX := Lib.hid hX1
  have HY := Lib.hid hY1
  have HBW := Lib.hid hbw
  have HC := Lib.hid h
  clear hX1 hY1 hbw hb1 hg1 h
  go_loopw [7] (fun v wr => ∃ j, j ≤ k + 1 - x.recs.length ∧ OwnT (w.heap.size + 2) wr v (Pg.upTo x.recs j) ∧ Below (w.heap.size + 2) w1 wr) (fun v _ => 8193 - lenV v)
  case atStart => exact ⟨0, Nat.zero_le _, by simpa [Pg.upTo] using hown1, Below.refl _ _⟩
  case round =>
    obtain ⟨j, hj, hown, hb⟩ := hrel
    have hwr := hb.size
    have hln := Pg.upTo_length x.recs j
    have HS := Lib.hid (Pg.upTo_succ x.recs j)
    obtain ⟨L, hL⟩ : ∃ L, L = Pg.upTo x.recs j := ⟨_, rfl⟩
    rw [← hL] at hown hln HS
    have HL := Lib.hid hL
    have HLN := Lib.hid hln
    clear hL
    obtain ⟨Av, cv, rfl, hoc, -⟩ := hown.form
    by_cases hlt : L.length ≤ k
    · have hj2 : j + 1 ≤ k + 1 - x.recs.length := by omega
      clear hln hoc
      go_wp2_with (at_builtin; refine wpList_app _ rfl _ _ rfl (w.heap.size + 2) _ L rfl (hown.below ((Below.refl _ _).alloc (Nat.le_refl _) _)) _ 1 [⟨#[]⟩] rfl (cells_one wr _) (by simp; omega) (by simp; omega) ?_; intro v2 w2 hown2 hg2 hb2)
      have hb3 : Below (w.heap.size + 2) w1 w2 := hb.trans (((Below.refl _ _).alloc (by omega) _).trans hb2)
      rw [← HS.out] at hown2
      have hf : ∃ A' c', v2 = .slice A' (L.length + 1) c' := by
        obtain ⟨A', c', rfl, -⟩ := hown2.form
        exact ⟨A', c', by rw [HS.out, List.length_append]; rfl⟩
      obtain ⟨A', c', rfl⟩ := hf
      clear hg2
      go_roundw
      case rel => exact ⟨j + 1, hj2, hown2, hb3⟩
      case measure => simp [lenV]; omega
    · have hj3 : j = k + 1 - x.recs.length := by omega
      have hkl : k < L.length := by omega
      obtain ⟨g, cv', hv, hg, hcv, hgl, hcell, hfz⟩ := own_some hown (by omega)
      injection hv with hA hn hcc
      subst hA
      subst hcc
      have hck := hcell k hkl
      have hfk := hfz k
      have hst := own_stored hown k r
      have hset : L.set k r = Pg.putAt x.recs k r := by rw [HL.out, hj3]; rfl
      rw [hset] at hst
      have HST := Lib.hid hst
      have hLl : (Pg.putAt x.recs k r).length = L.length := by rw [← hset, List.length_set]
      have HSE := Lib.hid hLl
      obtain ⟨x0, x1, x2, x3, f0, f1, f2, f3⟩ := blk4 ((hb.block _ (by omega)).trans HX.out)
      obtain ⟨y0, y1, y2, y3, k0, k1, k2, k3⟩ := blk4 ((hb.block _ (by omega)).trans HY.out)
      have hb4 : Below w.heap.size w wr := HBW.out.trans (hb.mono (by omega))
      have hk0 : (0 : Int) ≤ (k : Int) := by omega
      have hk1 : (k : Int) < (L.length : Int) := by omega
      clear hcell hfz hst hset hLl hj3 hln hoc
      go_wp2_with fail
      have hne1 : g ≠ w.heap.size + 1 := by omega
      have hne2 : g ≠ w.heap.size := by omega
      refine bodyPost_ret (v := .agg #[.int .i64 x.lsn, .int .i64 x.kind, .int .i64 x.link, .slice (some ⟨g, 0, none⟩) L.length cv]) (by simp [results, Try.results86, go_sem, y0, y1, y2, y3, hne1, hne2, hne1.symm, hne2.symm]) rfl ?_
      refine ⟨some ⟨g, 0, none⟩, cv, by rw [← HSE.out], ?_, ?_⟩
      · have ho := own_cells HST.out rfl
        refine OwnCells.mono (B := w.heap.size + 2) ?_ (by omega)
        repeat (first | (with_reducible exact ho) | (with_reducible refine OwnCells.set ?_ _ (by simp; done) _))
      · repeat (first | (with_reducible exact hb4) | (with_reducible refine Below.setCell ?_ (by first | (simp; done) | (show w.heap.size ≤ g; omega)) _))
end Go.Proofs.Ytgbihdlahghonaa
