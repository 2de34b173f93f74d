/- The walks over package page and its reference: what the reference says of a page. -/
import Derived.Test.YtgbihdlahghonaaPageF
namespace Go.Proofs.Ytgbihdlahghonaa
open Go.RowKit

/-- The reference's Parts: whether it is a page; if so, its parts. -/
theorem rparts_leaf (p : ByteArray) (hm : p.size ≤ 1048576) (w : World) :
    Calls Try.prog 78 #[.string p] w fun e w' => ∃ x A c, e = .returned (.tuple #[leafV x A c, .bool (isPg p)]) ∧ (isPg p = true → x = leafP p ∧ OwnCells w.heap.size w' A c (leafP p).recs) ∧ Below w.heap.size w w' := by
  refine (rparts_any p hm w).mono ?_
  rintro e w' ⟨h, hb⟩
  unfold leafP isPg Pg.leafOf
  revert h
  cases Pg.right p.data.toList with
  | none => rintro ⟨x, A, c, rfl⟩; exact ⟨x, A, c, rfl, (fun h => by cases h), hb⟩
  | some x => rintro ⟨A, c, rfl, h⟩; exact ⟨x, A, c, rfl, fun _ => ⟨rfl, h⟩, hb⟩
theorem leafP_of_not {p : ByteArray} (h : isPg p = false) : leafP p = Pg.zero := by
  unfold isPg at h; unfold leafP Pg.leafOf
  revert h
  cases Pg.right p.data.toList with
  | none => intro _; rfl
  | some x => intro h; cases h

set_option maxRecDepth 100000 in
set_option maxHeartbeats 1000000 in
theorem rright_any (p : ByteArray) (hm : p.size ≤ 1048576) (w : World) :
    Calls Try.prog 18 #[.string p] w fun e w' => e = .returned (.bool (isPg p)) ∧ Below w.heap.size w w' := by
  have HT := Lib.hid (fun W => rparts_leaf p hm W)
  generalize isPg p = b at HT ⊢
  generalize leafP p = y at HT
  go_enter Try.func18, Try.ntmps18
  go_wp2_with (go_at_call 78; refine (HT.out _).mono ?_; rintro e w1 ⟨x, A, c, rfl, hcl, hb1⟩)
  go_ret
  exact ⟨rfl, by repeat (first | exact hb1 | refine Below.alloc ?_ (by first | exact hb1.size | simp) _ | refine Below.setCell ?_ (by first | exact hb1.size | simp) _)⟩

set_option maxRecDepth 100000 in
set_option maxHeartbeats 1000000 in
theorem rpart_any (p : ByteArray) (hm : p.size ≤ 1048576) (w : World) :
    Calls Try.prog 77 #[.string p] w fun e w' => ∃ A c, e = .returned (leafV (leafP p) A c) ∧ OwnCells w.heap.size w' A c (leafP p).recs ∧ Below w.heap.size w w' := by
  have HT := Lib.hid (fun W => rparts_leaf p hm W)
  cases hb : isPg p with
  | false =>
    rw [leafP_of_not hb]
    rw [hb] at HT
    generalize leafP p = y at HT
    go_enter Try.func77, Try.ntmps77
    go_wp2_with (go_at_call 78; refine (HT.out _).mono ?_; rintro e w1 ⟨x, A, c, rfl, -, hb1⟩; have hlt : w.heap.size < w1.heap.size := (by have := hb1.size; simp at this; omega); obtain ⟨c0, c1, c2, c3, f0, f1, f2, f3⟩ := blk4 (blk_new hb1))
    have hbw := below_past hb1
    refine bodyPost_ret (v := zeroV) (by simp [results, Try.results77, go_sem, c0, c1, c2, c3, hlt]) rfl ?_
    refine ⟨none, 0, rfl, fun h0 => by simp [Pg.zero] at h0, ?_⟩
    repeat (first | exact hbw | refine Below.alloc ?_ (by simp; exact Nat.le_of_lt hlt) _ | refine Below.setCell ?_ (by simp) _)
  | true =>
    rw [hb] at HT
    generalize leafP p = y at HT ⊢
    go_enter Try.func77, Try.ntmps77
    go_wp2_with (go_at_call 78; refine (HT.out _).mono ?_; rintro e w1 ⟨x, A, c, rfl, hcl, hb1⟩; obtain ⟨rfl, hcl⟩ := hcl rfl; have hne : w1.heap.size ≠ w.heap.size := (by have := hb1.size; simp at this; omega); have hlt : w.heap.size < w1.heap.size := (by have := hb1.size; simp at this; omega); obtain ⟨c0, c1, c2, c3, f0, f1, f2, f3⟩ := blk4 (blk_new hb1))
    have hbw := below_past hb1
    refine bodyPost_ret (v := leafV x A c) (by simp [results, Try.results77, go_sem, c0, c1, c2, c3, hlt]) rfl ?_
    refine ⟨A, c, rfl, ?_, ?_⟩
    · refine OwnCells.mono (B := w.heap.size + 1) ?_ (by omega)
      refine OwnCells.below ?_ ((Below.refl _ _).alloc (Nat.le_refl _) _)
      repeat (first | exact (show OwnCells (w.heap.size + 1) w1 A c x.recs by simpa using hcl) | refine OwnCells.set ?_ _ (by simp) _)
    · repeat (first | exact hbw | refine Below.alloc ?_ (by simp; exact Nat.le_of_lt hlt) _ | refine Below.setCell ?_ (by simp) _)

theorem ref_field0 (a b l v : Value) (W : World) : (Instr.field 71 (.agg #[a, b, l, v]) 0).run Try.prog W = .ok a W := by kernel_rfl
theorem ref_field1 (a b l v : Value) (W : World) : (Instr.field 71 (.agg #[a, b, l, v]) 1).run Try.prog W = .ok b W := by kernel_rfl
theorem ref_field2 (a b l v : Value) (W : World) : (Instr.field 71 (.agg #[a, b, l, v]) 2).run Try.prog W = .ok l W := by kernel_rfl
theorem ref_field3 (a b l v : Value) (W : World) : (Instr.field 71 (.agg #[a, b, l, v]) 3).run Try.prog W = .ok v W := by kernel_rfl
set_option maxRecDepth 100000 in
set_option maxHeartbeats 1000000 in
theorem rkind_any (p : ByteArray) (hm : p.size ≤ 1048576) (w : World) :
    Calls Try.prog 20 #[.string p] w fun e w' => e = .returned (.int .i64 ((leafP p).kind : Nat)) ∧ Below w.heap.size w w' := by
  have hfd : ∀ (A : Option Addr) (c : Nat) (W : World), (Instr.field 71 (leafV (leafP p) A c) 1).run Try.prog W = .ok _ W := fun _ _ W => ref_field1 _ _ _ _ W
  have HT := Lib.hid (fun W => rpart_any p hm W)
  generalize leafP p = x at HT hfd ⊢
  go_enter Try.func20, Try.ntmps20
  go_wp2_with (go_at_call 77; refine (HT.out _).mono ?_; rintro e w1 ⟨A, c, rfl, hcl, hb1⟩)
  go_ret
  exact ⟨rfl, by repeat (first | exact hb1 | refine Below.alloc ?_ (by first | exact hb1.size | simp) _ | refine Below.setCell ?_ (by first | exact hb1.size | simp) _)⟩
set_option maxRecDepth 100000 in
set_option maxHeartbeats 1000000 in
theorem rlsn_any (p : ByteArray) (hm : p.size ≤ 1048576) (w : World) :
    Calls Try.prog 22 #[.string p] w fun e w' => e = .returned (.int .i64 ((leafP p).lsn : Nat)) ∧ Below w.heap.size w w' := by
  have hfd : ∀ (A : Option Addr) (c : Nat) (W : World), (Instr.field 71 (leafV (leafP p) A c) 0).run Try.prog W = .ok _ W := fun _ _ W => ref_field0 _ _ _ _ W
  have HT := Lib.hid (fun W => rpart_any p hm W)
  generalize leafP p = x at HT hfd ⊢
  go_enter Try.func22, Try.ntmps22
  go_wp2_with (go_at_call 77; refine (HT.out _).mono ?_; rintro e w1 ⟨A, c, rfl, hcl, hb1⟩)
  go_ret
  exact ⟨rfl, by repeat (first | exact hb1 | refine Below.alloc ?_ (by first | exact hb1.size | simp) _ | refine Below.setCell ?_ (by first | exact hb1.size | simp) _)⟩
set_option maxRecDepth 100000 in
set_option maxHeartbeats 1000000 in
theorem rlink_any (p : ByteArray) (hm : p.size ≤ 1048576) (w : World) :
    Calls Try.prog 24 #[.string p] w fun e w' => e = .returned (.int .i64 ((leafP p).link : Nat)) ∧ Below w.heap.size w w' := by
  have hfd : ∀ (A : Option Addr) (c : Nat) (W : World), (Instr.field 71 (leafV (leafP p) A c) 2).run Try.prog W = .ok _ W := fun _ _ W => ref_field2 _ _ _ _ W
  have HT := Lib.hid (fun W => rpart_any p hm W)
  generalize leafP p = x at HT hfd ⊢
  go_enter Try.func24, Try.ntmps24
  go_wp2_with (go_at_call 77; refine (HT.out _).mono ?_; rintro e w1 ⟨A, c, rfl, hcl, hb1⟩)
  go_ret
  exact ⟨rfl, by repeat (first | exact hb1 | refine Below.alloc ?_ (by first | exact hb1.size | simp) _ | refine Below.setCell ?_ (by first | exact hb1.size | simp) _)⟩
set_option maxRecDepth 100000 in
set_option maxHeartbeats 1000000 in
theorem rslots_any (p : ByteArray) (hm : p.size ≤ 1048576) (w : World) :
    Calls Try.prog 26 #[.string p] w fun e w' => e = .returned (.int .i64 ((leafP p).recs.length : Nat)) ∧ Below w.heap.size w w' := by
  have hfd : ∀ (A : Option Addr) (c : Nat) (W : World), (Instr.field 71 (leafV (leafP p) A c) 3).run Try.prog W = .ok _ W := fun _ _ W => ref_field3 _ _ _ _ W
  have HT := Lib.hid (fun W => rpart_any p hm W)
  generalize leafP p = x at HT hfd ⊢
  go_enter Try.func26, Try.ntmps26
  go_wp2_with (go_at_call 77; refine (HT.out _).mono ?_; rintro e w1 ⟨A, c, rfl, hcl, hb1⟩)
  go_ret
  exact ⟨rfl, by repeat (first | exact hb1 | refine Below.alloc ?_ (by first | exact hb1.size | simp) _ | refine Below.setCell ?_ (by first | exact hb1.size | simp) _)⟩
end Go.Proofs.Ytgbihdlahghonaa
