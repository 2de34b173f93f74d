/- The walks over package page and its reference: what a page says. -/
import Derived.Test.YtgbihdlahghonaaPageE
namespace Go.Proofs.Ytgbihdlahghonaa
open Go.RowKit

/-- Pg.right, as a Boolean. -/
abbrev isPg (p : ByteArray) : Bool := (Pg.right p.data.toList).isSome
abbrev leafP (p : ByteArray) : Pg.Leaf := Pg.leafOf p.data.toList
/-- page.take: the parts (of what is no page: zero) and whether it is one. -/
theorem take_leaf (p : ByteArray) (hm : p.size ≤ 1048576) (w : World) :
    Calls Try.prog 75 #[.string p] w fun e w' => ∃ A c, e = .returned (.tuple #[leafV (leafP p) A c, .bool (isPg p)]) ∧ OwnCells w.heap.size w' A c (leafP p).recs ∧ Below w.heap.size w w' := by
  refine (take_any p hm w).mono ?_
  rintro e w' ⟨h, hb⟩
  unfold leafP isPg Pg.leafOf
  revert h
  cases Pg.right p.data.toList with
  | none => rintro rfl; exact ⟨none, 0, rfl, fun h0 => by simp [Pg.zero] at h0, hb⟩
  | some x => rintro ⟨A, c, rfl, h⟩; exact ⟨A, c, rfl, h, hb⟩

theorem right_any (p : ByteArray) (hm : p.size ≤ 1048576) (w : World) :
    Calls Try.prog 17 #[.string p] w fun e w' => e = .returned (.bool (isPg p)) ∧ Below w.heap.size w w' := by
  have HT := Lib.hid (fun W => take_leaf p hm W)
  generalize isPg p = b at HT ⊢
  generalize leafP p = x at HT
  go_enter Try.func17, Try.ntmps17
  go_wp2_with (go_at_call 75; refine (HT.out _).mono ?_; rintro e w1 ⟨A, c, rfl, hcl, hb1⟩)
  go_ret
  exact ⟨rfl, by repeat (first | exact hb1 | refine Below.alloc ?_ (by first | exact hb1.size | simp) _ | refine Below.setCell ?_ (by first | exact hb1.size | simp) _)⟩
theorem kind_any (p : ByteArray) (hm : p.size ≤ 1048576) (w : World) :
    Calls Try.prog 19 #[.string p] w fun e w' => e = .returned (.int .i64 ((leafP p).kind : Nat)) ∧ Below w.heap.size w w' := by
  have HT := Lib.hid (fun W => take_leaf p hm W)
  generalize isPg p = b at HT
  generalize leafP p = x at HT ⊢
  go_enter Try.func19, Try.ntmps19
  go_wp2_with (go_at_call 75; refine (HT.out _).mono ?_; rintro e w1 ⟨A, c, rfl, hcl, hb1⟩)
  go_ret
  exact ⟨rfl, by repeat (first | exact hb1 | refine Below.alloc ?_ (by first | exact hb1.size | simp) _ | refine Below.setCell ?_ (by first | exact hb1.size | simp) _)⟩
theorem lsn_any (p : ByteArray) (hm : p.size ≤ 1048576) (w : World) :
    Calls Try.prog 21 #[.string p] w fun e w' => e = .returned (.int .i64 ((leafP p).lsn : Nat)) ∧ Below w.heap.size w w' := by
  have HT := Lib.hid (fun W => take_leaf p hm W)
  generalize isPg p = b at HT
  generalize leafP p = x at HT ⊢
  go_enter Try.func21, Try.ntmps21
  go_wp2_with (go_at_call 75; refine (HT.out _).mono ?_; rintro e w1 ⟨A, c, rfl, hcl, hb1⟩)
  go_ret
  exact ⟨rfl, by repeat (first | exact hb1 | refine Below.alloc ?_ (by first | exact hb1.size | simp) _ | refine Below.setCell ?_ (by first | exact hb1.size | simp) _)⟩
theorem link_any (p : ByteArray) (hm : p.size ≤ 1048576) (w : World) :
    Calls Try.prog 23 #[.string p] w fun e w' => e = .returned (.int .i64 ((leafP p).link : Nat)) ∧ Below w.heap.size w w' := by
  have HT := Lib.hid (fun W => take_leaf p hm W)
  generalize isPg p = b at HT
  generalize leafP p = x at HT ⊢
  go_enter Try.func23, Try.ntmps23
  go_wp2_with (go_at_call 75; refine (HT.out _).mono ?_; rintro e w1 ⟨A, c, rfl, hcl, hb1⟩)
  go_ret
  exact ⟨rfl, by repeat (first | exact hb1 | refine Below.alloc ?_ (by first | exact hb1.size | simp) _ | refine Below.setCell ?_ (by first | exact hb1.size | simp) _)⟩
theorem slots_any (p : ByteArray) (hm : p.size ≤ 1048576) (w : World) :
    Calls Try.prog 25 #[.string p] w fun e w' => e = .returned (.int .i64 ((leafP p).recs.length : Nat)) ∧ Below w.heap.size w w' := by
  have HT := Lib.hid (fun W => take_leaf p hm W)
  generalize isPg p = b at HT
  generalize leafP p = x at HT ⊢
  go_enter Try.func25, Try.ntmps25
  go_wp2_with (go_at_call 75; refine (HT.out _).mono ?_; rintro e w1 ⟨A, c, rfl, hcl, hb1⟩)
  go_ret
  exact ⟨rfl, by repeat (first | exact hb1 | refine Below.alloc ?_ (by first | exact hb1.size | simp) _ | refine Below.setCell ?_ (by first | exact hb1.size | simp) _)⟩
end Go.Proofs.Ytgbihdlahghonaa
