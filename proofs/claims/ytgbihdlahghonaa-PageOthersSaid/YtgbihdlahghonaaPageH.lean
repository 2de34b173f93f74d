/- The walks over package page and its reference: the record of a slot. -/
import Derived.Test.YtgbihdlahghonaaPageG
namespace Go.Proofs.Ytgbihdlahghonaa
open Go.RowKit

theorem below_past_alloc {w w' : World} {o : Obj} (hb : Below w.heap.size w w') : Below w.heap.size w (w'.alloc o) := hb.alloc hb.size o
set_option maxRecDepth 100000 in
set_option maxHeartbeats 1000000 in
theorem at_any (x : Pg.Leaf) (A : Option Addr) (c : Nat) (i : Int) (w : World) (h : Cells w A c x.recs) :
    Calls Try.prog 76 #[leafV x A c, .int .i64 i] w fun e w' => e = .returned (.string (Pg.slotAt x.recs i)) ∧ Below w.heap.size w w' := by
  have HC := Lib.hid (h.below ((Below.refl w.heap.size w).alloc (Nat.le_refl _) (.cells #[.int .i64 x.lsn, .int .i64 x.kind, .int .i64 x.link, .slice A x.recs.length c] 67 (0, 0))))
  clear h
  by_cases h1 : i < 0
  · rw [Pg.slotAt_neg h1]
    go_enter Try.func76, Try.ntmps76
    go_wp2_with fail
    go_ret
    exact ⟨rfl, (Below.refl _ _).alloc (Nat.le_refl _) _⟩
  · by_cases h2 : (x.recs.length : Int) ≤ i
    · rw [Pg.slotAt_past h2]
      go_enter Try.func76, Try.ntmps76
      go_wp2_with fail
      go_ret
      exact ⟨rfl, (Below.refl _ _).alloc (Nat.le_refl _) _⟩
    · obtain ⟨k, rfl⟩ := Int.eq_ofNat_of_zero_le (show 0 ≤ i by omega)
      have hk : k < x.recs.length := by omega
      rw [Pg.slotAt_in hk]
      obtain ⟨b, off, rfl, hc, hbl, hcell⟩ := HC.out.at_ hk
      have h3 : (k : Int) < (x.recs.length : Int) := by omega
      have h4 : (0 : Int) ≤ (k : Int) := by omega
      clear h1 h2
      generalize x.recs[k] = r at hcell ⊢
      go_enter Try.func76, Try.ntmps76
      go_wp2_with fail
      go_ret
      exact ⟨rfl, (Below.refl _ _).alloc (Nat.le_refl _) _⟩

set_option maxRecDepth 100000 in
set_option maxHeartbeats 1000000 in
theorem get_any_rec (p : ByteArray) (i : Int) (hm : p.size ≤ 1048576) (w : World) :
    Calls Try.prog 15 #[.string p, .int .i64 i] w fun e w' => e = .returned (.tuple #[.string (Pg.slotAt (leafP p).recs i), .bool (!decide ((Pg.slotAt (leafP p).recs i).size = 0))]) ∧ Below w.heap.size w w' := by
  have HT := Lib.hid (fun W => take_leaf p hm W)
  generalize isPg p = b at HT
  generalize leafP p = x at HT ⊢
  have HA := Lib.hid (fun A c W hW => at_any x A c i W hW)
  generalize Pg.slotAt x.recs i = r at HA ⊢
  rw [← empty_iff]
  go_enter Try.func15, Try.ntmps15
  go_wp2_with (first | (go_at_call 75; refine (HT.out _).mono ?_; rintro e w1 ⟨A, c, rfl, hcl, hb1⟩) | (go_at_call 76; refine (HA.out _ _ _ (hcl.cells.below ((Below.refl _ _).alloc (Nat.le_refl _) _))).mono ?_; rintro e w2 ⟨rfl, hb2⟩))
  refine bodyPost_ret (v := .tuple #[.string r, .bool (!r.toList.isEmpty)]) (by simp [results, Try.results15, go_sem]) rfl ?_
  exact ⟨rfl, andThen (below_past_alloc hb1) hb2⟩
end Go.Proofs.Ytgbihdlahghonaa
