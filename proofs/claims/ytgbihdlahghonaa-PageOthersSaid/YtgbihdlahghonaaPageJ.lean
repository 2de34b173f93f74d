/- The walks over package page and its reference: the lowest free slot. -/
import Derived.Test.YtgbihdlahghonaaPageI
namespace Go.Proofs.Ytgbihdlahghonaa
open Go.RowKit

set_option maxRecDepth 100000 in
set_option maxHeartbeats 1000000 in
theorem free_any_leaf (x : Pg.Leaf) (A : Option Addr) (c : Nat) (hl : x.recs.length ≤ 1099511627776) (w : World) (h : Cells w A c x.recs) :
    Calls Try.prog 79 #[leafV x A c] w fun e w' => e = .returned (.int .i64 (Pg.freeN x.recs : Nat)) ∧ Below w.heap.size w w' := by
  have HC := Lib.hid (h.below ((Below.refl w.heap.size w).alloc (Nat.le_refl _) (.cells #[.int .i64 x.lsn, .int .i64 x.kind, .int .i64 x.link, .slice A x.recs.length c] 67 (0, 0))))
  clear h
  go_enter Try.func79, Try.ntmps79
  go_wp2_with fail
  go_loop [8] (fun i => ∃ k : Nat, k ≤ x.recs.length ∧ i = .int .i64 k ∧ Pg.freeN x.recs = k + Pg.freeN (x.recs.drop k)) (fun i => x.recs.length - (intOf i).toNat)
  case atStart => exact ⟨0, Nat.zero_le _, rfl, by simp⟩
  case round =>
    obtain ⟨k, hk, rfl, hf⟩ := hrel
    have HF := Lib.hid hf
    clear hf
    by_cases hlt : k < x.recs.length
    · obtain ⟨b, off, rfl, hc, hbl, hcell⟩ := HC.out.at_ hlt
      have HS := Lib.hid (Pg.freeN_at x.recs k hlt)
      obtain ⟨r, hr⟩ : ∃ r, r = x.recs[k] := ⟨_, rfl⟩
      rw [← hr] at hcell
      have HR := Lib.hid hr
      clear hr
      have hie : r.toList.isEmpty = decide (r.size = 0) := empty_iff r
      by_cases he : r.size = 0
      · rw [decide_eq_true he] at hie
        have HV := Lib.hid (show Pg.freeN x.recs = k by rw [HF.out, HS.out, ← HR.out, if_pos he]; rfl)
        clear he
        go_wp2_with fail
        go_ret
        exact ⟨by rw [HV.out]; rfl, (Below.refl _ _).alloc (Nat.le_refl _) _⟩
      · rw [decide_eq_false he] at hie
        have HV := Lib.hid (show Pg.freeN x.recs = (k + 1) + Pg.freeN (x.recs.drop (k + 1)) by rw [HF.out, HS.out, ← HR.out, if_neg he]; omega)
        clear he
        go_wp2_with fail
        go_round
        case rel => exact ⟨k + 1, by omega, by go_num, HV.out⟩
        case measure => simp [intOf]; omega
    · obtain rfl : k = x.recs.length := by omega
      have HV := Lib.hid (show Pg.freeN x.recs = x.recs.length by rw [HF.out, List.drop_length]; rfl)
      go_wp2_with fail
      go_ret
      exact ⟨by rw [HV.out]; rfl, (Below.refl _ _).alloc (Nat.le_refl _) _⟩

set_option maxRecDepth 100000 in
set_option maxHeartbeats 1000000 in
theorem free_any (p : ByteArray) (hm : p.size ≤ 1048576) (w : World) :
    Calls Try.prog 27 #[.string p] w fun e w' => e = .returned (.int .i64 (Pg.freeN (leafP p).recs : Nat)) ∧ Below w.heap.size w w' := by
  have HT := Lib.hid (fun W => take_leaf p hm W)
  have hl : (leafP p).recs.length ≤ 1099511627776 := by have := (Pg.leafOf_fine p.data.toList).len; unfold leafP; omega
  have HF := Lib.hid (fun A c W hW => free_any_leaf (leafP p) A c hl W hW)
  generalize isPg p = b at HT
  generalize leafP p = x at HT HF hl ⊢
  go_enter Try.func27, Try.ntmps27
  go_wp2_with (first | (go_at_call 75; refine (HT.out _).mono ?_; rintro e w1 ⟨A, c, rfl, hcl, hb1⟩) | (go_at_call 79; refine (HF.out _ _ _ (hcl.cells.below ((Below.refl _ _).alloc (Nat.le_refl _) _))).mono ?_; rintro e w2 ⟨rfl, hb2⟩))
  go_ret
  exact ⟨rfl, andThen (below_past_alloc hb1) hb2⟩
end Go.Proofs.Ytgbihdlahghonaa
