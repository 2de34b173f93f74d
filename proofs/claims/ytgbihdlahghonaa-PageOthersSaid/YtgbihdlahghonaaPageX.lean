/- The walks over the reference of package page: Put, Cut, Set. -/
import Derived.Test.YtgbihdlahghonaaPageW
namespace Go.Proofs.Ytgbihdlahghonaa
open Go.RowKit

set_option maxRecDepth 100000 in
set_option maxHeartbeats 2000000 in
theorem rpput_any (p : ByteArray) (i : Int) (r : ByteArray) (hm : p.size ≤ 1048576) (w : World) :
    Calls Try.prog 43 #[.string p, .int .i64 i, .string r] w fun e w' => e = .returned (outV (putO p i r)) ∧ Below w.heap.size w w' := by
  have HT := Lib.hid (fun W => rparts_leaf p hm W)
  have HA := Lib.hid (fun W => rget_any_rec p i hm W)
  have HY := Lib.hid (fun W => rmay_any r W)
  change Hid (∀ W, Calls _ _ _ _ fun e w' => e = .returned (.bool (mayB r)) ∧ _) at HY
  have hgood := leafP_good p
  unfold putO
  cases hb : isPg p with
  | false =>
    rw [if_pos rfl]
    rw [hb] at HT
    generalize Pg.slotAt (leafP p).recs i = q at HA
    generalize (!decide (q.size = 0)) = b at HA
    generalize leafP p = x at HT
    clear hgood hb HY
    go_enter Try.func43, Try.ntmps43
    go_wp2_with (first | (go_at_call 78; refine (HT.out _).mono ?_; rintro e w1 ⟨y0, A, c, rfl, hcl, hb1⟩) | (go_at_call 16; refine (HA.out _).mono ?_; rintro e w2 ⟨rfl, hb2⟩))
    go_ret2
    exact ⟨rfl, andThen hb1 (below_past hb2)⟩
  | true =>
    rw [hb] at HT
    rw [if_neg (by simp)]
    clear hb
    by_cases h1 : i < 0
    · rw [if_pos h1]
      generalize Pg.slotAt (leafP p).recs i = q at HA
      generalize (!decide (q.size = 0)) = b at HA
      generalize leafP p = x at HT
      clear hgood HY
      go_enter Try.func43, Try.ntmps43
      go_wp2_with (first | (go_at_call 78; refine (HT.out _).mono ?_; rintro e w1 ⟨y0, A, c, rfl, hcl, hb1⟩; obtain ⟨hy, hco⟩ := hcl rfl; clear hcl; subst hy) | (go_at_call 16; refine (HA.out _).mono ?_; rintro e w2 ⟨rfl, hb2⟩; obtain ⟨c0, c1, c2, c3, f0, f1, f2, f3⟩ := blk4 (blk_new hb2); have hlt : w1.heap.size < w2.heap.size := (by have := hb2.size; simp at this; omega)))
      go_ret2
      exact ⟨rfl, andThen hb1 (below_past hb2)⟩
    · rw [if_neg h1]
      obtain ⟨k, rfl⟩ := Int.eq_ofNat_of_zero_le (show 0 ≤ i by omega)
      have hk0 : (0 : Int) ≤ (k : Int) := by omega
      clear h1
      rw [show ((k : Int)).toNat = k from rfl]
      by_cases h2 : (Pg.slotAt (leafP p).recs (k : Int)).size ≠ 0
      · rw [if_pos h2]
        rw [decide_eq_false h2] at HA
        clear h2
        generalize Pg.slotAt (leafP p).recs (k : Int) = q at HA
        generalize leafP p = x at HT
        clear hgood HY
        go_enter Try.func43, Try.ntmps43
        go_wp2_with (first | (go_at_call 78; refine (HT.out _).mono ?_; rintro e w1 ⟨y0, A, c, rfl, hcl, hb1⟩; obtain ⟨hy, hco⟩ := hcl rfl; clear hcl; subst hy) | (go_at_call 16; refine (HA.out _).mono ?_; rintro e w2 ⟨rfl, hb2⟩; obtain ⟨c0, c1, c2, c3, f0, f1, f2, f3⟩ := blk4 (blk_new hb2); have hlt : w1.heap.size < w2.heap.size := (by have := hb2.size; simp at this; omega)))
        go_ret2
        exact ⟨rfl, andThen hb1 (below_past hb2)⟩
      · rw [if_neg h2]
        rw [decide_eq_true (Decidable.not_not.1 h2)] at HA
        clear h2
        generalize Pg.slotAt (leafP p).recs (k : Int) = q at HA
        cases hy : mayB r with
        | false =>
          rw [if_pos rfl]
          rw [hy] at HY
          generalize leafP p = x at HT
          clear hgood hy
          go_enter Try.func43, Try.ntmps43
          go_wp2_with (first | (go_at_call 78; refine (HT.out _).mono ?_; rintro e w1 ⟨y0, A, c, rfl, hcl, hb1⟩; obtain ⟨hy, hco⟩ := hcl rfl; clear hcl; subst hy) | (go_at_call 16; refine (HA.out _).mono ?_; rintro e w2 ⟨rfl, hb2⟩; obtain ⟨c0, c1, c2, c3, f0, f1, f2, f3⟩ := blk4 (blk_new hb2); have hlt : w1.heap.size < w2.heap.size := (by have := hb2.size; simp at this; omega)) | (go_at_call 89; refine (HY.out _).mono ?_; rintro e w3 ⟨rfl, rfl⟩))
          go_ret2
          exact ⟨rfl, andThen hb1 (below_past hb2)⟩
        | true =>
          rw [if_neg (by simp)]
          rw [hy] at HY
          obtain ⟨hr1, hr2⟩ := mayB_yes hy
          clear hy
          by_cases h5 : (512 : Int) < (k : Int)
          · rw [if_pos h5]
            have HW := Lib.hid (fun A c n W => rwith_far A c n (k : Int) r h5 W)
            generalize leafP p = x at HT
            clear hgood
            go_enter Try.func43, Try.ntmps43
            go_wp2_with (first | (go_at_call 78; refine (HT.out _).mono ?_; rintro e w1 ⟨y0, A, c, rfl, hcl, hb1⟩; obtain ⟨hy, hco⟩ := hcl rfl; clear hcl; subst hy) | (go_at_call 16; refine (HA.out _).mono ?_; rintro e w2 ⟨rfl, hb2⟩; obtain ⟨c0, c1, c2, c3, f0, f1, f2, f3⟩ := blk4 (blk_new hb2); have hlt : w1.heap.size < w2.heap.size := (by have := hb2.size; simp at this; omega)) | (go_at_call 89; refine (HY.out _).mono ?_; rintro e w3 ⟨rfl, rfl⟩) | (go_at_call 90; refine (HW.out _ _ _ _).mono ?_; rintro e w4 ⟨rfl, rfl⟩))
            go_ret2
            exact ⟨rfl, andThen hb1 (below_past hb2)⟩
          · rw [if_neg h5]
            have hln := hgood.fine.len
            have hsm := hgood.fine.sum
            have hps := Pg.putAt_size (leafP p).recs k r
            have HW := Lib.hid (fun A c W hW => rwith_any (leafP p).recs A c k r (by omega) (by omega) W hW)
            have HU := Lib.hid (fun A c W hW => laid_any (withRecs p (Pg.putAt (leafP p).recs k r)) A c (withRecs_small p _) (by show Pg.sizeN (Pg.putAt _ _ _) ≤ _; omega) (.inr ((Pg.trim_tight _).2 (Pg.putAt_tight hgood.tight k (by omega)))) W hW)
            generalize Pg.fullO (withRecs p (Pg.putAt (leafP p).recs k r)) = o at HU ⊢
            change Hid (∀ A c W, Cells W A c (Pg.putAt (leafP p).recs k r) → Calls _ _ #[.agg #[.int .i64 (leafP p).lsn, .int .i64 (leafP p).kind, .int .i64 (leafP p).link, .slice A (Pg.putAt (leafP p).recs k r).length c]] _ _) at HU
            clear hps hln hsm hgood
            generalize Pg.putAt (leafP p).recs k r = rs at HW HU
            generalize leafP p = x at HT HW HU
            go_enter Try.func43, Try.ntmps43
            go_wp2_with (first | (go_at_call 78; refine (HT.out _).mono ?_; rintro e w1 ⟨y0, A, c, rfl, hcl, hb1⟩; obtain ⟨hy, hco⟩ := hcl rfl; clear hcl; subst hy) | (go_at_call 16; refine (HA.out _).mono ?_; rintro e w2 ⟨rfl, hb2⟩; obtain ⟨c0, c1, c2, c3, f0, f1, f2, f3⟩ := blk4 (blk_new hb2); have hlt : w1.heap.size < w2.heap.size := (by have := hb2.size; simp at this; omega)) | (go_at_call 89; refine (HY.out _).mono ?_; rintro e w3 ⟨rfl, rfl⟩) | (go_at_call 90; refine (HW.out _ _ _ (hco.cells.below (below_past hb2))).mono ?_; rintro e w4 ⟨A', c', rfl, ho4, hb4⟩; obtain ⟨d0, d1, d2, d3, g0, g1, g2, g3⟩ := blk4 (blk_old (blk_new hb2) hb4)) | (go_at_call 91; refine (HU.out _ _ _ (OwnCells.set ho4 _ hlt _).cells).mono ?_; rintro e w5 ⟨rfl, hb5⟩))
            go_ret2
            exact ⟨rfl, andThen ((andThen (andThen hb1 (below_past hb2)) hb4).setCell hb1.size _) hb5⟩
set_option maxRecDepth 100000 in
set_option maxHeartbeats 2000000 in
theorem rpcut_any (p : ByteArray) (i : Int) (hm : p.size ≤ 1048576) (w : World) :
    Calls Try.prog 49 #[.string p, .int .i64 i] w fun e w' => e = .returned (outV (cutO p i)) ∧ Below w.heap.size w w' := by
  have HT := Lib.hid (fun W => rparts_leaf p hm W)
  have HA := Lib.hid (fun W => rget_any_rec p i hm W)
  have hgood := leafP_good p
  unfold cutO
  cases hb : isPg p with
  | false =>
    rw [if_pos rfl]
    rw [hb] at HT
    generalize leafP p = x at HT
    clear hgood hb HA
    go_enter Try.func49, Try.ntmps49
    go_wp2_with (first | (go_at_call 78; refine (HT.out _).mono ?_; rintro e w1 ⟨y0, A, c, rfl, hcl, hb1⟩))
    go_ret2
    exact ⟨rfl, below_past_alloc hb1⟩
  | true =>
    rw [hb] at HT
    rw [if_neg (by simp)]
    clear hb
    by_cases h2 : (Pg.slotAt (leafP p).recs i).size = 0
    · rw [if_pos h2]
      rw [decide_eq_true h2] at HA
      generalize Pg.slotAt (leafP p).recs i = q at HA
      generalize leafP p = x at HT
      clear hgood h2
      go_enter Try.func49, Try.ntmps49
      go_wp2_with (first | (go_at_call 78; refine (HT.out _).mono ?_; rintro e w1 ⟨y0, A, c, rfl, hcl, hb1⟩; obtain ⟨hy, hco⟩ := hcl rfl; clear hcl; subst hy) | (go_at_call 16; refine (HA.out _).mono ?_; rintro e w2 ⟨rfl, hb2⟩; obtain ⟨c0, c1, c2, c3, f0, f1, f2, f3⟩ := blk4 (blk_new hb2); have hlt : w1.heap.size < w2.heap.size := (by have := hb2.size; simp at this; omega)))
      go_ret2
      exact ⟨rfl, andThen hb1 (below_past hb2)⟩
    · rw [if_neg h2]
      obtain ⟨hi0, hi1⟩ := Pg.slotAt_lt h2
      rw [decide_eq_false h2] at HA
      clear h2
      generalize Pg.slotAt (leafP p).recs i = q at HA
      obtain ⟨k, rfl⟩ := Int.eq_ofNat_of_zero_le hi0
      rw [show ((k : Int)).toNat = k from rfl]
      have hz : (⟨#[]⟩ : ByteArray).size = 0 := rfl
      have hln := hgood.fine.len
      have hsm := hgood.fine.sum
      have hps := Pg.putAt_size (leafP p).recs k ⟨#[]⟩
      have HW := Lib.hid (fun A c W hW => rwith_any (leafP p).recs A c k ⟨#[]⟩ (by omega) (by omega) W hW)
      have HU := Lib.hid (fun A c W hW => laid_any (withRecs p (Pg.putAt (leafP p).recs k ⟨#[]⟩)) A c (withRecs_small p _) (by show Pg.sizeN (Pg.putAt _ _ _) ≤ _; omega) (.inl (Nat.le_trans (Pg.cutAt_size (by omega)) hgood.fits)) W hW)
      generalize Pg.fullO (withRecs p (Pg.putAt (leafP p).recs k ⟨#[]⟩)) = o at HU ⊢
      change Hid (∀ A c W, Cells W A c (Pg.putAt (leafP p).recs k ⟨#[]⟩) → Calls _ _ #[.agg #[.int .i64 (leafP p).lsn, .int .i64 (leafP p).kind, .int .i64 (leafP p).link, .slice A (Pg.putAt (leafP p).recs k ⟨#[]⟩).length c]] _ _) at HU
      clear hps hln hsm hgood
      generalize Pg.putAt (leafP p).recs k ⟨#[]⟩ = rs at HW HU
      generalize leafP p = x at HT HW HU
      go_enter Try.func49, Try.ntmps49
      go_wp2_with (first | (go_at_call 78; refine (HT.out _).mono ?_; rintro e w1 ⟨y0, A, c, rfl, hcl, hb1⟩; obtain ⟨hy, hco⟩ := hcl rfl; clear hcl; subst hy) | (go_at_call 16; refine (HA.out _).mono ?_; rintro e w2 ⟨rfl, hb2⟩; obtain ⟨c0, c1, c2, c3, f0, f1, f2, f3⟩ := blk4 (blk_new hb2); have hlt : w1.heap.size < w2.heap.size := (by have := hb2.size; simp at this; omega)) | (go_at_call 90; refine (HW.out _ _ _ (hco.cells.below (below_past hb2))).mono ?_; rintro e w4 ⟨A', c', rfl, ho4, hb4⟩; obtain ⟨d0, d1, d2, d3, g0, g1, g2, g3⟩ := blk4 (blk_old (blk_new hb2) hb4)) | (go_at_call 91; refine (HU.out _ _ _ (OwnCells.set ho4 _ hlt _).cells).mono ?_; rintro e w5 ⟨rfl, hb5⟩))
      go_ret2
      exact ⟨rfl, andThen ((andThen (andThen hb1 (below_past hb2)) hb4).setCell hb1.size _) hb5⟩
set_option maxRecDepth 100000 in
set_option maxHeartbeats 2000000 in
theorem rpset_any (p : ByteArray) (i : Int) (r : ByteArray) (hm : p.size ≤ 1048576) (w : World) :
    Calls Try.prog 45 #[.string p, .int .i64 i, .string r] w fun e w' => e = .returned (outV (setO p i r)) ∧ Below w.heap.size w w' := by
  have HT := Lib.hid (fun W => rparts_leaf p hm W)
  have HA := Lib.hid (fun W => rget_any_rec p i hm W)
  have HY := Lib.hid (fun W => rmay_any r W)
  change Hid (∀ W, Calls _ _ _ _ fun e w' => e = .returned (.bool (mayB r)) ∧ _) at HY
  have hgood := leafP_good p
  unfold setO
  cases hb : isPg p with
  | false =>
    rw [if_pos rfl]
    rw [hb] at HT
    generalize leafP p = x at HT
    clear hgood hb HA HY
    go_enter Try.func45, Try.ntmps45
    go_wp2_with (first | (go_at_call 78; refine (HT.out _).mono ?_; rintro e w1 ⟨y0, A, c, rfl, hcl, hb1⟩))
    go_ret2
    exact ⟨rfl, below_past_alloc hb1⟩
  | true =>
    rw [hb] at HT
    rw [if_neg (by simp)]
    clear hb
    cases hy : mayB r with
    | false =>
      rw [if_pos rfl]
      rw [hy] at HY
      generalize leafP p = x at HT
      clear hgood hy HA
      go_enter Try.func45, Try.ntmps45
      go_wp2_with (first | (go_at_call 78; refine (HT.out _).mono ?_; rintro e w1 ⟨y0, A, c, rfl, hcl, hb1⟩; obtain ⟨hy, hco⟩ := hcl rfl; clear hcl; subst hy) | (go_at_call 89; refine (HY.out _).mono ?_; rintro e w3 ⟨rfl, rfl⟩))
      go_ret2
      exact ⟨rfl, below_past_alloc hb1⟩
    | true =>
      rw [if_neg (by simp)]
      rw [hy] at HY
      obtain ⟨hr1, hr2⟩ := mayB_yes hy
      clear hy
      by_cases h2 : (Pg.slotAt (leafP p).recs i).size = 0
      · rw [if_pos h2]
        rw [decide_eq_true h2] at HA
        generalize Pg.slotAt (leafP p).recs i = q at HA
        generalize leafP p = x at HT
        clear hgood h2
        go_enter Try.func45, Try.ntmps45
        go_wp2_with (first | (go_at_call 78; refine (HT.out _).mono ?_; rintro e w1 ⟨y0, A, c, rfl, hcl, hb1⟩; obtain ⟨hy, hco⟩ := hcl rfl; clear hcl; subst hy) | (go_at_call 89; refine (HY.out _).mono ?_; rintro e w3 ⟨rfl, rfl⟩) | (go_at_call 16; refine (HA.out _).mono ?_; rintro e w2 ⟨rfl, hb2⟩; obtain ⟨c0, c1, c2, c3, f0, f1, f2, f3⟩ := blk4 (blk_new hb2); have hlt : w1.heap.size < w2.heap.size := (by have := hb2.size; simp at this; omega)))
        go_ret2
        exact ⟨rfl, andThen hb1 (below_past hb2)⟩
      · rw [if_neg h2]
        obtain ⟨hi0, hi1⟩ := Pg.slotAt_lt h2
        rw [decide_eq_false h2] at HA
        clear h2
        generalize Pg.slotAt (leafP p).recs i = q at HA
        obtain ⟨k, rfl⟩ := Int.eq_ofNat_of_zero_le hi0
        rw [show ((k : Int)).toNat = k from rfl]
        have hln := hgood.fine.len
        have hsm := hgood.fine.sum
        have hps := Pg.putAt_size (leafP p).recs k r
        have HW := Lib.hid (fun A c W hW => rwith_any (leafP p).recs A c k r (by omega) (by omega) W hW)
        have HU := Lib.hid (fun A c W hW => laid_any (withRecs p (Pg.putAt (leafP p).recs k r)) A c (withRecs_small p _) (by show Pg.sizeN (Pg.putAt _ _ _) ≤ _; omega) (.inr ((Pg.trim_tight _).2 (Pg.putAt_tight hgood.tight k (by omega)))) W hW)
        generalize Pg.fullO (withRecs p (Pg.putAt (leafP p).recs k r)) = o at HU ⊢
        change Hid (∀ A c W, Cells W A c (Pg.putAt (leafP p).recs k r) → Calls _ _ #[.agg #[.int .i64 (leafP p).lsn, .int .i64 (leafP p).kind, .int .i64 (leafP p).link, .slice A (Pg.putAt (leafP p).recs k r).length c]] _ _) at HU
        clear hps hln hsm hgood
        generalize Pg.putAt (leafP p).recs k r = rs at HW HU
        generalize leafP p = x at HT HW HU
        go_enter Try.func45, Try.ntmps45
        go_wp2_with (first | (go_at_call 78; refine (HT.out _).mono ?_; rintro e w1 ⟨y0, A, c, rfl, hcl, hb1⟩; obtain ⟨hy, hco⟩ := hcl rfl; clear hcl; subst hy) | (go_at_call 89; refine (HY.out _).mono ?_; rintro e w3 ⟨rfl, rfl⟩) | (go_at_call 16; refine (HA.out _).mono ?_; rintro e w2 ⟨rfl, hb2⟩; obtain ⟨c0, c1, c2, c3, f0, f1, f2, f3⟩ := blk4 (blk_new hb2); have hlt : w1.heap.size < w2.heap.size := (by have := hb2.size; simp at this; omega)) | (go_at_call 90; refine (HW.out _ _ _ (hco.cells.below (below_past hb2))).mono ?_; rintro e w4 ⟨A', c', rfl, ho4, hb4⟩; obtain ⟨d0, d1, d2, d3, g0, g1, g2, g3⟩ := blk4 (blk_old (blk_new hb2) hb4)) | (go_at_call 91; refine (HU.out _ _ _ (OwnCells.set ho4 _ hlt _).cells).mono ?_; rintro e w5 ⟨rfl, hb5⟩))
        go_ret2
        exact ⟨rfl, andThen ((andThen (andThen hb1 (below_past hb2)) hb4).setCell hb1.size _) hb5⟩
end Go.Proofs.Ytgbihdlahghonaa
