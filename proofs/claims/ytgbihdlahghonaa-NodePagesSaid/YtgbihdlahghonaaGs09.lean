/- The walks over the reference of package page: Put, Cut, Set. -/
import Derived.Test.YtgbihdlahghonaaGs08
namespace Go.Proofs.Ytgbihdlahghonaa
open Go.RowKit

set_option maxRecDepth 100000 in
set_option maxHeartbeats 2000000 in
theorem rpput_any (p : ByteArray) (i : Int) (r : ByteArray) (hm : p.size ≤ 140737488355328) (w : World) :
    Calls Try.prog 43 #[.string p, .int .i64 i, .string r] w fun e w' => e = .returned (outV (putO p i r)) ∧ Below w.heap.size w w' := by
  have HT := Lib.hid (fun W => rparts_leaf p hm W)
  have HA := Lib.hid (fun W => rget_any_rec p i hm W)
  have HY := Lib.hid (fun W => rmay_any r W)
  change Hid (∀ W, Calls _ _ _ _ fun e w' => e = .returned (.bool (mayB r)) ∧ _) at HY
  have hgood := leafP_good p
  unfold putO
  cases hb : isPg p with
  | false =>
    rw [if_pos rfl]
    rw [hb] at HT
    generalize Pg.slotAt (leafP p).recs i = q at HA
    generalize (!decide (q.size = 0)) = b at HA
    generalize leafP p = x at HT
    clear hgood hb HY
    go_enter Try.func43, Try.ntmps43
    go_wp2_with (first | (go_at_call 78; refine (HT.out _).mono ?_; rintro e w1 ⟨y0, A, c, rfl, hcl, hb1⟩) | (go_at_call 16; refine (HA.out _).mono ?_; rintro e w2 ⟨rfl, hb2⟩))
    go_ret2
    exact ⟨rfl, andThen hb1 (below_past hb2)⟩
  | true =>
    rw [hb] at HT
    rw [if_neg (by simp)]
    clear hb
    by_cases h1 : i < 0
    · rw [if_pos h1]
      generalize Pg.slotAt (leafP p).recs i = q at HA
      generalize (!decide (q.size = 0)) = b at HA
      generalize leafP p = x at HT
      clear hgood HY
      go_enter Try.func43, Try.ntmps43
      go_wp2_with (first | (go_at_call 78; refine (HT.out _).mono ?_; rintro e w1 ⟨y0, A, c, rfl, hcl, hb1⟩; obtain ⟨hy, hco⟩ := hcl rfl; clear hcl; subst hy) | (go_at_call 16; refine (HA.out _).mono ?_; rintro e w2 ⟨rfl, hb2⟩; obtain ⟨c0, c1, c2, c3, f0, f1, f2, f3⟩ := blk4 (blk_new hb2); have hlt : w1.heap.size < w2.heap.size := (by have := hb2.size; simp at this; omega)))
      go_ret2
      exact ⟨rfl, andThen hb1 (below_past hb2)⟩
    · rw [if_neg h1]
      obtain ⟨k, rfl⟩ := Int.eq_ofNat_of_zero_le (show 0 ≤ i by omega)
      have hk0 : (0 : Int) ≤ (k : Int) := by omega
      clear h1
      rw [show ((k : Int)).toNat = k from rfl]
      by_cases h2 : (Pg.slotAt (leafP p).recs (k : Int)).size ≠ 0
      · rw [if_pos h2]
        rw [decide_eq_false h2] at HA
        clear h2
        generalize Pg.slotAt (leafP p).recs (k : Int) = q at HA
        generalize leafP p = x at HT
        clear hgood HY
        go_enter Try.func43, Try.ntmps43
        go_wp2_with (first | (go_at_call 78; refine (HT.out _).mono ?_; rintro e w1 ⟨y0, A, c, rfl, hcl, hb1⟩; obtain ⟨hy, hco⟩ := hcl rfl; clear hcl; subst hy) | (go_at_call 16; refine (HA.out _).mono ?_; rintro e w2 ⟨rfl, hb2⟩; obtain ⟨c0, c1, c2, c3, f0, f1, f2, f3⟩ := blk4 (blk_new hb2); have hlt : w1.heap.size < w2.heap.size := (by have := hb2.size; simp at this; omega)))
        go_ret2
        exact ⟨rfl, andThen hb1 (below_past hb2)⟩
      · rw [if_neg h2]
        rw [decide_eq_true (Decidable.not_not.1 h2)] at HA
        clear h2
        generalize Pg.slotAt (leafP p).recs (k : Int) = q at HA
        cases hy : mayB r with
        | false =>
          rw [if_pos rfl]
          rw [hy] at HY
          generalize leafP p = x at HT
          clear hgood hy
          go_enter Try.func43, Try.ntmps43
          go_wp2_with (first | (go_at_call 78; refine (HT.out _).mono ?_; rintro e w1 ⟨y0, A, c, rfl, hcl, hb1⟩; obtain ⟨hy, hco⟩ := hcl rfl; clear hcl; subst hy) | (go_at_call 16; refine (HA.out _).mono ?_; rintro e w2 ⟨rfl, hb2⟩; obtain ⟨c0, c1, c2, c3, f0, f1, f2, f3⟩ := blk4 (blk_new hb2); have hlt : w1.heap.size < w2.heap.size := (by have := hb2.size; simp at this; omega)) | (go_at_call 89; refine (HY.out _).mono ?_; rintro e w3 ⟨rfl, rfl⟩))
          go_ret2
          exact ⟨rfl, andThen hb1 (below_past hb2)⟩
        | true =>
          rw [if_neg (by simp)]
          rw [hy] at HY
          obtain ⟨hr1, hr2⟩ := mayB_yes hy
          clear hy
          by_cases h5 : (512 : Int) < (k : Int)
          · rw [if_pos h5]
            have HW := Lib.hid (fun A c n W => rwith_far A c n (k : Int) r h5 W)
            generalize leafP p = x at HT
            clear hgood
            go_enter Try.func43, Try.ntmps43
            go_wp2_with (first | (go_at_call 78; refine (HT.out _).mono ?_; rintro e w1 ⟨y0, A, c, rfl, hcl, hb1⟩; obtain ⟨hy, hco⟩ := hcl rfl; clear hcl; subst hy) | (go_at_call 16; refine (HA.out _).mono ?_; rintro e w2 ⟨rfl, hb2⟩; obtain ⟨c0, c1, c2, c3, f0, f1, f2, f3⟩ := blk4 (blk_new hb2); have hlt : w1.heap.size < w2.heap.size := (by have := hb2.size; simp at this; omega)) | (go_at_call 89; refine (HY.out _).mono ?_; rintro e w3 ⟨rfl, rfl⟩) | (go_at_call 90; refine (HW.out _ _ _ _).mono ?_; rintro e w4 ⟨rfl, rfl⟩))
            go_ret2
            exact ⟨rfl, andThen hb1 (below_past hb2)⟩
          · rw [if_neg h5]
            have hln := hgood.fine.len
            have hsm := hgood.fine.sum
            have hps := Pg.putAt_size (leafP p).recs k r
            have HW := Lib.hid (fun A c W hW => rwith_any (leafP p).recs A c k r (by omega) (by omega) W hW)
            have HU := Lib.hid (fun A c W hW => laid_any (withRecs p (Pg.putAt (leafP p).recs k r)) A c (withRecs_small p _) (by show Pg.sizeN (Pg.putAt _ _ _) ≤ _; omega) (.inr ((Pg.trim_tight _).2 (Pg.putAt_tight hgood.tight k (by omega)))) W hW)
            generalize Pg.fullO (withRecs p (Pg.putAt (leafP p).recs k r)) = o at HU ⊢
            change Hid (∀ A c W, Cells W A c (Pg.putAt (leafP p).recs k r) → Calls _ _ #[.agg #[.int .i64 (leafP p).lsn, .int .i64 (leafP p).kind, .int .i64 (leafP p).link, .slice A (Pg.putAt (leafP p).recs k r).length c]] _ _) at HU
            clear hps hln hsm hgood
            generalize Pg.putAt (leafP p).recs k r = rs at HW HU
            generalize leafP p = x at HT HW HU
            go_enter Try.func43, Try.ntmps43
            go_wp2_with (first | (go_at_call 78; refine (HT.out _).mono ?_; rintro e w1 ⟨y0, A, c, rfl, hcl, hb1⟩; obtain ⟨hy, hco⟩ := hcl rfl; clear hcl; subst hy) | (go_at_call 16; refine (HA.out _).mono ?_; rintro e w2 ⟨rfl, hb2⟩; obtain ⟨c0, c1, c2, c3, f0, f1, f2, f3⟩ := blk4 (blk_new hb2); have hlt : w1.heap.size < w2.heap.size := (by have := hb2.size; simp at this; omega)) | (go_at_call 89; refine (HY.out _).mono ?_; rintro e w3 ⟨rfl, rfl⟩) | (go_at_call 90; refine (HW.out _ _ _ (hco.cells.below (below_past hb2))).mono ?_; rintro e w4 ⟨A', c', rfl, ho4, hb4⟩; obtain ⟨d0, d1, d2, d3, g0, g1, g2, g3⟩ := blk4 (blk_old (blk_new hb2) hb4)) | (go_at_call 91; refine (HU.out _ _ _ (OwnCells.set ho4 _ hlt _).cells).mono ?_; rintro e w5 ⟨rfl, hb5⟩))
            go_ret2
            exact ⟨rfl, andThen ((andThen (andThen hb1 (below_past hb2)) hb4).setCell hb1.size _) hb5⟩
set_option maxRecDepth 100000 in
set_option maxHeartbeats 2000000 in
theorem rpcut_any (p : ByteArray) (i : Int) (hm : p.size ≤ 140737488355328) (w : World) :
    Calls Try.prog 49 #[.string p, .int .i64 i] w fun e w' => e = .returned (outV (cutO p i)) ∧ Below w.heap.size w w' := by
  have HT := Lib.hid (fun W => rparts_leaf p hm W)
  have HA := Lib.hid (fun W => rget_any_rec p i hm W)
  have hgood := leafP_good p
  unfold cutO
  cases hb : isPg p with
  | false =>
    rw [if_pos rfl]
    rw [hb] at HT
    generalize leafP p = x at HT
    clear hgood hb HA
    go_enter Try.func49, Try.ntmps49
    go_wp2_with (first | (go_at_call 78; refine (HT.out _).mono ?_; rintro e w1 ⟨y0, A, c, rfl, hcl, hb1⟩))
    go_ret2
    exact ⟨rfl, below_past_alloc hb1⟩
  | true =>
    rw [hb] at HT
    rw [if_neg (by simp)]
    clear hb
    by_cases h2 : (Pg.slotAt (leafP p).recs i).size = 0
    · rw [if_pos h2]
      rw [decide_eq_true h2] at HA
      generalize Pg.slotAt (leafP p).recs i = q at HA
      generalize leafP p = x at HT
      clear hgood h2
      go_enter Try.func49, Try.ntmps49
      go_wp2_with (first | (go_at_call 78; refine (HT.out _).mono ?_; rintro e w1 ⟨y0, A, c, rfl, hcl, hb1⟩; obtain ⟨hy, hco⟩ := hcl rfl; clear hcl; subst hy) | (go_at_call 16; refine (HA.out _).mono ?_; rintro e w2 ⟨rfl, hb2⟩; obtain ⟨c0, c1, c2, c3, f0, f1, f2, f3⟩ := blk4 (blk_new hb2); have hlt : w1.heap.size < w2.heap.size := (by have := hb2.size; simp at this; omega)))
      go_ret2
      exact ⟨rfl, andThen hb1 (below_past hb2)⟩
    · rw [if_neg h2]
      obtain ⟨hi0, hi1⟩ := Pg.slotAt_lt h2
      rw [decide_eq_false h2] at HA
      clear h2
      generalize Pg.slotAt (leafP p).recs i = q at HA
      obtain ⟨k, rfl⟩ := Int.eq_ofNat_of_zero_le hi0
      rw [show ((k : Int)).toNat = k from rfl]
      have hz : (⟨#[]⟩ : ByteArray).size = 0 := rfl
      have hln := hgood.fine.len
      have hsm := hgood.fine.sum
      have hps := Pg.putAt_size (leafP p).recs k ⟨#[]⟩
      have HW := Lib.hid (fun A c W hW => rwith_any (leafP p).recs A c k ⟨#[]⟩ (by omega) (by omega) W hW)
      have HU := Lib.hid (fun A c W hW => laid_any (withRecs p (Pg.putAt (leafP p).recs k ⟨#[]⟩)) A c (withRecs_small p _) (by show Pg.sizeN (Pg.putAt _ _ _) ≤ _; omega) (.inl (Nat.le_trans (Pg.cutAt_size (by omega)) hgood.fits)) W hW)
      generalize Pg.fullO (withRecs p (Pg.putAt (leafP p).recs k ⟨#[]⟩)) = o at HU ⊢
      change Hid (∀ A c W, Cells W A c (Pg.putAt (leafP p).recs k ⟨#[]⟩) → Calls _ _ #[.agg #[.int .i64 (leafP p).lsn, .int .i64 (leafP p).kind, .int .i64 (leafP p).link, .slice A (Pg.putAt (leafP p).recs k ⟨#[]⟩).length c]] _ _) at HU
      clear hps hln hsm hgood
      generalize Pg.putAt (leafP p).recs k ⟨#[]⟩ = rs at HW HU
      generalize leafP p = x at HT HW HU
      go_enter Try.func49, Try.ntmps49
      go_wp2_with (first | (go_at_call 78; refine (HT.out _).mono ?_; rintro e w1 ⟨y0, A, c, rfl, hcl, hb1⟩; obtain ⟨hy, hco⟩ := hcl rfl; clear hcl; subst hy) | (go_at_call 16; refine (HA.out _).mono ?_; rintro e w2 ⟨rfl, hb2⟩; obtain ⟨c0, c1, c2, c3, f0, f1, f2, f3⟩ := blk4 (blk_new hb2); have hlt : w1.heap.size < w2.heap.size := (by have := hb2.size; simp at this; omega)) | (go_at_call 90; refine (HW.out _ _ _ (hco.cells.below (below_past hb2))).mono ?_; rintro e w4 ⟨A', c', rfl, ho4, hb4⟩; obtain ⟨d0, d1, d2, d3, g0, g1, g2, g3⟩ := blk4 (blk_old (blk_new hb2) hb4)) | (go_at_call 91; refine (HU.out _ _ _ (OwnCells.set ho4 _ hlt _).cells).mono ?_; rintro e w5 ⟨rfl, hb5⟩))
      go_ret2
      exact ⟨rfl, andThen ((andThen (andThen hb1 (below_past hb2)) hb4).setCell hb1.size _) hb5⟩
set_option maxRecDepth 100000 in
set_option maxHeartbeats 2000000 in
theorem rpset_any (p : ByteArray) (i : Int) (r : ByteArray) (hm : p.size ≤ 140737488355328) (w : World) :
    Calls Try.prog 45 #[.string p, .int .i64 i, .string r] w fun e w' => e = .returned (outV (setO p i r)) ∧ Below w.heap.size w w' := by
  have HT := Lib.hid (fun W => rparts_leaf p hm W)
  have HA := Lib.hid (fun W => rget_any_rec p i hm W)
  have HY := Lib.hid (fun W => rmay_any r W)
  change Hid (∀ W, Calls _ _ _ _ fun e w' => e = .returned (.bool (mayB r)) ∧ _) at HY
  have hgood := leafP_good p
  unfold setO
  cases hb : isPg p with
  | false =>
    rw [if_pos rfl]
    rw [hb] at HT
    generalize leafP p = x at HT
    clear hgood hb HA HY
    go_enter Try.func45, Try.ntmps45
    go_wp2_with (first | (go_at_call 78; refine (HT.out _).mono ?_; rintro e w1 ⟨y0, A, c, rfl, hcl, hb1⟩))
    go_ret2
    exact ⟨rfl, below_past_alloc hb1⟩
  | true =>
    rw [hb] at HT
    rw [if_neg (by simp)]
    clear hb
    cases hy : mayB r with
    | false =>
      rw [if_pos rfl]
      rw [hy] at HY
      generalize leafP p = x at HT
      clear hgood hy HA
      go_enter Try.func45, Try.ntmps45
      go_wp2_with (first | (go_at_call 78; refine (HT.out _).mono ?_; rintro e w1 ⟨y0, A, c, rfl, hcl, hb1⟩; obtain ⟨hy, hco⟩ := hcl rfl; clear hcl; subst hy) | (go_at_call 89; refine (HY.out _).mono ?_; rintro e w3 ⟨rfl, rfl⟩))
      go_ret2
      exact ⟨rfl, below_past_alloc hb1⟩
    | true =>
      rw [if_neg (by simp)]
      rw [hy] at HY
      obtain ⟨hr1, hr2⟩ := mayB_yes hy
      clear hy
      by_cases h2 : (Pg.slotAt (leafP p).recs i).size = 0
      · rw [if_pos h2]
        rw [decide_eq_true h2] at HA
        generalize Pg.slotAt (leafP p).recs i = q at HA
        generalize leafP p = x at HT
        clear hgood h2
        go_enter Try.func45, Try.ntmps45
        go_wp2_with (first | (go_at_call 78; refine (HT.out _).mono ?_; rintro e w1 ⟨y0, A, c, rfl, hcl, hb1⟩; obtain ⟨hy, hco⟩ := hcl rfl; clear hcl; subst hy) | (go_at_call 89; refine (HY.out _).mono ?_; rintro e w3 ⟨rfl, rfl⟩) | (go_at_call 16; refine (HA.out _).mono ?_; rintro e w2 ⟨rfl, hb2⟩; obtain ⟨c0, c1, c2, c3, f0, f1, f2, f3⟩ := blk4 (blk_new hb2); have hlt : w1.heap.size < w2.heap.size := (by have := hb2.size; simp at this; omega)))
        go_ret2
        exact ⟨rfl, andThen hb1 (below_past hb2)⟩
      · rw [if_neg h2]
        obtain ⟨hi0, hi1⟩ := Pg.slotAt_lt h2
        rw [decide_eq_false h2] at HA
        clear h2
        generalize Pg.slotAt (leafP p).recs i = q at HA
        obtain ⟨k, rfl⟩ := Int.eq_ofNat_of_zero_le hi0
        rw [show ((k : Int)).toNat = k from rfl]
        have hln := hgood.fine.len
        have hsm := hgood.fine.sum
        have hps := Pg.putAt_size (leafP p).recs k r
        have HW := Lib.hid (fun A c W hW => rwith_any (leafP p).recs A c k r (by omega) (by omega) W hW)
        have HU := Lib.hid (fun A c W hW => laid_any (withRecs p (Pg.putAt (leafP p).recs k r)) A c (withRecs_small p _) (by show Pg.sizeN (Pg.putAt _ _ _) ≤ _; omega) (.inr ((Pg.trim_tight _).2 (Pg.putAt_tight hgood.tight k (by omega)))) W hW)
        generalize Pg.fullO (withRecs p (Pg.putAt (leafP p).recs k r)) = o at HU ⊢
        change Hid (∀ A c W, Cells W A c (Pg.putAt (leafP p).recs k r) → Calls _ _ #[.agg #[.int .i64 (leafP p).lsn, .int .i64 (leafP p).kind, .int .i64 (leafP p).link, .slice A (Pg.putAt (leafP p).recs k r).length c]] _ _) at HU
        clear hps hln hsm hgood
        generalize Pg.putAt (leafP p).recs k r = rs at HW HU
        generalize leafP p = x at HT HW HU
        go_enter Try.func45, Try.ntmps45
        go_wp2_with (first | (go_at_call 78; refine (HT.out _).mono ?_; rintro e w1 ⟨y0, A, c, rfl, hcl, hb1⟩; obtain ⟨hy, hco⟩ := hcl rfl; clear hcl; subst hy) | (go_at_call 89; refine (HY.out _).mono ?_; rintro e w3 ⟨rfl, rfl⟩) | (go_at_call 16; refine (HA.out _).mono ?_; rintro e w2 ⟨rfl, hb2⟩; obtain ⟨c0, c1, c2, c3, f0, f1, f2, f3⟩ := blk4 (blk_new hb2); have hlt : w1.heap.size < w2.heap.size := (by have := hb2.size; simp at this; omega)) | (go_at_call 90; refine (HW.out _ _ _ (hco.cells.below (below_past hb2))).mono ?_; rintro e w4 ⟨A', c', rfl, ho4, hb4⟩; obtain ⟨d0, d1, d2, d3, g0, g1, g2, g3⟩ := blk4 (blk_old (blk_new hb2) hb4)) | (go_at_call 91; refine (HU.out _ _ _ (OwnCells.set ho4 _ hlt _).cells).mono ?_; rintro e w5 ⟨rfl, hb5⟩))
        go_ret2
        exact ⟨rfl, andThen ((andThen (andThen hb1 (below_past hb2)) hb4).setCell hb1.size _) hb5⟩
end Go.Proofs.Ytgbihdlahghonaa
/- The walks over package page: Add, Del. -/
namespace Go.Proofs.Ytgbihdlahghonaa
open Go.RowKit

theorem Cells.keepB {w w' : World} {B b off c : Nat} {rs : List ByteArray} (h : Cells w (some ⟨b, off, none⟩) c rs) (hlt : b < B) (hb : Below B w w') : Cells w' (some ⟨b, off, none⟩) c rs := fun h0 => by
  obtain ⟨b', off', hA, hc, hl, hcell⟩ := h h0
  injection hA with hA
  injection hA with hA1 hA2
  subst hA1
  subst hA2
  refine ⟨b, off, rfl, hc, Nat.lt_of_lt_of_le hl hb.size, fun j hj => ?_⟩
  rw [hb.cell (p := ⟨b, off + j, none⟩) hlt]; exact hcell j hj
set_option maxRecDepth 100000 in
set_option maxHeartbeats 2000000 in
theorem padd_in (p : ByteArray) (k : Nat) (r : ByteArray) (hm : p.size ≤ 140737488355328) (hb : isPg p = true) (hk : k < (leafP p).recs.length) (hr : mayB r = true) (w : World) :
    Calls Try.prog 46 #[.string p, .int .i64 (k : Int), .string r] w fun e w' => e = .returned (outV (Pg.fullO (withRecs p ((leafP p).recs.take k ++ [r] ++ (leafP p).recs.drop k)))) ∧ Below w.heap.size w w' := by
  have HT := Lib.hid (fun W => take_leaf p hm W)
  rw [hb] at HT
  have hgood := leafP_good p
  have hln := hgood.fine.len
  have hsm := hgood.fine.sum
  have HY := Lib.hid (fun W => may_any r W)
  change Hid (∀ W, Calls _ _ _ _ fun e w' => e = .returned (.bool (mayB r)) ∧ _) at HY
  rw [hr] at HY
  obtain ⟨hr1, hr2⟩ := mayB_yes hr
  have hsz : Pg.sizeN ((leafP p).recs.take k ++ [r] ++ (leafP p).recs.drop k) ≤ 1099511627776 := by
    have h1 := Pg.insAt_sum (leafP p).recs k r
    have h2 := Pg.insAt_length (leafP p).recs k r
    unfold Pg.insAt at h1 h2
    rw [if_neg (by omega)] at h1 h2
    unfold Pg.sizeN; omega
  have HU := Lib.hid (fun A c W hW => full_any (withRecs p ((leafP p).recs.take k ++ [r] ++ (leafP p).recs.drop k)) A c (withRecs_small p _) hsz W hW)
  generalize Pg.fullO (withRecs p ((leafP p).recs.take k ++ [r] ++ (leafP p).recs.drop k)) = o at HU ⊢
  change Hid (∀ A c W, Cells W A c ((leafP p).recs.take k ++ [r] ++ (leafP p).recs.drop k) → Calls _ _ #[.agg #[.int .i64 (leafP p).lsn, .int .i64 (leafP p).kind, .int .i64 (leafP p).link, .slice A ((leafP p).recs.take k ++ [r] ++ (leafP p).recs.drop k).length c]] _ _) at HU
  clear hsz hsm hgood hb hr hr1 hr2
  generalize leafP p = x at HT HU hln hk
  obtain ⟨L, hL⟩ : ∃ L, L = x.recs.take k ++ [r] ++ x.recs.drop k := ⟨_, rfl⟩
  rw [← hL] at HU
  have HL := Lib.hid hL
  clear hL
  have hk5 : (k : Int) ≤ 512 := by omega
  have hk0 : (0 : Int) ≤ (k : Int) := by omega
  have hkl : (k : Int) < (x.recs.length : Int) := by omega
  have hkl2 : decide (x.recs.length ≤ k) = false := decide_eq_false (by omega)
  go_enter Try.func46, Try.ntmps46
  go_upto_region 8 with (first | (go_at_call 75; refine (HT.out _).mono ?_; rintro e w1 ⟨A, c, rfl, hcl, hb1⟩) | (go_at_call 84; refine (HY.out _).mono ?_; rintro e w3 ⟨rfl, rfl⟩))
  obtain ⟨b, off, rfl, hc, hbl, hcell⟩ := hcl.cells.at_ hk
  clear hcell
  have hkc : k < c := by omega
  have hkc2 : (k : Int) ≤ (c : Int) := by omega
  obtain ⟨W, hW⟩ : ∃ W, W = w1.alloc (.cells #[.int .i64 x.lsn, .int .i64 x.kind, .int .i64 x.link, .slice (some ⟨b, off, none⟩) x.recs.length c] 67 (0, 0)) := ⟨_, rfl⟩
  have hbW : Below w1.heap.size w1 W := by rw [hW]; exact (Below.refl _ _).alloc (Nat.le_refl _) _
  have hxW : W.heap[w1.heap.size]? = some (.cells #[.int .i64 x.lsn, .int .i64 x.kind, .int .i64 x.link, .slice (some ⟨b, off, none⟩) x.recs.length c] 67 (0, 0)) := by rw [hW]; exact heap_alloc_new w1 _
  have hszW : w1.heap.size < W.heap.size := by rw [hW]; simp
  rw [← hW]
  clear hW
  obtain ⟨c0, c1, c2, c3, f0, f1, f2, f3⟩ := blk4 hxW
  have HX := Lib.hid hxW
  have HCC := Lib.hid (hcl.cells.below hbW)
  clear hcl hxW
  have hblW : b < W.heap.size := by omega
  have HT1 := Lib.hid (show (x.recs.take k).length = k by rw [List.length_take]; omega)
  have HT2 := Lib.hid (show (x.recs.drop k).length = x.recs.length - k by rw [List.length_drop])
  go_wp2_with (first | (at_builtin; refine wpList_appN _ rfl (.const (.slice none 0 0)) _ rfl W.heap.size (.slice none 0 0) [] rfl (OwnT.nil _ _) _ k _ (x.recs.take k) HT1.out rfl (HCC.out.take_ k) (by simp; omega) (Nat.le_refl _) ?_; intro v2 w2 hown2 hg2 hb2; rw [List.nil_append] at hown2; clear hg2; obtain ⟨d0, d1, d2, d3, g0, g1, g2, g3⟩ := blk4 ((hb2.block _ hszW).trans HX.out)) | (at_builtin; refine wpList_appN _ rfl (.tmp 46) _ rfl W.heap.size v2 (x.recs.take k) rfl (hown2.below ((Below.refl _ _).alloc (Nat.le_refl _) _)) _ 1 _ [r] rfl rfl (cells_one w2 _) (by rw [HT1.out]; omega) (by have h1 := hb2.size; simp; omega) ?_; intro v4 w4 hown4 hg4 hb4; clear hg4; have hb4' := (hb2.trans (((Below.refl _ _).alloc hb2.size (.cells #[.string r] 9)).trans hb4)); obtain ⟨x0, x1, x2, x3, m0, m1, m2, m3⟩ := blk4 ((hb4'.block _ hszW).trans HX.out)) | (at_builtin; refine wpList_appN _ rfl (.tmp 50) _ rfl W.heap.size v4 (x.recs.take k ++ [r]) rfl hown4 _ (x.recs.length - k) _ (x.recs.drop k) HT2.out rfl ((HCC.out.keepB hblW hb4').drop_ k) (by rw [List.length_append, HT1.out, List.length_singleton]; omega) hb4'.size ?_; intro v6 w6 hown6 hg6 hb6; clear hg6; have hb6' := hb4'.trans hb6; rw [← HL.out] at hown6; obtain ⟨A6, c6, rfl, hoc6, -⟩ := hown6.form; obtain ⟨z0, z1, z2, z3, k0, k1, k2, k3⟩ := blk4 ((hb6'.block _ hszW).trans HX.out)) | (go_at_call 85; refine (HU.out _ _ _ (OwnCells.set hoc6 ⟨w1.heap.size, 3, none⟩ hszW _).cells).mono ?_; rintro e w7 ⟨rfl, hb7⟩))
  go_ret2
  exact ⟨rfl, andThen (Below.setCell (hb1.trans ((hbW.trans (hb6'.mono hbW.size)).mono hb1.size)) hb1.size _) hb7⟩
set_option maxRecDepth 100000 in
set_option maxHeartbeats 2000000 in
theorem pdel_in (p : ByteArray) (k : Nat) (hm : p.size ≤ 140737488355328) (hb : isPg p = true) (hk : k < (leafP p).recs.length) (hs : ¬ (Pg.slotAt (leafP p).recs (k : Int)).size = 0) (w : World) :
    Calls Try.prog 50 #[.string p, .int .i64 (k : Int)] w fun e w' => e = .returned (outV (Pg.fullO (withRecs p (Pg.delAt (leafP p).recs k)))) ∧ Below w.heap.size w w' := by
  have HT := Lib.hid (fun W => take_leaf p hm W)
  rw [hb] at HT
  have hgood := leafP_good p
  have hln := hgood.fine.len
  have hsm := hgood.fine.sum
  have hsz : Pg.sizeN (Pg.delAt (leafP p).recs k) ≤ 1099511627776 := Nat.le_trans (Pg.delAt_size hk) (Nat.le_trans hgood.fits (by omega))
  have HU := Lib.hid (fun A c W hW => full_any (withRecs p (Pg.delAt (leafP p).recs k)) A c (withRecs_small p _) hsz W hW)
  generalize Pg.fullO (withRecs p (Pg.delAt (leafP p).recs k)) = o at HU ⊢
  change Hid (∀ A c W, Cells W A c (Pg.delAt (leafP p).recs k) → Calls _ _ #[.agg #[.int .i64 (leafP p).lsn, .int .i64 (leafP p).kind, .int .i64 (leafP p).link, .slice A (Pg.delAt (leafP p).recs k).length c]] _ _) at HU
  have HA := Lib.hid (fun A c W hW => at_any (leafP p) A c (k : Int) W hW)
  obtain ⟨hie, hne⟩ := empty_no hs
  generalize Pg.slotAt (leafP p).recs (k : Int) = q at HA hie hne
  clear hsz hsm hgood hb hs
  generalize leafP p = x at HT HU hln hk HA
  obtain ⟨L, hL⟩ : ∃ L, L = Pg.delAt x.recs k := ⟨_, rfl⟩
  rw [← hL] at HU
  have HL := Lib.hid hL
  clear hL
  have hk5 : (k : Int) ≤ 512 := by omega
  have hk0 : (0 : Int) ≤ (k : Int) := by omega
  have hkl : (k : Int) < (x.recs.length : Int) := by omega
  have hkl2 : decide (x.recs.length ≤ k) = false := decide_eq_false (by omega)
  go_enter Try.func50, Try.ntmps50
  go_upto_region 6 with (first | (go_at_call 75; refine (HT.out _).mono ?_; rintro e w1 ⟨A, c, rfl, hcl, hb1⟩) | (go_at_call 76; refine (HA.out _ _ _ (hcl.cells.below ((Below.refl _ _).alloc (Nat.le_refl _) _))).mono ?_; rintro e w2 ⟨rfl, hb2⟩))
  obtain ⟨b, off, rfl, hc, hbl, hcell⟩ := hcl.cells.at_ hk
  clear hcell
  have hkc : k < c := by omega
  have hkc2 : (k : Int) ≤ (c : Int) := by omega
  obtain ⟨W, hW⟩ : ∃ W : World, W = w2 := ⟨_, rfl⟩
  have hbW : Below w1.heap.size w1 W := by rw [hW]; exact below_past hb2
  have hxW : W.heap[w1.heap.size]? = some (.cells #[.int .i64 x.lsn, .int .i64 x.kind, .int .i64 x.link, .slice (some ⟨b, off, none⟩) x.recs.length c] 67 (0, 0)) := by rw [hW]; exact blk_new hb2
  have hszW : w1.heap.size < W.heap.size := by rw [hW]; have := hb2.size; simp at this; omega
  rw [← hW]
  clear hW hb2
  obtain ⟨c0, c1, c2, c3, f0, f1, f2, f3⟩ := blk4 hxW
  have HX := Lib.hid hxW
  have HCC := Lib.hid (hcl.cells.below hbW)
  clear hcl hxW
  have hblW : b < W.heap.size := by omega
  have HT1 := Lib.hid (show (x.recs.take k).length = k by rw [List.length_take]; omega)
  have HT2 := Lib.hid (show (x.recs.drop (k + 1)).length = x.recs.length - (k + 1) by rw [List.length_drop])
  have hk1 : ((k : Int) + 1).toNat = k + 1 := by omega
  have hk2 : (k : Int) + 1 ≤ (c : Int) := by omega
  have hk3 : (k : Int) + 1 ≤ (x.recs.length : Int) := by omega
  by_cases hce : c = k + 1
  · subst hce
    go_wp2_with (first | (at_builtin; refine wpList_appN _ rfl (.const (.slice none 0 0)) _ rfl W.heap.size (.slice none 0 0) [] rfl (OwnT.nil _ _) _ k _ (x.recs.take k) HT1.out rfl (HCC.out.take_ k) (by simp; omega) (Nat.le_refl _) ?_; intro v2 w2 hown2 hg2 hb2; rw [List.nil_append] at hown2; clear hg2; obtain ⟨d0, d1, d2, d3, g0, g1, g2, g3⟩ := blk4 ((hb2.block _ hszW).trans HX.out)) | (at_builtin; refine wpList_appN _ rfl (.tmp 25) _ rfl W.heap.size v2 (x.recs.take k) rfl hown2 _ 0 _ (x.recs.drop (k + 1)) (by rw [HT2.out]; omega) rfl (Cells.nil_ _ _ _ (by rw [HT2.out]; omega)) (by rw [HT1.out]; omega) hb2.size ?_; intro v6 w6 hown6 hg6 hb6; clear hg6; have hb6' := hb2.trans hb6; have hown7 : OwnT W.heap.size w6 v6 L := (by rw [HL.out]; exact hown6); clear hown6; obtain ⟨A6, c6, rfl, hoc6, -⟩ := hown7.form; obtain ⟨z0, z1, z2, z3, k0, k1, k2, k3⟩ := blk4 ((hb6'.block _ hszW).trans HX.out)) | (go_at_call 85; refine (HU.out _ _ _ (OwnCells.set hoc6 ⟨w1.heap.size, 3, none⟩ hszW _).cells).mono ?_; rintro e w7 ⟨rfl, hb7⟩))
    go_ret2
    exact ⟨rfl, andThen (Below.setCell (hb1.trans ((hbW.trans (hb6'.mono hbW.size)).mono hb1.size)) hb1.size _) hb7⟩
  · go_wp2_with (first | (at_builtin; refine wpList_appN _ rfl (.const (.slice none 0 0)) _ rfl W.heap.size (.slice none 0 0) [] rfl (OwnT.nil _ _) _ k _ (x.recs.take k) HT1.out rfl (HCC.out.take_ k) (by simp; omega) (Nat.le_refl _) ?_; intro v2 w2 hown2 hg2 hb2; rw [List.nil_append] at hown2; clear hg2; obtain ⟨d0, d1, d2, d3, g0, g1, g2, g3⟩ := blk4 ((hb2.block _ hszW).trans HX.out)) | (at_builtin; refine wpList_appN _ rfl (.tmp 25) _ rfl W.heap.size v2 (x.recs.take k) rfl hown2 _ (x.recs.length - (k + 1)) _ (x.recs.drop (k + 1)) HT2.out rfl ((HCC.out.keepB hblW hb2).drop_ (k + 1)) (by rw [HT1.out]; omega) hb2.size ?_; intro v6 w6 hown6 hg6 hb6; clear hg6; have hb6' := hb2.trans hb6; have hown7 : OwnT W.heap.size w6 v6 L := (by rw [HL.out]; exact hown6); clear hown6; obtain ⟨A6, c6, rfl, hoc6, -⟩ := hown7.form; obtain ⟨z0, z1, z2, z3, k0, k1, k2, k3⟩ := blk4 ((hb6'.block _ hszW).trans HX.out)) | (go_at_call 85; refine (HU.out _ _ _ (OwnCells.set hoc6 ⟨w1.heap.size, 3, none⟩ hszW _).cells).mono ?_; rintro e w7 ⟨rfl, hb7⟩))
    go_ret2
    exact ⟨rfl, andThen (Below.setCell (hb1.trans ((hbW.trans (hb6'.mono hbW.size)).mono hb1.size)) hb1.size _) hb7⟩

/-- What Add, Del return. -/
def addO (p : ByteArray) (i : Int) (r : ByteArray) : ByteArray × Int :=
  if isPg p = false then (⟨#[]⟩, 1) else if i < 0 then (⟨#[]⟩, 1) else if mayB r = false then (⟨#[]⟩, 1) else if 512 < i then (⟨#[]⟩, 18) else Pg.fullO (withRecs p (Pg.insAt (leafP p).recs i.toNat r))
def delO (p : ByteArray) (i : Int) : ByteArray × Int :=
  if isPg p = false then (⟨#[]⟩, 1) else if (Pg.slotAt (leafP p).recs i).size = 0 then (⟨#[]⟩, 21) else Pg.fullO (withRecs p (Pg.delAt (leafP p).recs i.toNat))
set_option maxRecDepth 100000 in
set_option maxHeartbeats 2000000 in
theorem padd_any (p : ByteArray) (i : Int) (r : ByteArray) (hm : p.size ≤ 140737488355328) (w : World) :
    Calls Try.prog 46 #[.string p, .int .i64 i, .string r] w fun e w' => e = .returned (outV (addO p i r)) ∧ Below w.heap.size w w' := by
  have HT := Lib.hid (fun W => take_leaf p hm W)
  have HY := Lib.hid (fun W => may_any r W)
  change Hid (∀ W, Calls _ _ _ _ fun e w' => e = .returned (.bool (mayB r)) ∧ _) at HY
  have hgood := leafP_good p
  unfold addO
  cases hb : isPg p with
  | false =>
    rw [if_pos rfl]
    rw [hb] at HT
    generalize leafP p = x at HT
    clear hgood hb HY
    go_enter Try.func46, Try.ntmps46
    go_wp2_with (first | (go_at_call 75; refine (HT.out _).mono ?_; rintro e w1 ⟨A, c, rfl, hcl, hb1⟩))
    go_ret2
    exact ⟨rfl, below_past_alloc hb1⟩
  | true =>
    rw [if_neg (by simp)]
    by_cases h1 : i < 0
    · rw [if_pos h1]
      rw [hb] at HT
      generalize leafP p = x at HT
      clear hgood hb HY
      go_enter Try.func46, Try.ntmps46
      go_wp2_with (first | (go_at_call 75; refine (HT.out _).mono ?_; rintro e w1 ⟨A, c, rfl, hcl, hb1⟩))
      go_ret2
      exact ⟨rfl, below_past_alloc hb1⟩
    · rw [if_neg h1]
      obtain ⟨k, rfl⟩ := Int.eq_ofNat_of_zero_le (show 0 ≤ i by omega)
      have hk0 : (0 : Int) ≤ (k : Int) := by omega
      clear h1
      rw [show ((k : Int)).toNat = k from rfl]
      cases hy : mayB r with
      | false =>
        rw [if_pos rfl]
        rw [hy] at HY
        rw [hb] at HT
        generalize leafP p = x at HT
        clear hgood hb hy
        go_enter Try.func46, Try.ntmps46
        go_wp2_with (first | (go_at_call 75; refine (HT.out _).mono ?_; rintro e w1 ⟨A, c, rfl, hcl, hb1⟩) | (go_at_call 84; refine (HY.out _).mono ?_; rintro e w3 ⟨rfl, rfl⟩))
        go_ret2
        exact ⟨rfl, below_past_alloc hb1⟩
      | true =>
        rw [if_neg (by simp)]
        by_cases hk : k < (leafP p).recs.length
        · have hln := hgood.fine.len
          rw [if_neg (by omega)]
          unfold Pg.insAt
          rw [if_neg (by omega)]
          exact padd_in p k r hm hb hk hy w
        · by_cases h5 : (512 : Int) < (k : Int)
          · rw [if_pos h5]
            rw [hb] at HT
            rw [hy] at HY
            generalize leafP p = x at HT
            clear hgood hb hy hk
            go_enter Try.func46, Try.ntmps46
            go_wp2_with (first | (go_at_call 75; refine (HT.out _).mono ?_; rintro e w1 ⟨A, c, rfl, hcl, hb1⟩) | (go_at_call 84; refine (HY.out _).mono ?_; rintro e w3 ⟨rfl, rfl⟩))
            go_ret2
            exact ⟨rfl, below_past_alloc hb1⟩
          · rw [if_neg h5]
            rw [show Pg.insAt (leafP p).recs k r = Pg.putAt (leafP p).recs k r from if_pos (by omega)]
            obtain ⟨hr1, hr2⟩ := mayB_yes hy
            have hln := hgood.fine.len
            have hsm := hgood.fine.sum
            have hps := Pg.putAt_size (leafP p).recs k r
            have HW := Lib.hid (fun A c W hW => with_any (leafP p) A c k r (by omega) (by omega) W hW)
            have HU := Lib.hid (fun A c W hW => full_any (withRecs p (Pg.putAt (leafP p).recs k r)) A c (withRecs_small p _) (by show Pg.sizeN (Pg.putAt _ _ _) ≤ _; omega) W hW)
            change Hid (∀ A c W, Cells W A c (leafP p).recs → Calls _ _ _ _ fun e w' => ∃ A' c', e = .returned (leafV (withRecs p (Pg.putAt (leafP p).recs k r)) A' c') ∧ OwnCells _ w' A' c' (withRecs p (Pg.putAt (leafP p).recs k r)).recs ∧ _) at HW
            rw [hb] at HT
            rw [hy] at HY
            clear hps hln hsm hr1 hr2 hgood hb hy
            generalize withRecs p (Pg.putAt (leafP p).recs k r) = y at HW HU ⊢
            generalize Pg.fullO y = o at HU ⊢
            generalize leafP p = x at HT HW hk
            have hkl : (x.recs.length : Int) ≤ (k : Int) := by omega
            go_enter Try.func46, Try.ntmps46
            go_wp2_with (first | (go_at_call 75; refine (HT.out _).mono ?_; rintro e w1 ⟨A, c, rfl, hcl, hb1⟩) | (go_at_call 84; refine (HY.out _).mono ?_; rintro e w3 ⟨rfl, rfl⟩) | (go_at_call 86; refine (HW.out _ _ _ (hcl.cells.below ((Below.refl _ _).alloc (Nat.le_refl _) _))).mono ?_; rintro e w4 ⟨A', c', rfl, ho4, hb4⟩) | (go_at_call 85; refine (HU.out _ _ _ ho4.cells).mono ?_; rintro e w5 ⟨rfl, hb5⟩))
            go_ret2
            exact ⟨rfl, andThen (andThen (below_past_alloc hb1) hb4) hb5⟩
set_option maxRecDepth 100000 in
set_option maxHeartbeats 2000000 in
theorem pdel_any (p : ByteArray) (i : Int) (hm : p.size ≤ 140737488355328) (w : World) :
    Calls Try.prog 50 #[.string p, .int .i64 i] w fun e w' => e = .returned (outV (delO p i)) ∧ Below w.heap.size w w' := by
  have HT := Lib.hid (fun W => take_leaf p hm W)
  have HA := Lib.hid (fun A c W hW => at_any (leafP p) A c i W hW)
  unfold delO
  cases hb : isPg p with
  | false =>
    rw [if_pos rfl]
    rw [hb] at HT
    generalize leafP p = x at HT
    clear hb HA
    go_enter Try.func50, Try.ntmps50
    go_wp2_with (first | (go_at_call 75; refine (HT.out _).mono ?_; rintro e w1 ⟨A, c, rfl, hcl, hb1⟩))
    go_ret2
    exact ⟨rfl, below_past_alloc hb1⟩
  | true =>
    rw [if_neg (by simp)]
    by_cases h2 : (Pg.slotAt (leafP p).recs i).size = 0
    · rw [if_pos h2]
      rw [hb] at HT
      clear hb
      rw [empty_yes h2] at HA
      generalize leafP p = x at HT HA
      clear h2
      go_enter Try.func50, Try.ntmps50
      go_wp2_with (first | (go_at_call 75; refine (HT.out _).mono ?_; rintro e w1 ⟨A, c, rfl, hcl, hb1⟩) | (go_at_call 76; refine (HA.out _ _ _ (hcl.cells.below ((Below.refl _ _).alloc (Nat.le_refl _) _))).mono ?_; rintro e w2 ⟨rfl, hb2⟩; obtain ⟨c0, c1, c2, c3, f0, f1, f2, f3⟩ := blk4 (blk_new hb2)))
      go_ret2
      exact ⟨rfl, andThen hb1 (below_past hb2)⟩
    · rw [if_neg h2]
      obtain ⟨hi0, hi1⟩ := Pg.slotAt_lt h2
      obtain ⟨k, rfl⟩ := Int.eq_ofNat_of_zero_le hi0
      rw [show ((k : Int)).toNat = k from rfl]
      exact pdel_in p k hm hb (by omega) h2 w
end Go.Proofs.Ytgbihdlahghonaa
/- The walks over the reference of package page: Add, Del. -/
namespace Go.Proofs.Ytgbihdlahghonaa
open Go.RowKit

set_option maxRecDepth 100000 in
set_option maxHeartbeats 2000000 in
theorem rpadd_in (p : ByteArray) (k : Nat) (r : ByteArray) (hm : p.size ≤ 140737488355328) (hb : isPg p = true) (hk : k < (leafP p).recs.length) (hr : mayB r = true) (w : World) :
    Calls Try.prog 47 #[.string p, .int .i64 (k : Int), .string r] w fun e w' => e = .returned (outV (Pg.fullO (withRecs p ((leafP p).recs.take k ++ [r] ++ (leafP p).recs.drop k)))) ∧ Below w.heap.size w w' := by
  have HT := Lib.hid (fun W => rparts_leaf p hm W)
  rw [hb] at HT
  have hgood := leafP_good p
  have hln := hgood.fine.len
  have hsm := hgood.fine.sum
  have HY := Lib.hid (fun W => rmay_any r W)
  change Hid (∀ W, Calls _ _ _ _ fun e w' => e = .returned (.bool (mayB r)) ∧ _) at HY
  rw [hr] at HY
  obtain ⟨hr1, hr2⟩ := mayB_yes hr
  have hsz : Pg.sizeN ((leafP p).recs.take k ++ [r] ++ (leafP p).recs.drop k) ≤ 1099511627776 := by
    have h1 := Pg.insAt_sum (leafP p).recs k r
    have h2 := Pg.insAt_length (leafP p).recs k r
    unfold Pg.insAt at h1 h2
    rw [if_neg (by omega)] at h1 h2
    unfold Pg.sizeN; omega
  have HU := Lib.hid (fun A c W hW => laid_any (withRecs p ((leafP p).recs.take k ++ [r] ++ (leafP p).recs.drop k)) A c (withRecs_small p _) hsz (.inr ((Pg.trim_tight _).2 (by have h3 := Pg.insAt_tight hgood.tight k (r := r) (by omega); unfold Pg.insAt at h3; rw [if_neg (by omega)] at h3; exact h3))) W hW)
  generalize Pg.fullO (withRecs p ((leafP p).recs.take k ++ [r] ++ (leafP p).recs.drop k)) = o at HU ⊢
  change Hid (∀ A c W, Cells W A c ((leafP p).recs.take k ++ [r] ++ (leafP p).recs.drop k) → Calls _ _ #[.agg #[.int .i64 (leafP p).lsn, .int .i64 (leafP p).kind, .int .i64 (leafP p).link, .slice A ((leafP p).recs.take k ++ [r] ++ (leafP p).recs.drop k).length c]] _ _) at HU
  clear hsz hsm hgood hb hr hr1 hr2
  generalize leafP p = x at HT HU hln hk
  obtain ⟨L, hL⟩ : ∃ L, L = x.recs.take k ++ [r] ++ x.recs.drop k := ⟨_, rfl⟩
  rw [← hL] at HU
  have HL := Lib.hid hL
  clear hL
  have hk5 : (k : Int) ≤ 512 := by omega
  have hk0 : (0 : Int) ≤ (k : Int) := by omega
  have hkl : (k : Int) < (x.recs.length : Int) := by omega
  have hkl2 : decide (x.recs.length ≤ k) = false := decide_eq_false (by omega)
  go_enter Try.func47, Try.ntmps47
  go_upto_region 7 with (first | (go_at_call 78; refine (HT.out _).mono ?_; rintro e w1 ⟨y0, A, c, rfl, hcl0, hb1⟩; obtain ⟨hy, hcl⟩ := hcl0 rfl; clear hcl0; subst hy) | (go_at_call 89; refine (HY.out _).mono ?_; rintro e w3 ⟨rfl, rfl⟩))
  obtain ⟨b, off, rfl, hc, hbl, hcell⟩ := hcl.cells.at_ hk
  clear hcell
  have hkc : k < c := by omega
  have hkc2 : (k : Int) ≤ (c : Int) := by omega
  obtain ⟨W, hW⟩ : ∃ W, W = w1.alloc (.cells #[.int .i64 y0.lsn, .int .i64 y0.kind, .int .i64 y0.link, .slice (some ⟨b, off, none⟩) y0.recs.length c] 71 (0, 0)) := ⟨_, rfl⟩
  have hbW : Below w1.heap.size w1 W := by rw [hW]; exact (Below.refl _ _).alloc (Nat.le_refl _) _
  have hxW : W.heap[w1.heap.size]? = some (.cells #[.int .i64 y0.lsn, .int .i64 y0.kind, .int .i64 y0.link, .slice (some ⟨b, off, none⟩) y0.recs.length c] 71 (0, 0)) := by rw [hW]; exact heap_alloc_new w1 _
  have hszW : w1.heap.size < W.heap.size := by rw [hW]; simp
  rw [← hW]
  clear hW
  obtain ⟨c0, c1, c2, c3, f0, f1, f2, f3⟩ := blk4 hxW
  have HX := Lib.hid hxW
  have HCC := Lib.hid (hcl.cells.below hbW)
  clear hcl hxW
  have hblW : b < W.heap.size := by omega
  have HT1 := Lib.hid (show (y0.recs.take k).length = k by rw [List.length_take]; omega)
  have HT2 := Lib.hid (show (y0.recs.drop k).length = y0.recs.length - k by rw [List.length_drop])
  go_wp2_with (first | (at_builtin; refine wpList_appN _ rfl (.tmp 38) _ rfl W.heap.size (.slice none 0 0) [] rfl (OwnT.nil _ _) _ k _ (y0.recs.take k) HT1.out rfl (HCC.out.take_ k) (by simp; omega) (Nat.le_refl _) ?_; intro v2 w2 hown2 hg2 hb2; rw [List.nil_append] at hown2; clear hg2; obtain ⟨d0, d1, d2, d3, g0, g1, g2, g3⟩ := blk4 ((hb2.block _ hszW).trans HX.out)) | (at_builtin; refine wpList_appN _ rfl (.tmp 44) _ rfl W.heap.size v2 (y0.recs.take k) rfl (hown2.below ((Below.refl _ _).alloc (Nat.le_refl _) _)) _ 1 _ [r] rfl rfl (cells_one w2 _) (by rw [HT1.out]; omega) (by have h1 := hb2.size; simp; omega) ?_; intro v4 w4 hown4 hg4 hb4; clear hg4; have hb4' := (hb2.trans (((Below.refl _ _).alloc hb2.size (.cells #[.string r] 9)).trans hb4)); obtain ⟨x0, x1, x2, x3, m0, m1, m2, m3⟩ := blk4 ((hb4'.block _ hszW).trans HX.out)) | (at_builtin; refine wpList_appN _ rfl (.tmp 48) _ rfl W.heap.size v4 (y0.recs.take k ++ [r]) rfl hown4 _ (y0.recs.length - k) _ (y0.recs.drop k) HT2.out rfl ((HCC.out.keepB hblW hb4').drop_ k) (by rw [List.length_append, HT1.out, List.length_singleton]; omega) hb4'.size ?_; intro v6 w6 hown6 hg6 hb6; clear hg6; have hb6' := hb4'.trans hb6; rw [← HL.out] at hown6; obtain ⟨A6, c6, rfl, hoc6, -⟩ := hown6.form; obtain ⟨z0, z1, z2, z3, k0, k1, k2, k3⟩ := blk4 ((hb6'.block _ hszW).trans HX.out)) | (go_at_call 91; refine (HU.out _ _ _ (OwnCells.set hoc6 ⟨w1.heap.size, 3, none⟩ hszW _).cells).mono ?_; rintro e w7 ⟨rfl, hb7⟩))
  go_ret2
  exact ⟨rfl, andThen (Below.setCell (hb1.trans ((hbW.trans (hb6'.mono hbW.size)).mono hb1.size)) hb1.size _) hb7⟩
set_option maxRecDepth 100000 in
set_option maxHeartbeats 2000000 in
theorem rpdel_in (p : ByteArray) (k : Nat) (hm : p.size ≤ 140737488355328) (hb : isPg p = true) (hk : k < (leafP p).recs.length) (hs : ¬ (Pg.slotAt (leafP p).recs (k : Int)).size = 0) (w : World) :
    Calls Try.prog 51 #[.string p, .int .i64 (k : Int)] w fun e w' => e = .returned (outV (Pg.fullO (withRecs p (Pg.delAt (leafP p).recs k)))) ∧ Below w.heap.size w w' := by
  have HT := Lib.hid (fun W => rparts_leaf p hm W)
  rw [hb] at HT
  have hgood := leafP_good p
  have hln := hgood.fine.len
  have hsm := hgood.fine.sum
  have hsz : Pg.sizeN (Pg.delAt (leafP p).recs k) ≤ 1099511627776 := Nat.le_trans (Pg.delAt_size hk) (Nat.le_trans hgood.fits (by omega))
  have HU := Lib.hid (fun A c W hW => laid_any (withRecs p (Pg.delAt (leafP p).recs k)) A c (withRecs_small p _) hsz (.inl (Nat.le_trans (Pg.delAt_size hk) hgood.fits)) W hW)
  generalize Pg.fullO (withRecs p (Pg.delAt (leafP p).recs k)) = o at HU ⊢
  change Hid (∀ A c W, Cells W A c (Pg.delAt (leafP p).recs k) → Calls _ _ #[.agg #[.int .i64 (leafP p).lsn, .int .i64 (leafP p).kind, .int .i64 (leafP p).link, .slice A (Pg.delAt (leafP p).recs k).length c]] _ _) at HU
  have HA := Lib.hid (fun W => rget_any_rec p (k : Int) hm W)
  rw [decide_eq_false hs] at HA
  generalize Pg.slotAt (leafP p).recs (k : Int) = q at HA
  clear hsz hsm hgood hb hs
  generalize leafP p = x at HT HU hln hk
  obtain ⟨L, hL⟩ : ∃ L, L = Pg.delAt x.recs k := ⟨_, rfl⟩
  rw [← hL] at HU
  have HL := Lib.hid hL
  clear hL
  have hk5 : (k : Int) ≤ 512 := by omega
  have hk0 : (0 : Int) ≤ (k : Int) := by omega
  have hkl : (k : Int) < (x.recs.length : Int) := by omega
  have hkl2 : decide (x.recs.length ≤ k) = false := decide_eq_false (by omega)
  go_enter Try.func51, Try.ntmps51
  go_upto_region 8 with (first | (go_at_call 78; refine (HT.out _).mono ?_; rintro e w1 ⟨y0, A, c, rfl, hcl0, hb1⟩; obtain ⟨hy, hcl⟩ := hcl0 rfl; clear hcl0; subst hy) | (go_at_call 16; refine (HA.out _).mono ?_; rintro e w2 ⟨rfl, hb2⟩))
  obtain ⟨b, off, rfl, hc, hbl, hcell⟩ := hcl.cells.at_ hk
  clear hcell
  have hkc : k < c := by omega
  have hkc2 : (k : Int) ≤ (c : Int) := by omega
  obtain ⟨W, hW⟩ : ∃ W : World, W = w2 := ⟨_, rfl⟩
  have hbW : Below w1.heap.size w1 W := by rw [hW]; exact below_past hb2
  have hxW : W.heap[w1.heap.size]? = some (.cells #[.int .i64 y0.lsn, .int .i64 y0.kind, .int .i64 y0.link, .slice (some ⟨b, off, none⟩) y0.recs.length c] 71 (0, 0)) := by rw [hW]; exact blk_new hb2
  have hszW : w1.heap.size < W.heap.size := by rw [hW]; have := hb2.size; simp at this; omega
  rw [← hW]
  clear hW hb2
  obtain ⟨c0, c1, c2, c3, f0, f1, f2, f3⟩ := blk4 hxW
  have HX := Lib.hid hxW
  have HCC := Lib.hid (hcl.cells.below hbW)
  clear hcl hxW
  have hblW : b < W.heap.size := by omega
  have HT1 := Lib.hid (show (y0.recs.take k).length = k by rw [List.length_take]; omega)
  have HT2 := Lib.hid (show (y0.recs.drop (k + 1)).length = y0.recs.length - (k + 1) by rw [List.length_drop])
  have hk1 : ((k : Int) + 1).toNat = k + 1 := by omega
  have hk2 : (k : Int) + 1 ≤ (c : Int) := by omega
  have hk3 : (k : Int) + 1 ≤ (y0.recs.length : Int) := by omega
  by_cases hce : c = k + 1
  · subst hce
    go_wp2_with (first | (at_builtin; refine wpList_appN _ rfl (.tmp 26) _ rfl W.heap.size (.slice none 0 0) [] rfl (OwnT.nil _ _) _ k _ (y0.recs.take k) HT1.out rfl (HCC.out.take_ k) (by simp; omega) (Nat.le_refl _) ?_; intro v2 w2 hown2 hg2 hb2; rw [List.nil_append] at hown2; clear hg2; obtain ⟨d0, d1, d2, d3, g0, g1, g2, g3⟩ := blk4 ((hb2.block _ hszW).trans HX.out)) | (at_builtin; refine wpList_appN _ rfl (.tmp 32) _ rfl W.heap.size v2 (y0.recs.take k) rfl hown2 _ 0 _ (y0.recs.drop (k + 1)) (by rw [HT2.out]; omega) rfl (Cells.nil_ _ _ _ (by rw [HT2.out]; omega)) (by rw [HT1.out]; omega) hb2.size ?_; intro v6 w6 hown6 hg6 hb6; clear hg6; have hb6' := hb2.trans hb6; have hown7 : OwnT W.heap.size w6 v6 L := (by rw [HL.out]; exact hown6); clear hown6; obtain ⟨A6, c6, rfl, hoc6, -⟩ := hown7.form; obtain ⟨z0, z1, z2, z3, k0, k1, k2, k3⟩ := blk4 ((hb6'.block _ hszW).trans HX.out)) | (go_at_call 91; refine (HU.out _ _ _ (OwnCells.set hoc6 ⟨w1.heap.size, 3, none⟩ hszW _).cells).mono ?_; rintro e w7 ⟨rfl, hb7⟩))
    go_ret2
    exact ⟨rfl, andThen (Below.setCell (hb1.trans ((hbW.trans (hb6'.mono hbW.size)).mono hb1.size)) hb1.size _) hb7⟩
  · go_wp2_with (first | (at_builtin; refine wpList_appN _ rfl (.tmp 26) _ rfl W.heap.size (.slice none 0 0) [] rfl (OwnT.nil _ _) _ k _ (y0.recs.take k) HT1.out rfl (HCC.out.take_ k) (by simp; omega) (Nat.le_refl _) ?_; intro v2 w2 hown2 hg2 hb2; rw [List.nil_append] at hown2; clear hg2; obtain ⟨d0, d1, d2, d3, g0, g1, g2, g3⟩ := blk4 ((hb2.block _ hszW).trans HX.out)) | (at_builtin; refine wpList_appN _ rfl (.tmp 32) _ rfl W.heap.size v2 (y0.recs.take k) rfl hown2 _ (y0.recs.length - (k + 1)) _ (y0.recs.drop (k + 1)) HT2.out rfl ((HCC.out.keepB hblW hb2).drop_ (k + 1)) (by rw [HT1.out]; omega) hb2.size ?_; intro v6 w6 hown6 hg6 hb6; clear hg6; have hb6' := hb2.trans hb6; have hown7 : OwnT W.heap.size w6 v6 L := (by rw [HL.out]; exact hown6); clear hown6; obtain ⟨A6, c6, rfl, hoc6, -⟩ := hown7.form; obtain ⟨z0, z1, z2, z3, k0, k1, k2, k3⟩ := blk4 ((hb6'.block _ hszW).trans HX.out)) | (go_at_call 91; refine (HU.out _ _ _ (OwnCells.set hoc6 ⟨w1.heap.size, 3, none⟩ hszW _).cells).mono ?_; rintro e w7 ⟨rfl, hb7⟩))
    go_ret2
    exact ⟨rfl, andThen (Below.setCell (hb1.trans ((hbW.trans (hb6'.mono hbW.size)).mono hb1.size)) hb1.size _) hb7⟩
set_option maxRecDepth 100000 in
set_option maxHeartbeats 2000000 in
theorem rpadd_any (p : ByteArray) (i : Int) (r : ByteArray) (hm : p.size ≤ 140737488355328) (w : World) :
    Calls Try.prog 47 #[.string p, .int .i64 i, .string r] w fun e w' => e = .returned (outV (addO p i r)) ∧ Below w.heap.size w w' := by
  have HT := Lib.hid (fun W => rparts_leaf p hm W)
  have HY := Lib.hid (fun W => rmay_any r W)
  change Hid (∀ W, Calls _ _ _ _ fun e w' => e = .returned (.bool (mayB r)) ∧ _) at HY
  have hgood := leafP_good p
  unfold addO
  cases hb : isPg p with
  | false =>
    rw [if_pos rfl]
    rw [hb] at HT
    generalize leafP p = x at HT
    clear hgood hb HY
    go_enter Try.func47, Try.ntmps47
    go_wp2_with (first | (go_at_call 78; refine (HT.out _).mono ?_; rintro e w1 ⟨y0, A, c, rfl, hcl, hb1⟩))
    go_ret2
    exact ⟨rfl, below_past_alloc hb1⟩
  | true =>
    rw [if_neg (by simp)]
    by_cases h1 : i < 0
    · rw [if_pos h1]
      rw [hb] at HT
      generalize leafP p = x at HT
      clear hgood hb HY
      go_enter Try.func47, Try.ntmps47
      go_wp2_with (first | (go_at_call 78; refine (HT.out _).mono ?_; rintro e w1 ⟨y0, A, c, rfl, hcl, hb1⟩; obtain ⟨hy, hco⟩ := hcl rfl; clear hcl; subst hy))
      go_ret2
      exact ⟨rfl, below_past_alloc hb1⟩
    · rw [if_neg h1]
      obtain ⟨k, rfl⟩ := Int.eq_ofNat_of_zero_le (show 0 ≤ i by omega)
      have hk0 : (0 : Int) ≤ (k : Int) := by omega
      clear h1
      rw [show ((k : Int)).toNat = k from rfl]
      cases hy : mayB r with
      | false =>
        rw [if_pos rfl]
        rw [hy] at HY
        rw [hb] at HT
        generalize leafP p = x at HT
        clear hgood hb hy
        go_enter Try.func47, Try.ntmps47
        go_wp2_with (first | (go_at_call 78; refine (HT.out _).mono ?_; rintro e w1 ⟨y0, A, c, rfl, hcl, hb1⟩; obtain ⟨hy, hco⟩ := hcl rfl; clear hcl; subst hy) | (go_at_call 89; refine (HY.out _).mono ?_; rintro e w3 ⟨rfl, rfl⟩))
        go_ret2
        exact ⟨rfl, below_past_alloc hb1⟩
      | true =>
        rw [if_neg (by simp)]
        by_cases hk : k < (leafP p).recs.length
        · have hln := hgood.fine.len
          rw [if_neg (by omega)]
          unfold Pg.insAt
          rw [if_neg (by omega)]
          exact rpadd_in p k r hm hb hk hy w
        · have hpast : Pg.slotAt (leafP p).recs (k : Int) = ⟨#[]⟩ := Pg.slotAt_past (by omega)
          have hins : Pg.insAt (leafP p).recs k r = Pg.putAt (leafP p).recs k r := if_pos (by omega)
          have HQ := Lib.hid (fun W => rpput_any p (k : Int) r hm W)
          have hO : putO p (k : Int) r = (if (512 : Int) < (k : Int) then (⟨#[]⟩, 18) else Pg.fullO (withRecs p (Pg.insAt (leafP p).recs k r))) := by
            unfold putO
            rw [if_neg (by rw [hb]; simp), if_neg (by omega), if_neg (by rw [hpast]; exact fun h => h rfl), if_neg (by rw [hy]; simp), hins]; rfl
          rw [← hO]
          generalize putO p (k : Int) r = o at HQ ⊢
          rw [hb] at HT
          rw [hy] at HY
          generalize leafP p = x at HT hk
          have hkl : (x.recs.length : Int) ≤ (k : Int) := by omega
          clear hgood hb hy hpast hins hO
          go_enter Try.func47, Try.ntmps47
          go_wp2_with (first | (go_at_call 78; refine (HT.out _).mono ?_; rintro e w1 ⟨y0, A, c, rfl, hcl, hb1⟩; obtain ⟨hy, hco⟩ := hcl rfl; clear hcl; subst hy) | (go_at_call 89; refine (HY.out _).mono ?_; rintro e w3 ⟨rfl, rfl⟩) | (go_at_call 43; refine (HQ.out _).mono ?_; rintro e w4 ⟨rfl, hb4⟩))
          go_ret2
          exact ⟨rfl, andThen (below_past_alloc hb1) hb4⟩
set_option maxRecDepth 100000 in
set_option maxHeartbeats 2000000 in
theorem rpdel_any (p : ByteArray) (i : Int) (hm : p.size ≤ 140737488355328) (w : World) :
    Calls Try.prog 51 #[.string p, .int .i64 i] w fun e w' => e = .returned (outV (delO p i)) ∧ Below w.heap.size w w' := by
  have HT := Lib.hid (fun W => rparts_leaf p hm W)
  have HA := Lib.hid (fun W => rget_any_rec p i hm W)
  unfold delO
  cases hb : isPg p with
  | false =>
    rw [if_pos rfl]
    rw [hb] at HT
    generalize leafP p = x at HT
    clear hb HA
    go_enter Try.func51, Try.ntmps51
    go_wp2_with (first | (go_at_call 78; refine (HT.out _).mono ?_; rintro e w1 ⟨y0, A, c, rfl, hcl, hb1⟩))
    go_ret2
    exact ⟨rfl, below_past_alloc hb1⟩
  | true =>
    rw [if_neg (by simp)]
    by_cases h2 : (Pg.slotAt (leafP p).recs i).size = 0
    · rw [if_pos h2]
      rw [hb] at HT
      clear hb
      rw [decide_eq_true h2] at HA
      generalize Pg.slotAt (leafP p).recs i = q at HA
      generalize leafP p = x at HT
      clear h2
      go_enter Try.func51, Try.ntmps51
      go_wp2_with (first | (go_at_call 78; refine (HT.out _).mono ?_; rintro e w1 ⟨y0, A, c, rfl, hcl, hb1⟩; obtain ⟨hy, hco⟩ := hcl rfl; clear hcl; subst hy) | (go_at_call 16; refine (HA.out _).mono ?_; rintro e w2 ⟨rfl, hb2⟩; obtain ⟨c0, c1, c2, c3, f0, f1, f2, f3⟩ := blk4 (blk_new hb2)))
      go_ret2
      exact ⟨rfl, andThen hb1 (below_past hb2)⟩
    · rw [if_neg h2]
      obtain ⟨hi0, hi1⟩ := Pg.slotAt_lt h2
      obtain ⟨k, rfl⟩ := Int.eq_ofNat_of_zero_le hi0
      rw [show ((k : Int)).toNat = k from rfl]
      exact rpdel_in p k hm hb (by omega) h2 w
end Go.Proofs.Ytgbihdlahghonaa
/- The plain laws of pages, on texts. -/
namespace Go.Proofs.Ytgbihdlahghonaa
open Go.RowKit

theorem list_of (l : List UInt8) : (⟨l.toArray⟩ : ByteArray).data.toList = l := rfl
theorem of_list (p : ByteArray) : (⟨p.data.toList.toArray⟩ : ByteArray) = p := by
  apply ByteArray.ext
  rw [Array.toArray_toList]
theorem bytes_eq {p q : ByteArray} (h : p.data.toList = q.data.toList) : p = q := ByteArray.ext (Array.toList_inj.1 h)
theorem isPg_of {p : ByteArray} {x : Pg.Leaf} (h : Pg.right p.data.toList = some x) : isPg p = true ∧ leafP p = x := by
  unfold isPg leafP Pg.leafOf
  rw [h]
  exact ⟨rfl, rfl⟩
theorem right_of_isPg {p : ByteArray} (h : isPg p = true) : Pg.right p.data.toList = some (leafP p) := by
  unfold isPg at h
  unfold leafP Pg.leafOf
  cases hr : Pg.right p.data.toList with
  | none => rw [hr] at h; cases h
  | some x => rfl
theorem size_list (p : ByteArray) : p.data.toList.length = p.size := by simp
/-- A laid page, as a text. -/
def pageB (x : Pg.Leaf) : ByteArray := ⟨(Pg.layL x).toArray⟩
theorem pageB_list (x : Pg.Leaf) : (pageB x).data.toList = Pg.layL x := rfl
theorem pageB_size {x : Pg.Leaf} (hs : Pg.sizeN (Pg.trim x.recs) ≤ 512) : (pageB x).size = 512 := by
  rw [← size_list, pageB_list]; exact Pg.layL_length hs
theorem pageB_is {x : Pg.Leaf} (hx : Pg.Small x) (hs : Pg.sizeN (Pg.trim x.recs) ≤ 512) (he : ∀ r ∈ x.recs, r.size ≤ 400) : isPg (pageB x) = true ∧ leafP (pageB x) = { x with recs := Pg.trim x.recs } :=
  isPg_of (by rw [pageB_list]; exact Pg.right_layL hx hs he)
theorem fullO_pageB {x : Pg.Leaf} (hs : Pg.sizeN (Pg.trim x.recs) ≤ 512) : Pg.fullO x = (pageB x, 0) := Pg.fullO_yes hs
theorem fullO_cases (x : Pg.Leaf) : (Pg.sizeN (Pg.trim x.recs) ≤ 512 ∧ Pg.fullO x = (pageB x, 0)) ∨ (512 < Pg.sizeN (Pg.trim x.recs) ∧ Pg.fullO x = (⟨#[]⟩, 18)) := by
  rcases Nat.lt_or_ge 512 (Pg.sizeN (Pg.trim x.recs)) with h | h
  · exact .inr ⟨h, Pg.fullO_no h⟩
  · exact .inl ⟨h, Pg.fullO_yes h⟩

/-- The sum takes four bytes. -/
theorem putB4 (n : Nat) : (Oct.putB (n : Int) 4).data.toList = Oct.putL (Oct.word n) 4 := Oct.putB_list _ 4 (by omega)
theorem sealT_list (t : ByteArray) : (sealT t).data.toList = Oct.putL (Oct.word (Oct.sumN t.data.toList)) 4 ++ t.data.toList := by
  unfold sealT
  rw [ByteArray.data_append, Array.toList_append, putB4]
theorem extract_list (p : ByteArray) (h : p.size = 512) : (p.extract 4 512).data.toList = p.data.toList.drop 4 := by
  rw [show 512 = 4 + 508 from rfl, extract_eq]
  show (p.data.toList.drop 4).take 508 = _
  exact List.take_of_length_le (by rw [List.length_drop, size_list]; omega)
/-- A page with its sum is the same page, and has its sum. -/
theorem sealB_is {p : ByteArray} (h : isPg p = true) : isPg (sealB p) = true ∧ leafP (sealB p) = leafP p ∧ sealedP (sealB p) = true ∧ (sealB p).size = 512 := by
  have h5 := isPg_size h
  have hl : (sealB p).data.toList = Oct.putL (Oct.word (Oct.sumN (p.data.toList.drop 4))) 4 ++ p.data.toList.drop 4 := by
    unfold sealB
    rw [if_pos h, sealT_list, extract_list p h5]
  have hz : (sealB p).size = 512 := by
    rw [← size_list, hl, List.length_append, Oct.putL_length, List.length_drop, size_list]; omega
  have hd : (sealB p).data.toList.drop 4 = p.data.toList.drop 4 := by rw [hl]; exact List.drop_left' (Oct.putL_length _ 4)
  have hr := Pg.right_sum (q := (sealB p).data.toList) (right_of_isPg h) (by rw [size_list]; exact hz) hd
  obtain ⟨h1, h2⟩ := isPg_of hr
  refine ⟨h1, h2, ?_, hz⟩
  unfold sealedP
  rw [h1, Bool.true_and]
  apply decide_eq_true
  apply bytes_eq
  rw [sealT_list, extract_list _ hz, hd]
  exact hl.symm
end Go.Proofs.Ytgbihdlahghonaa
/- The plain laws of pages: records told slot by slot; what undoes what. -/
namespace Pg
/-- The record of a slot; empty: there is none. -/
def rec_ (rs : List ByteArray) (j : Nat) : ByteArray := (rs[j]?).getD ⟨#[]⟩
theorem rec_past {rs : List ByteArray} {j : Nat} (h : rs.length ≤ j) : rec_ rs j = ⟨#[]⟩ := by
  unfold rec_; rw [List.getElem?_eq_none h]; rfl
theorem rec_in {rs : List ByteArray} {j : Nat} (h : j < rs.length) : rec_ rs j = rs[j] := by
  unfold rec_; rw [List.getElem?_eq_getElem h]; rfl
theorem slotAt_rec (rs : List ByteArray) (k : Nat) : slotAt rs (k : Int) = rec_ rs k := by
  unfold slotAt rec_
  rw [if_neg (by omega)]; rfl
theorem nil_of_size {r : ByteArray} (h : r.size = 0) : r = ⟨#[]⟩ := by
  apply ByteArray.ext
  exact Array.eq_empty_of_size_eq_zero h
theorem trimN_rest (rs : List ByteArray) : ∀ m j, trimN rs m ≤ j → j < m → (rec_ rs j).size = 0 := by
  intro m
  induction m with
  | zero => intro j _ h; omega
  | succ m ih =>
    intro j h1 h2
    unfold trimN at h1
    split at h1
    · rename_i h0
      by_cases hj : j = m
      · rw [hj]; exact h0
      · exact ih j h1 (by omega)
    · omega
theorem trim_rec (rs : List ByteArray) (j : Nat) : rec_ (trim rs) j = rec_ rs j := by
  have hle := trimN_le rs rs.length
  by_cases h : j < trimN rs rs.length
  · unfold rec_ trim
    rw [List.getElem?_take_of_lt h]
  · have h1 : rec_ (trim rs) j = ⟨#[]⟩ := rec_past (by unfold trim; rw [List.length_take]; omega)
    rw [h1]
    by_cases hj : j < rs.length
    · exact (nil_of_size (trimN_rest rs rs.length j (by omega) hj)).symm
    · exact (rec_past (by omega)).symm
theorem tight_ext {rs ss : List ByteArray} (h1 : Tight rs) (h2 : Tight ss) (h : ∀ j, rec_ rs j = rec_ ss j) : rs = ss := by
  have key : ∀ {a b : List ByteArray}, Tight a → (∀ j, rec_ a j = rec_ b j) → a.length ≤ b.length := by
    intro a b ha hab
    rcases tight_last ha with h0 | h0
    · omega
    · rcases Nat.lt_or_ge b.length a.length with hlt | hge
      · exfalso
        apply h0
        have h3 := hab (a.length - 1)
        have h4 : rec_ b (a.length - 1) = ⟨#[]⟩ := rec_past (by omega)
        rw [h4] at h3
        unfold rec_ at h3
        rw [h3]; rfl
      · exact hge
  have hl : rs.length = ss.length := Nat.le_antisymm (key h1 h) (key h2 fun j => (h j).symm)
  apply List.ext_getElem hl
  intro j hj1 hj2
  have := h j
  rwa [rec_in hj1, rec_in hj2] at this
theorem trim_ext {rs ss : List ByteArray} (h : ∀ j, rec_ rs j = rec_ ss j) : trim rs = trim ss :=
  tight_ext (trim_trim rs) (trim_trim ss) fun j => by rw [trim_rec, trim_rec, h]
theorem putAt_rec (rs : List ByteArray) (k : Nat) (r : ByteArray) (j : Nat) : rec_ (putAt rs k r) j = if j = k then r else rec_ rs j := putAt_get rs k r j
theorem insAt_rec (rs : List ByteArray) (k : Nat) (r : ByteArray) (j : Nat) : rec_ (insAt rs k r) j = if j < k then rec_ rs j else if j = k then r else rec_ rs (j - 1) := by
  unfold insAt
  split
  · rename_i h
    rw [putAt_rec]
    by_cases h1 : j = k
    · rw [if_pos h1, if_neg (by omega), if_pos h1]
    · rw [if_neg h1]
      by_cases h2 : j < k
      · rw [if_pos h2]
      · rw [if_neg h2, if_neg h1, rec_past (by omega), rec_past (by omega)]
  · rename_i h
    unfold rec_
    rw [List.append_assoc, List.getElem?_append]
    have hl : (rs.take k).length = k := by rw [List.length_take]; omega
    rw [hl]
    by_cases h2 : j < k
    · rw [if_pos h2, if_pos h2, List.getElem?_take_of_lt h2]
    · rw [if_neg h2, if_neg h2, List.singleton_append]
      by_cases h1 : j = k
      · rw [if_pos h1, h1, Nat.sub_self]; rfl
      · rw [if_neg h1]
        obtain ⟨m, rfl⟩ : ∃ m, j = k + 1 + m := ⟨j - (k + 1), by omega⟩
        rw [show k + 1 + m - k = m + 1 by omega, List.getElem?_cons_succ, List.getElem?_drop, show k + 1 + m - 1 = k + m by omega]
theorem delAt_rec (rs : List ByteArray) (k : Nat) (h : k < rs.length) (j : Nat) : rec_ (delAt rs k) j = if j < k then rec_ rs j else rec_ rs (j + 1) := by
  unfold delAt rec_
  rw [List.getElem?_append]
  have hl : (rs.take k).length = k := by rw [List.length_take]; omega
  rw [hl]
  by_cases h2 : j < k
  · rw [if_pos h2, if_pos h2, List.getElem?_take_of_lt h2]
  · rw [if_neg h2, if_neg h2, List.getElem?_drop, show k + 1 + (j - k) = j + 1 by omega]
theorem freeN_rec (rs : List ByteArray) : (rec_ rs (freeN rs)).size = 0 := by
  induction rs with
  | nil => rfl
  | cons r rs ih =>
    unfold freeN
    split
    · rename_i h; exact h
    · exact ih
end Pg
namespace Go.Proofs.Ytgbihdlahghonaa
open Go.RowKit

/-- What a change that went well has made: a page with these records. -/
structure Made (p q : ByteArray) (rs : List ByteArray) : Prop where
  isPg : isPg q = true
  size : q.size = 512
  lsn : (leafP q).lsn = (leafP p).lsn
  kind : (leafP q).kind = (leafP p).kind
  link : (leafP q).link = (leafP p).link
  rec_ : ∀ j, Pg.rec_ (leafP q).recs j = Pg.rec_ rs j
theorem full_made {p q : ByteArray} {rs : List ByteArray} {e : Int} (he : ∀ r ∈ rs, r.size ≤ 400) (h : Pg.fullO (withRecs p rs) = (q, e)) (h0 : e = 0) : Made p q rs ∧ q = pageB (withRecs p rs) := by
  rcases fullO_cases (withRecs p rs) with ⟨hs, h1⟩ | ⟨hs, h1⟩
  · rw [h1] at h
    injection h with hq _
    obtain ⟨h2, h3⟩ := pageB_is (withRecs_small p rs) hs he
    rw [hq] at h2 h3
    refine ⟨⟨h2, by rw [← hq]; exact pageB_size hs, by rw [h3]; rfl, by rw [h3]; rfl, by rw [h3]; rfl, fun j => ?_⟩, hq.symm⟩
    rw [h3]
    exact Pg.trim_rec rs j
  · rw [h1] at h
    injection h with _ h4
    omega
/-- A page's own bytes, with the sum 0. -/
theorem plain_page {p : ByteArray} (h : isPg p = true) : lsnB p ((leafP p).lsn : Nat) = pageB (leafP p) := by
  have h1 := (leafP_good p).fine.small.1
  unfold lsnB
  rw [if_neg (by rw [h]; simp; omega)]
  rfl
/-- The page of records that are, slot by slot, a page's own, is that page with the sum 0. -/
theorem back_page {p q : ByteArray} {rs : List ByteArray} (hp : isPg p = true) (h1 : (leafP q).lsn = (leafP p).lsn) (h2 : (leafP q).kind = (leafP p).kind) (h3 : (leafP q).link = (leafP p).link) (h : ∀ j, Pg.rec_ rs j = Pg.rec_ (leafP p).recs j) :
    Pg.fullO (withRecs q rs) = (lsnB p ((leafP p).lsn : Nat), 0) := by
  have hg := leafP_good p
  have ht : Pg.trim rs = (leafP p).recs := by rw [Pg.trim_ext h]; exact Pg.trim_of_tight hg.tight
  have hs : Pg.sizeN (Pg.trim (withRecs q rs).recs) ≤ 512 := by show Pg.sizeN (Pg.trim rs) ≤ 512; rw [ht]; exact hg.fits
  rw [plain_page hp, fullO_pageB hs]
  have e : Pg.layL (withRecs q rs) = Pg.layL (leafP p) := by
    unfold Pg.layL
    have e1 : (withRecs q rs).recs = rs := rfl
    rw [e1, ht, Pg.trim_of_tight hg.tight]
    unfold Pg.layR Pg.headL
    rw [show (withRecs q rs).lsn = (leafP p).lsn from h1, show (withRecs q rs).kind = (leafP p).kind from h2, show (withRecs q rs).link = (leafP p).link from h3]
  unfold pageB
  rw [e]
end Go.Proofs.Ytgbihdlahghonaa
/- Pages that are filled with records, one by one. -/
namespace Go.Proofs.Ytgbihdlahghonaa
open Go.RowKit

/-- Parts that are laid as they are. -/
structure Sub (x : Pg.Leaf) : Prop where
  small : Pg.Small x
  each : ∀ r ∈ x.recs, r.size ≠ 0 ∧ r.size ≤ 400
  fits : Pg.sizeN x.recs ≤ 512
theorem tight_of {rs : List ByteArray} (h : ∀ r ∈ rs, r.size ≠ 0) : Pg.Tight rs := fun r hr => h r (List.mem_of_getLast? hr)
theorem Sub.trim {x : Pg.Leaf} (h : Sub x) : Pg.trim x.recs = x.recs := Pg.trim_of_tight (tight_of fun r hr => (h.each r hr).1)
theorem Sub.page {x : Pg.Leaf} (h : Sub x) : isPg (pageB x) = true ∧ leafP (pageB x) = x ∧ (pageB x).size = 512 := by
  have hf := h.fits
  obtain ⟨h1, h2⟩ := pageB_is h.small (by rw [h.trim]; exact hf) (fun r hr => (h.each r hr).2)
  refine ⟨h1, ?_, pageB_size (by rw [h.trim]; exact hf)⟩
  rw [h2, h.trim]
theorem sizeN_take (rs : List ByteArray) (k : Nat) : Pg.sizeN (rs.take k) ≤ Pg.sizeN rs := by
  unfold Pg.sizeN
  have h1 := Pg.sumSizes_take_le rs k
  have h2 : (rs.take k).length ≤ rs.length := by rw [List.length_take]; omega
  omega
theorem Sub.take {x : Pg.Leaf} (h : Sub x) (k : Nat) : Sub { x with recs := x.recs.take k } :=
  ⟨h.small, fun r hr => h.each r (List.mem_of_mem_take hr), Nat.le_trans (sizeN_take _ _) h.fits⟩
theorem Sub.len {x : Pg.Leaf} (h : Sub x) : x.recs.length ≤ 123 := by
  have := h.fits
  unfold Pg.sizeN at this; omega
theorem lsn_page {x : Pg.Leaf} (h : Sub x) {n : Nat} (hn : n < 281474976710656) : lsnB (pageB x) (n : Int) = pageB { x with lsn := n } := by
  obtain ⟨h1, h2, _⟩ := h.page
  unfold lsnB
  rw [if_neg (by rw [h1]; simp; omega), h2]
  rfl
theorem link_page {x : Pg.Leaf} (h : Sub x) {n : Nat} (hn : n < 16777216) : linkB (pageB x) (n : Int) = pageB { x with link := n } := by
  obtain ⟨h1, h2, _⟩ := h.page
  unfold linkB
  rw [if_neg (by rw [h1]; simp; omega), h2]
  rfl
theorem put_page {x : Pg.Leaf} (h : Sub x) {k : Nat} (hk : k < x.recs.length) : putO (pageB { x with recs := x.recs.take k }) (k : Int) x.recs[k] = (pageB { x with recs := x.recs.take (k + 1) }, 0) := by
  obtain ⟨h1, h2, _⟩ := (h.take k).page
  have hlen := h.len
  have hr := h.each _ (List.getElem_mem hk)
  have hl : (x.recs.take k).length = k := by rw [List.length_take]; omega
  unfold putO
  rw [if_neg (by rw [h1]; simp), if_neg (by omega), h2]
  rw [if_neg (by rw [Pg.slotAt_past (by simp only [hl]; omega)]; simp; rfl), if_neg (by unfold mayB; rw [decide_eq_true (by omega)]; simp), if_neg (by omega)]
  have e : Pg.putAt (x.recs.take k) k x.recs[k] = x.recs.take (k + 1) := by
    rw [List.take_succ_eq_append_getElem hk]
    unfold Pg.putAt
    rw [hl, show k + 1 - k = 1 by omega, List.set_append_right _ _ (by omega), hl, Nat.sub_self]
    rfl
  have e2 : withRecs (pageB { x with recs := x.recs.take k }) (x.recs.take (k + 1)) = { x with recs := x.recs.take (k + 1) } := by
    unfold withRecs; rw [h2]
  rw [show ((k : Int)).toNat = k from rfl]
  simp only
  rw [e, e2, fullO_pageB (by rw [(h.take (k + 1)).trim]; exact (h.take (k + 1)).fits)]

/-- The page of the first k records. -/
def upTo (x : Pg.Leaf) (k : Nat) : ByteArray := pageB { x with recs := x.recs.take k }
theorem upTo_size {x : Pg.Leaf} (h : Sub x) (k : Nat) : (upTo x k).size = 512 := (h.take k).page.2.2
theorem upTo_succ {x : Pg.Leaf} (h : Sub x) {k : Nat} (hk : k < x.recs.length) : putO (upTo x k) (k : Int) x.recs[k] = (upTo x (k + 1), 0) := put_page h hk
theorem upTo_all (x : Pg.Leaf) : upTo x x.recs.length = pageB x := by unfold upTo; rw [List.take_length]
theorem upTo_zero {x : Pg.Leaf} (h : Sub x) : linkB (lsnB (newB x.kind) x.lsn) x.link = upTo x 0 ∧ lsnB (newB x.kind) x.lsn = pageB ⟨x.lsn, x.kind, 0, []⟩ ∧ newB x.kind = pageB ⟨0, x.kind, 0, []⟩ := by
  obtain ⟨hs1, hs2, hs3⟩ := h.small
  have s0 : Sub ⟨0, x.kind, 0, []⟩ := ⟨⟨by simp, hs2, by simp⟩, (by intro r hr; cases hr), (show Pg.sizeN [] ≤ 512 by decide)⟩
  have s1 : Sub ⟨x.lsn, x.kind, 0, []⟩ := ⟨⟨hs1, hs2, by simp⟩, (by intro r hr; cases hr), (show Pg.sizeN [] ≤ 512 by decide)⟩
  have e0 : newB x.kind = pageB ⟨0, x.kind, 0, []⟩ := by
    unfold newB
    rw [if_neg (by omega)]; rfl
  have e1 : lsnB (newB x.kind) x.lsn = pageB ⟨x.lsn, x.kind, 0, []⟩ := by rw [e0, lsn_page s0 hs1]
  refine ⟨?_, e1, e0⟩
  rw [e1, link_page s1 hs3]
  rfl
set_option maxRecDepth 100000 in
set_option maxHeartbeats 2000000 in
theorem filled_any (x : Pg.Leaf) (hx : Sub x) (A : Option Addr) (c : Nat) (w : World) (h : Cells w A c x.recs) :
    Calls Try.prog 96 #[.int .i64 x.kind, .int .i64 x.lsn, .int .i64 x.link, .slice A x.recs.length c] w fun e w' => e = .returned (.string (pageB x)) ∧ Below w.heap.size w w' := by
  have HC := Lib.hid h
  obtain ⟨e2, e1, e0⟩ := upTo_zero hx
  have z0 : (newB x.kind).size = 512 := by rw [e0]; exact pageB_size (show Pg.sizeN (Pg.trim []) ≤ 512 by decide)
  have z1 : (lsnB (newB x.kind) x.lsn).size = 512 := by rw [e1]; exact pageB_size (show Pg.sizeN (Pg.trim []) ≤ 512 by decide)
  have HN := Lib.hid (fun W => new_any x.kind W)
  have HL := Lib.hid (fun W => setlsn_any (newB x.kind) x.lsn (by omega) W)
  have HK := Lib.hid (fun W => setlink_any (lsnB (newB x.kind) x.lsn) x.link (by omega) W)
  rw [e2] at HK
  have HP := Lib.hid (fun k (hk : k < x.recs.length) W => (upTo_succ hx hk) ▸ pput_any (upTo x k) k x.recs[k] (by rw [upTo_size hx]; omega) W)
  have hall := upTo_all x
  have HA := Lib.hid hall
  have hlen := hx.len
  clear h e2 e1 e0 z0 z1 hall
  generalize newB x.kind = q0 at HN HL HK
  generalize lsnB q0 x.lsn = q1 at HL HK
  generalize upTo x = f at HK HP HA
  obtain ⟨P, hP⟩ : ∃ P, P = pageB x := ⟨_, rfl⟩
  rw [← hP] at HA ⊢
  clear hP hx
  obtain ⟨lsn, kind, link, rs⟩ := x
  simp only at HN HL HK HP HA HC hlen ⊢
  go_enter Try.func96, Try.ntmps96
  go_wp2_with (first | (go_at_call 37; refine (HN.out _).mono ?_; rintro e w1 ⟨rfl, hb1⟩) | (go_at_call 39; refine (HL.out _).mono ?_; rintro e w2 ⟨rfl, hb2⟩) | (go_at_call 41; refine (HK.out _).mono ?_; rintro e w3 ⟨rfl, hb3⟩))
  have HB := Lib.hid (andThen (andThen hb1 hb2) hb3)
  clear hb1 hb2 hb3 HN HL HK
  go_loopw [9, 20] (fun p i wr => ∃ k : Nat, k ≤ rs.length ∧ i = .int .i64 k ∧ p = .string (f k) ∧ Below w.heap.size w wr) (fun _ i _ => rs.length - (intOf i).toNat)
  case atStart => exact ⟨0, Nat.zero_le _, rfl, rfl, HB.out⟩
  case round =>
    obtain ⟨k, hk, rfl, rfl, hb⟩ := hrel
    by_cases hlt : k < rs.length
    · obtain ⟨b, off, rfl, hc, hbl, hcell⟩ := (HC.out.below hb).at_ hlt
      have HPk := Lib.hid (fun W => HP.out k hlt W)
      generalize rs[k] = r at hcell HPk
      go_wp2_with (go_at_call 35; refine (HPk.out _).mono ?_; rintro e w4 ⟨rfl, hb4⟩; unfold outV)
      go_roundw
      case rel => exact ⟨k + 1, by omega, by go_num, rfl, andThen hb hb4⟩
      case measure => simp [intOf]; omega
    · obtain rfl : k = rs.length := by omega
      go_wp2_with fail
      go_ret
      exact ⟨by rw [← HA.out]; rfl, hb⟩
end Go.Proofs.Ytgbihdlahghonaa
