/- The walks over the reference of package page: Add, Del. -/
import Derived.Test.YtgbihdlahghonaaPageY
namespace Go.Proofs.Ytgbihdlahghonaa
open Go.RowKit

set_option maxRecDepth 100000 in
set_option maxHeartbeats 2000000 in
theorem rpadd_in (p : ByteArray) (k : Nat) (r : ByteArray) (hm : p.size ≤ 1048576) (hb : isPg p = true) (hk : k < (leafP p).recs.length) (hr : mayB r = true) (w : World) :
    Calls Try.prog 47 #[.string p, .int .i64 (k : Int), .string r] w fun e w' => e = .returned (outV (Pg.fullO (withRecs p ((leafP p).recs.take k ++ [r] ++ (leafP p).recs.drop k)))) ∧ Below w.heap.size w w' := by
  have HT := Lib.hid (fun W => rparts_leaf p hm W)
  rw [hb] at HT
  have hgood := leafP_good p
  have hln := hgood.fine.len
  have hsm := hgood.fine.sum
  have HY := Lib.hid (fun W => rmay_any r W)
  change Hid (∀ W, Calls _ _ _ _ fun e w' => e = .returned (.bool (mayB r)) ∧ _) at HY
  rw [hr] at HY
  obtain ⟨hr1, hr2⟩ := mayB_yes hr
  have hsz : Pg.sizeN ((leafP p).recs.take k ++ [r] ++ (leafP p).recs.drop k) ≤ 1099511627776 := by
    have h1 := Pg.insAt_sum (leafP p).recs k r
    have h2 := Pg.insAt_length (leafP p).recs k r
    unfold Pg.insAt at h1 h2
    rw [if_neg (by omega)] at h1 h2
    unfold Pg.sizeN; omega
  have HU := Lib.hid (fun A c W hW => laid_any (withRecs p ((leafP p).recs.take k ++ [r] ++ (leafP p).recs.drop k)) A c (withRecs_small p _) hsz (.inr ((Pg.trim_tight _).2 (by have h3 := Pg.insAt_tight hgood.tight k (r := r) (by omega); unfold Pg.insAt at h3; rw [if_neg (by omega)] at h3; exact h3))) W hW)
  generalize Pg.fullO (withRecs p ((leafP p).recs.take k ++ [r] ++ (leafP p).recs.drop k)) = o at HU ⊢
  change Hid (∀ A c W, Cells W A c ((leafP p).recs.take k ++ [r] ++ (leafP p).recs.drop k) → Calls _ _ #[.agg #[.int .i64 (leafP p).lsn, .int .i64 (leafP p).kind, .int .i64 (leafP p).link, .slice A ((leafP p).recs.take k ++ [r] ++ (leafP p).recs.drop k).length c]] _ _) at HU
  clear hsz hsm hgood hb hr hr1 hr2
  generalize leafP p = x at HT HU hln hk
  obtain ⟨L, hL⟩ : ∃ L, L = x.recs.take k ++ [r] ++ x.recs.drop k := ⟨_, rfl⟩
  rw [← hL] at HU
  have HL := Lib.hid hL
  clear hL
  have hk5 : (k : Int) ≤ 512 := by omega
  have hk0 : (0 : Int) ≤ (k : Int) := by omega
  have hkl : (k : Int) < (x.recs.length : Int) := by omega
  have hkl2 : decide (x.recs.length ≤ k) = false := decide_eq_false (by omega)
  go_enter Try.func47, Try.ntmps47
  go_upto_region 7 with (first | (go_at_call 78; refine (HT.out _).mono ?_; rintro e w1 ⟨y0, A, c, rfl, hcl0, hb1⟩; obtain ⟨hy, hcl⟩ := hcl0 rfl; clear hcl0; subst hy) | (go_at_call 89; refine (HY.out _).mono ?_; rintro e w3 ⟨rfl, rfl⟩))
  obtain ⟨b, off, rfl, hc, hbl, hcell⟩ := hcl.cells.at_ hk
  clear hcell
  have hkc : k < c := by omega
  have hkc2 : (k : Int) ≤ (c : Int) := by omega
  obtain ⟨W, hW⟩ : ∃ W, W = w1.alloc (.cells #[.int .i64 y0.lsn, .int .i64 y0.kind, .int .i64 y0.link, .slice (some ⟨b, off, none⟩) y0.recs.length c] 71 (0, 0)) := ⟨_, rfl⟩
  have hbW : Below w1.heap.size w1 W := by rw [hW]; exact (Below.refl _ _).alloc (Nat.le_refl _) _
  have hxW : W.heap[w1.heap.size]? = some (.cells #[.int .i64 y0.lsn, .int .i64 y0.kind, .int .i64 y0.link, .slice (some ⟨b, off, none⟩) y0.recs.length c] 71 (0, 0)) := by rw [hW]; exact heap_alloc_new w1 _
  have hszW : w1.heap.size < W.heap.size := by rw [hW]; simp
  rw [← hW]
  clear hW
  obtain ⟨c0, c1, c2, c3, f0, f1, f2, f3⟩ := blk4 hxW
  have HX := Lib.hid hxW
  have HCC := Lib.hid (hcl.cells.below hbW)
  clear hcl hxW
  have hblW : b < W.heap.size := by omega
  have HT1 := Lib.hid (show (y0.recs.take k).length = k by rw [List.length_take]; omega)
  have HT2 := Lib.hid (show (y0.recs.drop k).length = y0.recs.length - k by rw [List.length_drop])
  go_wp2_with (first | (at_builtin; refine wpList_appN _ rfl (.tmp 38) _ rfl W.heap.size (.slice none 0 0) [] rfl (OwnT.nil _ _) _ k _ (y0.recs.take k) HT1.out rfl (HCC.out.take_ k) (by simp; omega) (Nat.le_refl _) ?_; intro v2 w2 hown2 hg2 hb2; rw [List.nil_append] at hown2; clear hg2; obtain ⟨d0, d1, d2, d3, g0, g1, g2, g3⟩ := blk4 ((hb2.block _ hszW).trans HX.out)) | (at_builtin; refine wpList_appN _ rfl (.tmp 44) _ rfl W.heap.size v2 (y0.recs.take k) rfl (hown2.below ((Below.refl _ _).alloc (Nat.le_refl _) _)) _ 1 _ [r] rfl rfl (cells_one w2 _) (by rw [HT1.out]; omega) (by have h1 := hb2.size; simp; omega) ?_; intro v4 w4 hown4 hg4 hb4; clear hg4; have hb4' := (hb2.trans (((Below.refl _ _).alloc hb2.size (.cells #[.string r] 9)).trans hb4)); obtain ⟨x0, x1, x2, x3, m0, m1, m2, m3⟩ := blk4 ((hb4'.block _ hszW).trans HX.out)) | (at_builtin; refine wpList_appN _ rfl (.tmp 48) _ rfl W.heap.size v4 (y0.recs.take k ++ [r]) rfl hown4 _ (y0.recs.length - k) _ (y0.recs.drop k) HT2.out rfl ((HCC.out.keepB hblW hb4').drop_ k) (by rw [List.length_append, HT1.out, List.length_singleton]; omega) hb4'.size ?_; intro v6 w6 hown6 hg6 hb6; clear hg6; have hb6' := hb4'.trans hb6; rw [← HL.out] at hown6; obtain ⟨A6, c6, rfl, hoc6, -⟩ := hown6.form; obtain ⟨z0, z1, z2, z3, k0, k1, k2, k3⟩ := blk4 ((hb6'.block _ hszW).trans HX.out)) | (go_at_call 91; refine (HU.out _ _ _ (OwnCells.set hoc6 ⟨w1.heap.size, 3, none⟩ hszW _).cells).mono ?_; rintro e w7 ⟨rfl, hb7⟩))
  go_ret2
  exact ⟨rfl, andThen (Below.setCell (hb1.trans ((hbW.trans (hb6'.mono hbW.size)).mono hb1.size)) hb1.size _) hb7⟩
set_option maxRecDepth 100000 in
set_option maxHeartbeats 2000000 in
theorem rpdel_in (p : ByteArray) (k : Nat) (hm : p.size ≤ 1048576) (hb : isPg p = true) (hk : k < (leafP p).recs.length) (hs : ¬ (Pg.slotAt (leafP p).recs (k : Int)).size = 0) (w : World) :
    Calls Try.prog 51 #[.string p, .int .i64 (k : Int)] w fun e w' => e = .returned (outV (Pg.fullO (withRecs p (Pg.delAt (leafP p).recs k)))) ∧ Below w.heap.size w w' := by
  have HT := Lib.hid (fun W => rparts_leaf p hm W)
  rw [hb] at HT
  have hgood := leafP_good p
  have hln := hgood.fine.len
  have hsm := hgood.fine.sum
  have hsz : Pg.sizeN (Pg.delAt (leafP p).recs k) ≤ 1099511627776 := Nat.le_trans (Pg.delAt_size hk) (Nat.le_trans hgood.fits (by omega))
  have HU := Lib.hid (fun A c W hW => laid_any (withRecs p (Pg.delAt (leafP p).recs k)) A c (withRecs_small p _) hsz (.inl (Nat.le_trans (Pg.delAt_size hk) hgood.fits)) W hW)
  generalize Pg.fullO (withRecs p (Pg.delAt (leafP p).recs k)) = o at HU ⊢
  change Hid (∀ A c W, Cells W A c (Pg.delAt (leafP p).recs k) → Calls _ _ #[.agg #[.int .i64 (leafP p).lsn, .int .i64 (leafP p).kind, .int .i64 (leafP p).link, .slice A (Pg.delAt (leafP p).recs k).length c]] _ _) at HU
  have HA := Lib.hid (fun W => rget_any_rec p (k : Int) hm W)
  rw [decide_eq_false hs] at HA
  generalize Pg.slotAt (leafP p).recs (k : Int) = q at HA
  clear hsz hsm hgood hb hs
  generalize leafP p = x at HT HU hln hk
  obtain ⟨L, hL⟩ : ∃ L, L = Pg.delAt x.recs k := ⟨_, rfl⟩
  rw [← hL] at HU
  have HL := Lib.hid hL
  clear hL
  have hk5 : (k : Int) ≤ 512 := by omega
  have hk0 : (0 : Int) ≤ (k : Int) := by omega
  have hkl : (k : Int) < (x.recs.length : Int) := by omega
  have hkl2 : decide (x.recs.length ≤ k) = false := decide_eq_false (by omega)
  go_enter Try.func51, Try.ntmps51
  go_upto_region 8 with (first | (go_at_call 78; refine (HT.out _).mono ?_; rintro e w1 ⟨y0, A, c, rfl, hcl0, hb1⟩; obtain ⟨hy, hcl⟩ := hcl0 rfl; clear hcl0; subst hy) | (go_at_call 16; refine (HA.out _).mono ?_; rintro e w2 ⟨rfl, hb2⟩))
  obtain ⟨b, off, rfl, hc, hbl, hcell⟩ := hcl.cells.at_ hk
  clear hcell
  have hkc : k < c := by omega
  have hkc2 : (k : Int) ≤ (c : Int) := by omega
  obtain ⟨W, hW⟩ : ∃ W : World, W = w2 := ⟨_, rfl⟩
  have hbW : Below w1.heap.size w1 W := by rw [hW]; exact below_past hb2
  have hxW : W.heap[w1.heap.size]? = some (.cells #[.int .i64 y0.lsn, .int .i64 y0.kind, .int .i64 y0.link, .slice (some ⟨b, off, none⟩) y0.recs.length c] 71 (0, 0)) := by rw [hW]; exact blk_new hb2
  have hszW : w1.heap.size < W.heap.size := by rw [hW]; have := hb2.size; simp at this; omega
  rw [← hW]
  clear hW hb2
  obtain ⟨c0, c1, c2, c3, f0, f1, f2, f3⟩ := blk4 hxW
  have HX := Lib.hid hxW
  have HCC := Lib.hid (hcl.cells.below hbW)
  clear hcl hxW
  have hblW : b < W.heap.size := by omega
  have HT1 := Lib.hid (show (y0.recs.take k).length = k by rw [List.length_take]; omega)
  have HT2 := Lib.hid (show (y0.recs.drop (k + 1)).length = y0.recs.length - (k + 1) by rw [List.length_drop])
  have hk1 : ((k : Int) + 1).toNat = k + 1 := by omega
  have hk2 : (k : Int) + 1 ≤ (c : Int) := by omega
  have hk3 : (k : Int) + 1 ≤ (y0.recs.length : Int) := by omega
  by_cases hce : c = k + 1
  · subst hce
    go_wp2_with (first | (at_builtin; refine wpList_appN _ rfl (.tmp 26) _ rfl W.heap.size (.slice none 0 0) [] rfl (OwnT.nil _ _) _ k _ (y0.recs.take k) HT1.out rfl (HCC.out.take_ k) (by simp; omega) (Nat.le_refl _) ?_; intro v2 w2 hown2 hg2 hb2; rw [List.nil_append] at hown2; clear hg2; obtain ⟨d0, d1, d2, d3, g0, g1, g2, g3⟩ := blk4 ((hb2.block _ hszW).trans HX.out)) | (at_builtin; refine wpList_appN _ rfl (.tmp 32) _ rfl W.heap.size v2 (y0.recs.take k) rfl hown2 _ 0 _ (y0.recs.drop (k + 1)) (by rw [HT2.out]; omega) rfl (Cells.nil_ _ _ _ (by rw [HT2.out]; omega)) (by rw [HT1.out]; omega) hb2.size ?_; intro v6 w6 hown6 hg6 hb6; clear hg6; have hb6' := hb2.trans hb6; have hown7 : OwnT W.heap.size w6 v6 L := (by rw [HL.out]; exact hown6); clear hown6; obtain ⟨A6, c6, rfl, hoc6, -⟩ := hown7.form; obtain ⟨z0, z1, z2, z3, k0, k1, k2, k3⟩ := blk4 ((hb6'.block _ hszW).trans HX.out)) | (go_at_call 91; refine (HU.out _ _ _ (OwnCells.set hoc6 ⟨w1.heap.size, 3, none⟩ hszW _).cells).mono ?_; rintro e w7 ⟨rfl, hb7⟩))
    go_ret2
    exact ⟨rfl, andThen (Below.setCell (hb1.trans ((hbW.trans (hb6'.mono hbW.size)).mono hb1.size)) hb1.size _) hb7⟩
  · go_wp2_with (first | (at_builtin; refine wpList_appN _ rfl (.tmp 26) _ rfl W.heap.size (.slice none 0 0) [] rfl (OwnT.nil _ _) _ k _ (y0.recs.take k) HT1.out rfl (HCC.out.take_ k) (by simp; omega) (Nat.le_refl _) ?_; intro v2 w2 hown2 hg2 hb2; rw [List.nil_append] at hown2; clear hg2; obtain ⟨d0, d1, d2, d3, g0, g1, g2, g3⟩ := blk4 ((hb2.block _ hszW).trans HX.out)) | (at_builtin; refine wpList_appN _ rfl (.tmp 32) _ rfl W.heap.size v2 (y0.recs.take k) rfl hown2 _ (y0.recs.length - (k + 1)) _ (y0.recs.drop (k + 1)) HT2.out rfl ((HCC.out.keepB hblW hb2).drop_ (k + 1)) (by rw [HT1.out]; omega) hb2.size ?_; intro v6 w6 hown6 hg6 hb6; clear hg6; have hb6' := hb2.trans hb6; have hown7 : OwnT W.heap.size w6 v6 L := (by rw [HL.out]; exact hown6); clear hown6; obtain ⟨A6, c6, rfl, hoc6, -⟩ := hown7.form; obtain ⟨z0, z1, z2, z3, k0, k1, k2, k3⟩ := blk4 ((hb6'.block _ hszW).trans HX.out)) | (go_at_call 91; refine (HU.out _ _ _ (OwnCells.set hoc6 ⟨w1.heap.size, 3, none⟩ hszW _).cells).mono ?_; rintro e w7 ⟨rfl, hb7⟩))
    go_ret2
    exact ⟨rfl, andThen (Below.setCell (hb1.trans ((hbW.trans (hb6'.mono hbW.size)).mono hb1.size)) hb1.size _) hb7⟩
set_option maxRecDepth 100000 in
set_option maxHeartbeats 2000000 in
theorem rpadd_any (p : ByteArray) (i : Int) (r : ByteArray) (hm : p.size ≤ 1048576) (w : World) :
    Calls Try.prog 47 #[.string p, .int .i64 i, .string r] w fun e w' => e = .returned (outV (addO p i r)) ∧ Below w.heap.size w w' := by
  have HT := Lib.hid (fun W => rparts_leaf p hm W)
  have HY := Lib.hid (fun W => rmay_any r W)
  change Hid (∀ W, Calls _ _ _ _ fun e w' => e = .returned (.bool (mayB r)) ∧ _) at HY
  have hgood := leafP_good p
  unfold addO
  cases hb : isPg p with
  | false =>
    rw [if_pos rfl]
    rw [hb] at HT
    generalize leafP p = x at HT
    clear hgood hb HY
    go_enter Try.func47, Try.ntmps47
    go_wp2_with (first | (go_at_call 78; refine (HT.out _).mono ?_; rintro e w1 ⟨y0, A, c, rfl, hcl, hb1⟩))
    go_ret2
    exact ⟨rfl, below_past_alloc hb1⟩
  | true =>
    rw [if_neg (by simp)]
    by_cases h1 : i < 0
    · rw [if_pos h1]
      rw [hb] at HT
      generalize leafP p = x at HT
      clear hgood hb HY
      go_enter Try.func47, Try.ntmps47
      go_wp2_with (first | (go_at_call 78; refine (HT.out _).mono ?_; rintro e w1 ⟨y0, A, c, rfl, hcl, hb1⟩; obtain ⟨hy, hco⟩ := hcl rfl; clear hcl; subst hy))
      go_ret2
      exact ⟨rfl, below_past_alloc hb1⟩
    · rw [if_neg h1]
      obtain ⟨k, rfl⟩ := Int.eq_ofNat_of_zero_le (show 0 ≤ i by omega)
      have hk0 : (0 : Int) ≤ (k : Int) := by omega
      clear h1
      rw [show ((k : Int)).toNat = k from rfl]
      cases hy : mayB r with
      | false =>
        rw [if_pos rfl]
        rw [hy] at HY
        rw [hb] at HT
        generalize leafP p = x at HT
        clear hgood hb hy
        go_enter Try.func47, Try.ntmps47
        go_wp2_with (first | (go_at_call 78; refine (HT.out _).mono ?_; rintro e w1 ⟨y0, A, c, rfl, hcl, hb1⟩; obtain ⟨hy, hco⟩ := hcl rfl; clear hcl; subst hy) | (go_at_call 89; refine (HY.out _).mono ?_; rintro e w3 ⟨rfl, rfl⟩))
        go_ret2
        exact ⟨rfl, below_past_alloc hb1⟩
      | true =>
        rw [if_neg (by simp)]
        by_cases hk : k < (leafP p).recs.length
        · have hln := hgood.fine.len
          rw [if_neg (by omega)]
          unfold Pg.insAt
          rw [if_neg (by omega)]
          exact rpadd_in p k r hm hb hk hy w
        · have hpast : Pg.slotAt (leafP p).recs (k : Int) = ⟨#[]⟩ := Pg.slotAt_past (by omega)
          have hins : Pg.insAt (leafP p).recs k r = Pg.putAt (leafP p).recs k r := if_pos (by omega)
          have HQ := Lib.hid (fun W => rpput_any p (k : Int) r hm W)
          have hO : putO p (k : Int) r = (if (512 : Int) < (k : Int) then (⟨#[]⟩, 18) else Pg.fullO (withRecs p (Pg.insAt (leafP p).recs k r))) := by
            unfold putO
            rw [if_neg (by rw [hb]; simp), if_neg (by omega), if_neg (by rw [hpast]; exact fun h => h rfl), if_neg (by rw [hy]; simp), hins]; rfl
          rw [← hO]
          generalize putO p (k : Int) r = o at HQ ⊢
          rw [hb] at HT
          rw [hy] at HY
          generalize leafP p = x at HT hk
          have hkl : (x.recs.length : Int) ≤ (k : Int) := by omega
          clear hgood hb hy hpast hins hO
          go_enter Try.func47, Try.ntmps47
          go_wp2_with (first | (go_at_call 78; refine (HT.out _).mono ?_; rintro e w1 ⟨y0, A, c, rfl, hcl, hb1⟩; obtain ⟨hy, hco⟩ := hcl rfl; clear hcl; subst hy) | (go_at_call 89; refine (HY.out _).mono ?_; rintro e w3 ⟨rfl, rfl⟩) | (go_at_call 43; refine (HQ.out _).mono ?_; rintro e w4 ⟨rfl, hb4⟩))
          go_ret2
          exact ⟨rfl, andThen (below_past_alloc hb1) hb4⟩
set_option maxRecDepth 100000 in
set_option maxHeartbeats 2000000 in
theorem rpdel_any (p : ByteArray) (i : Int) (hm : p.size ≤ 1048576) (w : World) :
    Calls Try.prog 51 #[.string p, .int .i64 i] w fun e w' => e = .returned (outV (delO p i)) ∧ Below w.heap.size w w' := by
  have HT := Lib.hid (fun W => rparts_leaf p hm W)
  have HA := Lib.hid (fun W => rget_any_rec p i hm W)
  unfold delO
  cases hb : isPg p with
  | false =>
    rw [if_pos rfl]
    rw [hb] at HT
    generalize leafP p = x at HT
    clear hb HA
    go_enter Try.func51, Try.ntmps51
    go_wp2_with (first | (go_at_call 78; refine (HT.out _).mono ?_; rintro e w1 ⟨y0, A, c, rfl, hcl, hb1⟩))
    go_ret2
    exact ⟨rfl, below_past_alloc hb1⟩
  | true =>
    rw [if_neg (by simp)]
    by_cases h2 : (Pg.slotAt (leafP p).recs i).size = 0
    · rw [if_pos h2]
      rw [hb] at HT
      clear hb
      rw [decide_eq_true h2] at HA
      generalize Pg.slotAt (leafP p).recs i = q at HA
      generalize leafP p = x at HT
      clear h2
      go_enter Try.func51, Try.ntmps51
      go_wp2_with (first | (go_at_call 78; refine (HT.out _).mono ?_; rintro e w1 ⟨y0, A, c, rfl, hcl, hb1⟩; obtain ⟨hy, hco⟩ := hcl rfl; clear hcl; subst hy) | (go_at_call 16; refine (HA.out _).mono ?_; rintro e w2 ⟨rfl, hb2⟩; obtain ⟨c0, c1, c2, c3, f0, f1, f2, f3⟩ := blk4 (blk_new hb2)))
      go_ret2
      exact ⟨rfl, andThen hb1 (below_past hb2)⟩
    · rw [if_neg h2]
      obtain ⟨hi0, hi1⟩ := Pg.slotAt_lt h2
      obtain ⟨k, rfl⟩ := Int.eq_ofNat_of_zero_le hi0
      rw [show ((k : Int)).toNat = k from rfl]
      exact rpdel_in p k hm hb (by omega) h2 w
end Go.Proofs.Ytgbihdlahghonaa
