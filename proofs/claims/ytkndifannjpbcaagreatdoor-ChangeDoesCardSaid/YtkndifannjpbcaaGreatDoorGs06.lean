/- The walks over package page: Add, Del. -/
import Derived.Test.YtkndifannjpbcaaGreatDoorGs05
import Derived.Lib.AtoiAll
import Derived.Lib.ItoaMem
import Derived.Lib.ItoaLen
namespace Go.Proofs.YtkndifannjpbcaaGreatDoor
open Go.RowKit

theorem Cells.keepB {w w' : World} {B b off c : Nat} {rs : List ByteArray} (h : Cells w (some ⟨b, off, none⟩) c rs) (hlt : b < B) (hb : Below B w w') : Cells w' (some ⟨b, off, none⟩) c rs := fun h0 => by
  obtain ⟨b', off', hA, hc, hl, hcell⟩ := h h0
  injection hA with hA
  injection hA with hA1 hA2
  subst hA1
  subst hA2
  refine ⟨b, off, rfl, hc, Nat.lt_of_lt_of_le hl hb.size, fun j hj => ?_⟩
  rw [hb.cell (p := ⟨b, off + j, none⟩) hlt]; exact hcell j hj
set_option maxRecDepth 100000 in
set_option maxHeartbeats 2000000 in
theorem padd_in (p : ByteArray) (k : Nat) (r : ByteArray) (hm : p.size ≤ 140737488355328) (hb : isPg p = true) (hk : k < (leafP p).recs.length) (hr : mayB r = true) (w : World) :
    Calls Tryz.prog 24 #[.string p, .int .i64 (k : Int), .string r] w fun e w' => e = .returned (outV (Pg.fullO (withRecs p ((leafP p).recs.take k ++ [r] ++ (leafP p).recs.drop k)))) ∧ Below w.heap.size w w' := by
  have HT := Lib.hid (fun W => take_leaf p hm W)
  rw [hb] at HT
  have hgood := leafP_good p
  have hln := hgood.fine.len
  have hsm := hgood.fine.sum
  have HY := Lib.hid (fun W => may_any r W)
  change Hid (∀ W, Calls _ _ _ _ fun e w' => e = .returned (.bool (mayB r)) ∧ _) at HY
  rw [hr] at HY
  obtain ⟨hr1, hr2⟩ := mayB_yes hr
  have hsz : Pg.sizeN ((leafP p).recs.take k ++ [r] ++ (leafP p).recs.drop k) ≤ 1099511627776 := by
    have h1 := Pg.insAt_sum (leafP p).recs k r
    have h2 := Pg.insAt_length (leafP p).recs k r
    unfold Pg.insAt at h1 h2
    rw [if_neg (by omega)] at h1 h2
    unfold Pg.sizeN; omega
  have HU := Lib.hid (fun A c W hW => full_any (withRecs p ((leafP p).recs.take k ++ [r] ++ (leafP p).recs.drop k)) A c (withRecs_small p _) hsz W hW)
  generalize Pg.fullO (withRecs p ((leafP p).recs.take k ++ [r] ++ (leafP p).recs.drop k)) = o at HU ⊢
  change Hid (∀ A c W, Cells W A c ((leafP p).recs.take k ++ [r] ++ (leafP p).recs.drop k) → Calls _ _ #[.agg #[.int .i64 (leafP p).lsn, .int .i64 (leafP p).kind, .int .i64 (leafP p).link, .slice A ((leafP p).recs.take k ++ [r] ++ (leafP p).recs.drop k).length c]] _ _) at HU
  clear hsz hsm hgood hb hr hr1 hr2
  generalize leafP p = x at HT HU hln hk
  obtain ⟨L, hL⟩ : ∃ L, L = x.recs.take k ++ [r] ++ x.recs.drop k := ⟨_, rfl⟩
  rw [← hL] at HU
  have HL := Lib.hid hL
  clear hL
  have hk5 : (k : Int) ≤ 512 := by omega
  have hk0 : (0 : Int) ≤ (k : Int) := by omega
  have hkl : (k : Int) < (x.recs.length : Int) := by omega
  have hkl2 : decide (x.recs.length ≤ k) = false := decide_eq_false (by omega)
  go_enter Tryz.func24, Tryz.ntmps24
  go_upto_region 8 with (first | (go_at_call 19; refine (HT.out _).mono ?_; rintro e w1 ⟨A, c, rfl, hcl, hb1⟩) | (go_at_call 49; refine (HY.out _).mono ?_; rintro e w3 ⟨rfl, rfl⟩))
  obtain ⟨b, off, rfl, hc, hbl, hcell⟩ := hcl.cells.at_ hk
  clear hcell
  have hkc : k < c := by omega
  have hkc2 : (k : Int) ≤ (c : Int) := by omega
  obtain ⟨W, hW⟩ : ∃ W, W = w1.alloc (.cells #[.int .i64 x.lsn, .int .i64 x.kind, .int .i64 x.link, .slice (some ⟨b, off, none⟩) x.recs.length c] 38 (0, 0)) := ⟨_, rfl⟩
  have hbW : Below w1.heap.size w1 W := by rw [hW]; exact (Below.refl _ _).alloc (Nat.le_refl _) _
  have hxW : W.heap[w1.heap.size]? = some (.cells #[.int .i64 x.lsn, .int .i64 x.kind, .int .i64 x.link, .slice (some ⟨b, off, none⟩) x.recs.length c] 38 (0, 0)) := by rw [hW]; exact heap_alloc_new w1 _
  have hszW : w1.heap.size < W.heap.size := by rw [hW]; simp
  rw [← hW]
  clear hW
  obtain ⟨c0, c1, c2, c3, f0, f1, f2, f3⟩ := blk4 hxW
  have HX := Lib.hid hxW
  have HCC := Lib.hid (hcl.cells.below hbW)
  clear hcl hxW
  have hblW : b < W.heap.size := by omega
  have HT1 := Lib.hid (show (x.recs.take k).length = k by rw [List.length_take]; omega)
  have HT2 := Lib.hid (show (x.recs.drop k).length = x.recs.length - k by rw [List.length_drop])
  go_wp2_with (first | (at_builtin; refine wpList_appN _ rfl (.const (.slice none 0 0)) _ rfl W.heap.size (.slice none 0 0) [] rfl (OwnT.nil _ _) _ k _ (x.recs.take k) HT1.out rfl (HCC.out.take_ k) (by simp; omega) (Nat.le_refl _) ?_; intro v2 w2 hown2 hg2 hb2; rw [List.nil_append] at hown2; clear hg2; obtain ⟨d0, d1, d2, d3, g0, g1, g2, g3⟩ := blk4 ((hb2.block _ hszW).trans HX.out)) | (at_builtin; refine wpList_appN _ rfl (.tmp 46) _ rfl W.heap.size v2 (x.recs.take k) rfl (hown2.below ((Below.refl _ _).alloc (Nat.le_refl _) _)) _ 1 _ [r] rfl rfl (cells_one w2 _) (by rw [HT1.out]; omega) (by have h1 := hb2.size; simp; omega) ?_; intro v4 w4 hown4 hg4 hb4; clear hg4; have hb4' := (hb2.trans (((Below.refl _ _).alloc hb2.size (.cells #[.string r] 9)).trans hb4)); obtain ⟨x0, x1, x2, x3, m0, m1, m2, m3⟩ := blk4 ((hb4'.block _ hszW).trans HX.out)) | (at_builtin; refine wpList_appN _ rfl (.tmp 50) _ rfl W.heap.size v4 (x.recs.take k ++ [r]) rfl hown4 _ (x.recs.length - k) _ (x.recs.drop k) HT2.out rfl ((HCC.out.keepB hblW hb4').drop_ k) (by rw [List.length_append, HT1.out, List.length_singleton]; omega) hb4'.size ?_; intro v6 w6 hown6 hg6 hb6; clear hg6; have hb6' := hb4'.trans hb6; rw [← HL.out] at hown6; obtain ⟨A6, c6, rfl, hoc6, -⟩ := hown6.form; obtain ⟨z0, z1, z2, z3, k0, k1, k2, k3⟩ := blk4 ((hb6'.block _ hszW).trans HX.out)) | (go_at_call 50; refine (HU.out _ _ _ (OwnCells.set hoc6 ⟨w1.heap.size, 3, none⟩ hszW _).cells).mono ?_; rintro e w7 ⟨rfl, hb7⟩))
  go_ret2
  exact ⟨rfl, andThen (Below.setCell (hb1.trans ((hbW.trans (hb6'.mono hbW.size)).mono hb1.size)) hb1.size _) hb7⟩
set_option maxRecDepth 100000 in
set_option maxHeartbeats 2000000 in
theorem pdel_in (p : ByteArray) (k : Nat) (hm : p.size ≤ 140737488355328) (hb : isPg p = true) (hk : k < (leafP p).recs.length) (hs : ¬ (Pg.slotAt (leafP p).recs (k : Int)).size = 0) (w : World) :
    Calls Tryz.prog 25 #[.string p, .int .i64 (k : Int)] w fun e w' => e = .returned (outV (Pg.fullO (withRecs p (Pg.delAt (leafP p).recs k)))) ∧ Below w.heap.size w w' := by
  have HT := Lib.hid (fun W => take_leaf p hm W)
  rw [hb] at HT
  have hgood := leafP_good p
  have hln := hgood.fine.len
  have hsm := hgood.fine.sum
  have hsz : Pg.sizeN (Pg.delAt (leafP p).recs k) ≤ 1099511627776 := Nat.le_trans (Pg.delAt_size hk) (Nat.le_trans hgood.fits (by omega))
  have HU := Lib.hid (fun A c W hW => full_any (withRecs p (Pg.delAt (leafP p).recs k)) A c (withRecs_small p _) hsz W hW)
  generalize Pg.fullO (withRecs p (Pg.delAt (leafP p).recs k)) = o at HU ⊢
  change Hid (∀ A c W, Cells W A c (Pg.delAt (leafP p).recs k) → Calls _ _ #[.agg #[.int .i64 (leafP p).lsn, .int .i64 (leafP p).kind, .int .i64 (leafP p).link, .slice A (Pg.delAt (leafP p).recs k).length c]] _ _) at HU
  have HA := Lib.hid (fun A c W hW => at_any (leafP p) A c (k : Int) W hW)
  obtain ⟨hie, hne⟩ := empty_no hs
  generalize Pg.slotAt (leafP p).recs (k : Int) = q at HA hie hne
  clear hsz hsm hgood hb hs
  generalize leafP p = x at HT HU hln hk HA
  obtain ⟨L, hL⟩ : ∃ L, L = Pg.delAt x.recs k := ⟨_, rfl⟩
  rw [← hL] at HU
  have HL := Lib.hid hL
  clear hL
  have hk5 : (k : Int) ≤ 512 := by omega
  have hk0 : (0 : Int) ≤ (k : Int) := by omega
  have hkl : (k : Int) < (x.recs.length : Int) := by omega
  have hkl2 : decide (x.recs.length ≤ k) = false := decide_eq_false (by omega)
  go_enter Tryz.func25, Tryz.ntmps25
  go_upto_region 6 with (first | (go_at_call 19; refine (HT.out _).mono ?_; rintro e w1 ⟨A, c, rfl, hcl, hb1⟩) | (go_at_call 48; refine (HA.out _ _ _ (hcl.cells.below ((Below.refl _ _).alloc (Nat.le_refl _) _))).mono ?_; rintro e w2 ⟨rfl, hb2⟩))
  obtain ⟨b, off, rfl, hc, hbl, hcell⟩ := hcl.cells.at_ hk
  clear hcell
  have hkc : k < c := by omega
  have hkc2 : (k : Int) ≤ (c : Int) := by omega
  obtain ⟨W, hW⟩ : ∃ W : World, W = w2 := ⟨_, rfl⟩
  have hbW : Below w1.heap.size w1 W := by rw [hW]; exact below_past hb2
  have hxW : W.heap[w1.heap.size]? = some (.cells #[.int .i64 x.lsn, .int .i64 x.kind, .int .i64 x.link, .slice (some ⟨b, off, none⟩) x.recs.length c] 38 (0, 0)) := by rw [hW]; exact blk_new hb2
  have hszW : w1.heap.size < W.heap.size := by rw [hW]; have := hb2.size; simp at this; omega
  rw [← hW]
  clear hW hb2
  obtain ⟨c0, c1, c2, c3, f0, f1, f2, f3⟩ := blk4 hxW
  have HX := Lib.hid hxW
  have HCC := Lib.hid (hcl.cells.below hbW)
  clear hcl hxW
  have hblW : b < W.heap.size := by omega
  have HT1 := Lib.hid (show (x.recs.take k).length = k by rw [List.length_take]; omega)
  have HT2 := Lib.hid (show (x.recs.drop (k + 1)).length = x.recs.length - (k + 1) by rw [List.length_drop])
  have hk1 : ((k : Int) + 1).toNat = k + 1 := by omega
  have hk2 : (k : Int) + 1 ≤ (c : Int) := by omega
  have hk3 : (k : Int) + 1 ≤ (x.recs.length : Int) := by omega
  by_cases hce : c = k + 1
  · subst hce
    go_wp2_with (first | (at_builtin; refine wpList_appN _ rfl (.const (.slice none 0 0)) _ rfl W.heap.size (.slice none 0 0) [] rfl (OwnT.nil _ _) _ k _ (x.recs.take k) HT1.out rfl (HCC.out.take_ k) (by simp; omega) (Nat.le_refl _) ?_; intro v2 w2 hown2 hg2 hb2; rw [List.nil_append] at hown2; clear hg2; obtain ⟨d0, d1, d2, d3, g0, g1, g2, g3⟩ := blk4 ((hb2.block _ hszW).trans HX.out)) | (at_builtin; refine wpList_appN _ rfl (.tmp 25) _ rfl W.heap.size v2 (x.recs.take k) rfl hown2 _ 0 _ (x.recs.drop (k + 1)) (by rw [HT2.out]; omega) rfl (Cells.nil_ _ _ _ (by rw [HT2.out]; omega)) (by rw [HT1.out]; omega) hb2.size ?_; intro v6 w6 hown6 hg6 hb6; clear hg6; have hb6' := hb2.trans hb6; have hown7 : OwnT W.heap.size w6 v6 L := (by rw [HL.out]; exact hown6); clear hown6; obtain ⟨A6, c6, rfl, hoc6, -⟩ := hown7.form; obtain ⟨z0, z1, z2, z3, k0, k1, k2, k3⟩ := blk4 ((hb6'.block _ hszW).trans HX.out)) | (go_at_call 50; refine (HU.out _ _ _ (OwnCells.set hoc6 ⟨w1.heap.size, 3, none⟩ hszW _).cells).mono ?_; rintro e w7 ⟨rfl, hb7⟩))
    go_ret2
    exact ⟨rfl, andThen (Below.setCell (hb1.trans ((hbW.trans (hb6'.mono hbW.size)).mono hb1.size)) hb1.size _) hb7⟩
  · go_wp2_with (first | (at_builtin; refine wpList_appN _ rfl (.const (.slice none 0 0)) _ rfl W.heap.size (.slice none 0 0) [] rfl (OwnT.nil _ _) _ k _ (x.recs.take k) HT1.out rfl (HCC.out.take_ k) (by simp; omega) (Nat.le_refl _) ?_; intro v2 w2 hown2 hg2 hb2; rw [List.nil_append] at hown2; clear hg2; obtain ⟨d0, d1, d2, d3, g0, g1, g2, g3⟩ := blk4 ((hb2.block _ hszW).trans HX.out)) | (at_builtin; refine wpList_appN _ rfl (.tmp 25) _ rfl W.heap.size v2 (x.recs.take k) rfl hown2 _ (x.recs.length - (k + 1)) _ (x.recs.drop (k + 1)) HT2.out rfl ((HCC.out.keepB hblW hb2).drop_ (k + 1)) (by rw [HT1.out]; omega) hb2.size ?_; intro v6 w6 hown6 hg6 hb6; clear hg6; have hb6' := hb2.trans hb6; have hown7 : OwnT W.heap.size w6 v6 L := (by rw [HL.out]; exact hown6); clear hown6; obtain ⟨A6, c6, rfl, hoc6, -⟩ := hown7.form; obtain ⟨z0, z1, z2, z3, k0, k1, k2, k3⟩ := blk4 ((hb6'.block _ hszW).trans HX.out)) | (go_at_call 50; refine (HU.out _ _ _ (OwnCells.set hoc6 ⟨w1.heap.size, 3, none⟩ hszW _).cells).mono ?_; rintro e w7 ⟨rfl, hb7⟩))
    go_ret2
    exact ⟨rfl, andThen (Below.setCell (hb1.trans ((hbW.trans (hb6'.mono hbW.size)).mono hb1.size)) hb1.size _) hb7⟩

/-- What Add, Del return. -/
def addO (p : ByteArray) (i : Int) (r : ByteArray) : ByteArray × Int :=
  if isPg p = false then (⟨#[]⟩, 1) else if i < 0 then (⟨#[]⟩, 1) else if mayB r = false then (⟨#[]⟩, 1) else if 512 < i then (⟨#[]⟩, 18) else Pg.fullO (withRecs p (Pg.insAt (leafP p).recs i.toNat r))
def delO (p : ByteArray) (i : Int) : ByteArray × Int :=
  if isPg p = false then (⟨#[]⟩, 1) else if (Pg.slotAt (leafP p).recs i).size = 0 then (⟨#[]⟩, 21) else Pg.fullO (withRecs p (Pg.delAt (leafP p).recs i.toNat))
set_option maxRecDepth 100000 in
set_option maxHeartbeats 2000000 in
theorem padd_any (p : ByteArray) (i : Int) (r : ByteArray) (hm : p.size ≤ 140737488355328) (w : World) :
    Calls Tryz.prog 24 #[.string p, .int .i64 i, .string r] w fun e w' => e = .returned (outV (addO p i r)) ∧ Below w.heap.size w w' := by
  have HT := Lib.hid (fun W => take_leaf p hm W)
  have HY := Lib.hid (fun W => may_any r W)
  change Hid (∀ W, Calls _ _ _ _ fun e w' => e = .returned (.bool (mayB r)) ∧ _) at HY
  have hgood := leafP_good p
  unfold addO
  cases hb : isPg p with
  | false =>
    rw [if_pos rfl]
    rw [hb] at HT
    generalize leafP p = x at HT
    clear hgood hb HY
    go_enter Tryz.func24, Tryz.ntmps24
    go_wp2_with (first | (go_at_call 19; refine (HT.out _).mono ?_; rintro e w1 ⟨A, c, rfl, hcl, hb1⟩))
    go_ret2
    exact ⟨rfl, below_past_alloc hb1⟩
  | true =>
    rw [if_neg (by simp)]
    by_cases h1 : i < 0
    · rw [if_pos h1]
      rw [hb] at HT
      generalize leafP p = x at HT
      clear hgood hb HY
      go_enter Tryz.func24, Tryz.ntmps24
      go_wp2_with (first | (go_at_call 19; refine (HT.out _).mono ?_; rintro e w1 ⟨A, c, rfl, hcl, hb1⟩))
      go_ret2
      exact ⟨rfl, below_past_alloc hb1⟩
    · rw [if_neg h1]
      obtain ⟨k, rfl⟩ := Int.eq_ofNat_of_zero_le (show 0 ≤ i by omega)
      have hk0 : (0 : Int) ≤ (k : Int) := by omega
      clear h1
      rw [show ((k : Int)).toNat = k from rfl]
      cases hy : mayB r with
      | false =>
        rw [if_pos rfl]
        rw [hy] at HY
        rw [hb] at HT
        generalize leafP p = x at HT
        clear hgood hb hy
        go_enter Tryz.func24, Tryz.ntmps24
        go_wp2_with (first | (go_at_call 19; refine (HT.out _).mono ?_; rintro e w1 ⟨A, c, rfl, hcl, hb1⟩) | (go_at_call 49; refine (HY.out _).mono ?_; rintro e w3 ⟨rfl, rfl⟩))
        go_ret2
        exact ⟨rfl, below_past_alloc hb1⟩
      | true =>
        rw [if_neg (by simp)]
        by_cases hk : k < (leafP p).recs.length
        · have hln := hgood.fine.len
          rw [if_neg (by omega)]
          unfold Pg.insAt
          rw [if_neg (by omega)]
          exact padd_in p k r hm hb hk hy w
        · by_cases h5 : (512 : Int) < (k : Int)
          · rw [if_pos h5]
            rw [hb] at HT
            rw [hy] at HY
            generalize leafP p = x at HT
            clear hgood hb hy hk
            go_enter Tryz.func24, Tryz.ntmps24
            go_wp2_with (first | (go_at_call 19; refine (HT.out _).mono ?_; rintro e w1 ⟨A, c, rfl, hcl, hb1⟩) | (go_at_call 49; refine (HY.out _).mono ?_; rintro e w3 ⟨rfl, rfl⟩))
            go_ret2
            exact ⟨rfl, below_past_alloc hb1⟩
          · rw [if_neg h5]
            rw [show Pg.insAt (leafP p).recs k r = Pg.putAt (leafP p).recs k r from if_pos (by omega)]
            obtain ⟨hr1, hr2⟩ := mayB_yes hy
            have hln := hgood.fine.len
            have hsm := hgood.fine.sum
            have hps := Pg.putAt_size (leafP p).recs k r
            have HW := Lib.hid (fun A c W hW => with_any (leafP p) A c k r (by omega) (by omega) W hW)
            have HU := Lib.hid (fun A c W hW => full_any (withRecs p (Pg.putAt (leafP p).recs k r)) A c (withRecs_small p _) (by show Pg.sizeN (Pg.putAt _ _ _) ≤ _; omega) W hW)
            change Hid (∀ A c W, Cells W A c (leafP p).recs → Calls _ _ _ _ fun e w' => ∃ A' c', e = .returned (leafV (withRecs p (Pg.putAt (leafP p).recs k r)) A' c') ∧ OwnCells _ w' A' c' (withRecs p (Pg.putAt (leafP p).recs k r)).recs ∧ _) at HW
            rw [hb] at HT
            rw [hy] at HY
            clear hps hln hsm hr1 hr2 hgood hb hy
            generalize withRecs p (Pg.putAt (leafP p).recs k r) = y at HW HU ⊢
            generalize Pg.fullO y = o at HU ⊢
            generalize leafP p = x at HT HW hk
            have hkl : (x.recs.length : Int) ≤ (k : Int) := by omega
            go_enter Tryz.func24, Tryz.ntmps24
            go_wp2_with (first | (go_at_call 19; refine (HT.out _).mono ?_; rintro e w1 ⟨A, c, rfl, hcl, hb1⟩) | (go_at_call 49; refine (HY.out _).mono ?_; rintro e w3 ⟨rfl, rfl⟩) | (go_at_call 51; refine (HW.out _ _ _ (hcl.cells.below ((Below.refl _ _).alloc (Nat.le_refl _) _))).mono ?_; rintro e w4 ⟨A', c', rfl, ho4, hb4⟩) | (go_at_call 50; refine (HU.out _ _ _ ho4.cells).mono ?_; rintro e w5 ⟨rfl, hb5⟩))
            go_ret2
            exact ⟨rfl, andThen (andThen (below_past_alloc hb1) hb4) hb5⟩
set_option maxRecDepth 100000 in
set_option maxHeartbeats 2000000 in
theorem pdel_any (p : ByteArray) (i : Int) (hm : p.size ≤ 140737488355328) (w : World) :
    Calls Tryz.prog 25 #[.string p, .int .i64 i] w fun e w' => e = .returned (outV (delO p i)) ∧ Below w.heap.size w w' := by
  have HT := Lib.hid (fun W => take_leaf p hm W)
  have HA := Lib.hid (fun A c W hW => at_any (leafP p) A c i W hW)
  unfold delO
  cases hb : isPg p with
  | false =>
    rw [if_pos rfl]
    rw [hb] at HT
    generalize leafP p = x at HT
    clear hb HA
    go_enter Tryz.func25, Tryz.ntmps25
    go_wp2_with (first | (go_at_call 19; refine (HT.out _).mono ?_; rintro e w1 ⟨A, c, rfl, hcl, hb1⟩))
    go_ret2
    exact ⟨rfl, below_past_alloc hb1⟩
  | true =>
    rw [if_neg (by simp)]
    by_cases h2 : (Pg.slotAt (leafP p).recs i).size = 0
    · rw [if_pos h2]
      rw [hb] at HT
      clear hb
      rw [empty_yes h2] at HA
      generalize leafP p = x at HT HA
      clear h2
      go_enter Tryz.func25, Tryz.ntmps25
      go_wp2_with (first | (go_at_call 19; refine (HT.out _).mono ?_; rintro e w1 ⟨A, c, rfl, hcl, hb1⟩) | (go_at_call 48; refine (HA.out _ _ _ (hcl.cells.below ((Below.refl _ _).alloc (Nat.le_refl _) _))).mono ?_; rintro e w2 ⟨rfl, hb2⟩; obtain ⟨c0, c1, c2, c3, f0, f1, f2, f3⟩ := blk4 (blk_new hb2)))
      go_ret2
      exact ⟨rfl, andThen hb1 (below_past hb2)⟩
    · rw [if_neg h2]
      obtain ⟨hi0, hi1⟩ := Pg.slotAt_lt h2
      obtain ⟨k, rfl⟩ := Int.eq_ofNat_of_zero_le hi0
      rw [show ((k : Int)).toNat = k from rfl]
      exact pdel_in p k hm hb (by omega) h2 w
end Go.Proofs.YtkndifannjpbcaaGreatDoor
/- The walks over the reference of package page: Add, Del. -/
namespace Go.Proofs.YtkndifannjpbcaaGreatDoor
open Go.RowKit

set_option maxRecDepth 100000 in
set_option maxHeartbeats 2000000 in
theorem rpadd_in (p : ByteArray) (k : Nat) (r : ByteArray) (hm : p.size ≤ 140737488355328) (hb : isPg p = true) (hk : k < (leafP p).recs.length) (hr : mayB r = true) (w : World) :
    Calls Tryz.prog 32 #[.string p, .int .i64 (k : Int), .string r] w fun e w' => e = .returned (outV (Pg.fullO (withRecs p ((leafP p).recs.take k ++ [r] ++ (leafP p).recs.drop k)))) ∧ Below w.heap.size w w' := by
  have HT := Lib.hid (fun W => rparts_leaf p hm W)
  rw [hb] at HT
  have hgood := leafP_good p
  have hln := hgood.fine.len
  have hsm := hgood.fine.sum
  have HY := Lib.hid (fun W => rmay_any r W)
  change Hid (∀ W, Calls _ _ _ _ fun e w' => e = .returned (.bool (mayB r)) ∧ _) at HY
  rw [hr] at HY
  obtain ⟨hr1, hr2⟩ := mayB_yes hr
  have hsz : Pg.sizeN ((leafP p).recs.take k ++ [r] ++ (leafP p).recs.drop k) ≤ 1099511627776 := by
    have h1 := Pg.insAt_sum (leafP p).recs k r
    have h2 := Pg.insAt_length (leafP p).recs k r
    unfold Pg.insAt at h1 h2
    rw [if_neg (by omega)] at h1 h2
    unfold Pg.sizeN; omega
  have HU := Lib.hid (fun A c W hW => laid_any (withRecs p ((leafP p).recs.take k ++ [r] ++ (leafP p).recs.drop k)) A c (withRecs_small p _) hsz (.inr ((Pg.trim_tight _).2 (by have h3 := Pg.insAt_tight hgood.tight k (r := r) (by omega); unfold Pg.insAt at h3; rw [if_neg (by omega)] at h3; exact h3))) W hW)
  generalize Pg.fullO (withRecs p ((leafP p).recs.take k ++ [r] ++ (leafP p).recs.drop k)) = o at HU ⊢
  change Hid (∀ A c W, Cells W A c ((leafP p).recs.take k ++ [r] ++ (leafP p).recs.drop k) → Calls _ _ #[.agg #[.int .i64 (leafP p).lsn, .int .i64 (leafP p).kind, .int .i64 (leafP p).link, .slice A ((leafP p).recs.take k ++ [r] ++ (leafP p).recs.drop k).length c]] _ _) at HU
  clear hsz hsm hgood hb hr hr1 hr2
  generalize leafP p = x at HT HU hln hk
  obtain ⟨L, hL⟩ : ∃ L, L = x.recs.take k ++ [r] ++ x.recs.drop k := ⟨_, rfl⟩
  rw [← hL] at HU
  have HL := Lib.hid hL
  clear hL
  have hk5 : (k : Int) ≤ 512 := by omega
  have hk0 : (0 : Int) ≤ (k : Int) := by omega
  have hkl : (k : Int) < (x.recs.length : Int) := by omega
  have hkl2 : decide (x.recs.length ≤ k) = false := decide_eq_false (by omega)
  go_enter Tryz.func32, Tryz.ntmps32
  go_upto_region 7 with (first | (go_at_call 41; refine (HT.out _).mono ?_; rintro e w1 ⟨y0, A, c, rfl, hcl0, hb1⟩; obtain ⟨hy, hcl⟩ := hcl0 rfl; clear hcl0; subst hy) | (go_at_call 59; refine (HY.out _).mono ?_; rintro e w3 ⟨rfl, rfl⟩))
  obtain ⟨b, off, rfl, hc, hbl, hcell⟩ := hcl.cells.at_ hk
  clear hcell
  have hkc : k < c := by omega
  have hkc2 : (k : Int) ≤ (c : Int) := by omega
  obtain ⟨W, hW⟩ : ∃ W, W = w1.alloc (.cells #[.int .i64 y0.lsn, .int .i64 y0.kind, .int .i64 y0.link, .slice (some ⟨b, off, none⟩) y0.recs.length c] 49 (0, 0)) := ⟨_, rfl⟩
  have hbW : Below w1.heap.size w1 W := by rw [hW]; exact (Below.refl _ _).alloc (Nat.le_refl _) _
  have hxW : W.heap[w1.heap.size]? = some (.cells #[.int .i64 y0.lsn, .int .i64 y0.kind, .int .i64 y0.link, .slice (some ⟨b, off, none⟩) y0.recs.length c] 49 (0, 0)) := by rw [hW]; exact heap_alloc_new w1 _
  have hszW : w1.heap.size < W.heap.size := by rw [hW]; simp
  rw [← hW]
  clear hW
  obtain ⟨c0, c1, c2, c3, f0, f1, f2, f3⟩ := blk4 hxW
  have HX := Lib.hid hxW
  have HCC := Lib.hid (hcl.cells.below hbW)
  clear hcl hxW
  have hblW : b < W.heap.size := by omega
  have HT1 := Lib.hid (show (y0.recs.take k).length = k by rw [List.length_take]; omega)
  have HT2 := Lib.hid (show (y0.recs.drop k).length = y0.recs.length - k by rw [List.length_drop])
  go_wp2_with (first | (at_builtin; refine wpList_appN _ rfl (.tmp 38) _ rfl W.heap.size (.slice none 0 0) [] rfl (OwnT.nil _ _) _ k _ (y0.recs.take k) HT1.out rfl (HCC.out.take_ k) (by simp; omega) (Nat.le_refl _) ?_; intro v2 w2 hown2 hg2 hb2; rw [List.nil_append] at hown2; clear hg2; obtain ⟨d0, d1, d2, d3, g0, g1, g2, g3⟩ := blk4 ((hb2.block _ hszW).trans HX.out)) | (at_builtin; refine wpList_appN _ rfl (.tmp 44) _ rfl W.heap.size v2 (y0.recs.take k) rfl (hown2.below ((Below.refl _ _).alloc (Nat.le_refl _) _)) _ 1 _ [r] rfl rfl (cells_one w2 _) (by rw [HT1.out]; omega) (by have h1 := hb2.size; simp; omega) ?_; intro v4 w4 hown4 hg4 hb4; clear hg4; have hb4' := (hb2.trans (((Below.refl _ _).alloc hb2.size (.cells #[.string r] 9)).trans hb4)); obtain ⟨x0, x1, x2, x3, m0, m1, m2, m3⟩ := blk4 ((hb4'.block _ hszW).trans HX.out)) | (at_builtin; refine wpList_appN _ rfl (.tmp 48) _ rfl W.heap.size v4 (y0.recs.take k ++ [r]) rfl hown4 _ (y0.recs.length - k) _ (y0.recs.drop k) HT2.out rfl ((HCC.out.keepB hblW hb4').drop_ k) (by rw [List.length_append, HT1.out, List.length_singleton]; omega) hb4'.size ?_; intro v6 w6 hown6 hg6 hb6; clear hg6; have hb6' := hb4'.trans hb6; rw [← HL.out] at hown6; obtain ⟨A6, c6, rfl, hoc6, -⟩ := hown6.form; obtain ⟨z0, z1, z2, z3, k0, k1, k2, k3⟩ := blk4 ((hb6'.block _ hszW).trans HX.out)) | (go_at_call 61; refine (HU.out _ _ _ (OwnCells.set hoc6 ⟨w1.heap.size, 3, none⟩ hszW _).cells).mono ?_; rintro e w7 ⟨rfl, hb7⟩))
  go_ret2
  exact ⟨rfl, andThen (Below.setCell (hb1.trans ((hbW.trans (hb6'.mono hbW.size)).mono hb1.size)) hb1.size _) hb7⟩
set_option maxRecDepth 100000 in
set_option maxHeartbeats 2000000 in
theorem rpdel_in (p : ByteArray) (k : Nat) (hm : p.size ≤ 140737488355328) (hb : isPg p = true) (hk : k < (leafP p).recs.length) (hs : ¬ (Pg.slotAt (leafP p).recs (k : Int)).size = 0) (w : World) :
    Calls Tryz.prog 33 #[.string p, .int .i64 (k : Int)] w fun e w' => e = .returned (outV (Pg.fullO (withRecs p (Pg.delAt (leafP p).recs k)))) ∧ Below w.heap.size w w' := by
  have HT := Lib.hid (fun W => rparts_leaf p hm W)
  rw [hb] at HT
  have hgood := leafP_good p
  have hln := hgood.fine.len
  have hsm := hgood.fine.sum
  have hsz : Pg.sizeN (Pg.delAt (leafP p).recs k) ≤ 1099511627776 := Nat.le_trans (Pg.delAt_size hk) (Nat.le_trans hgood.fits (by omega))
  have HU := Lib.hid (fun A c W hW => laid_any (withRecs p (Pg.delAt (leafP p).recs k)) A c (withRecs_small p _) hsz (.inl (Nat.le_trans (Pg.delAt_size hk) hgood.fits)) W hW)
  generalize Pg.fullO (withRecs p (Pg.delAt (leafP p).recs k)) = o at HU ⊢
  change Hid (∀ A c W, Cells W A c (Pg.delAt (leafP p).recs k) → Calls _ _ #[.agg #[.int .i64 (leafP p).lsn, .int .i64 (leafP p).kind, .int .i64 (leafP p).link, .slice A (Pg.delAt (leafP p).recs k).length c]] _ _) at HU
  have HA := Lib.hid (fun W => rget_any_rec p (k : Int) hm W)
  rw [decide_eq_false hs] at HA
  generalize Pg.slotAt (leafP p).recs (k : Int) = q at HA
  clear hsz hsm hgood hb hs
  generalize leafP p = x at HT HU hln hk
  obtain ⟨L, hL⟩ : ∃ L, L = Pg.delAt x.recs k := ⟨_, rfl⟩
  rw [← hL] at HU
  have HL := Lib.hid hL
  clear hL
  have hk5 : (k : Int) ≤ 512 := by omega
  have hk0 : (0 : Int) ≤ (k : Int) := by omega
  have hkl : (k : Int) < (x.recs.length : Int) := by omega
  have hkl2 : decide (x.recs.length ≤ k) = false := decide_eq_false (by omega)
  go_enter Tryz.func33, Tryz.ntmps33
  go_upto_region 8 with (first | (go_at_call 41; refine (HT.out _).mono ?_; rintro e w1 ⟨y0, A, c, rfl, hcl0, hb1⟩; obtain ⟨hy, hcl⟩ := hcl0 rfl; clear hcl0; subst hy) | (go_at_call 28; refine (HA.out _).mono ?_; rintro e w2 ⟨rfl, hb2⟩))
  obtain ⟨b, off, rfl, hc, hbl, hcell⟩ := hcl.cells.at_ hk
  clear hcell
  have hkc : k < c := by omega
  have hkc2 : (k : Int) ≤ (c : Int) := by omega
  obtain ⟨W, hW⟩ : ∃ W : World, W = w2 := ⟨_, rfl⟩
  have hbW : Below w1.heap.size w1 W := by rw [hW]; exact below_past hb2
  have hxW : W.heap[w1.heap.size]? = some (.cells #[.int .i64 y0.lsn, .int .i64 y0.kind, .int .i64 y0.link, .slice (some ⟨b, off, none⟩) y0.recs.length c] 49 (0, 0)) := by rw [hW]; exact blk_new hb2
  have hszW : w1.heap.size < W.heap.size := by rw [hW]; have := hb2.size; simp at this; omega
  rw [← hW]
  clear hW hb2
  obtain ⟨c0, c1, c2, c3, f0, f1, f2, f3⟩ := blk4 hxW
  have HX := Lib.hid hxW
  have HCC := Lib.hid (hcl.cells.below hbW)
  clear hcl hxW
  have hblW : b < W.heap.size := by omega
  have HT1 := Lib.hid (show (y0.recs.take k).length = k by rw [List.length_take]; omega)
  have HT2 := Lib.hid (show (y0.recs.drop (k + 1)).length = y0.recs.length - (k + 1) by rw [List.length_drop])
  have hk1 : ((k : Int) + 1).toNat = k + 1 := by omega
  have hk2 : (k : Int) + 1 ≤ (c : Int) := by omega
  have hk3 : (k : Int) + 1 ≤ (y0.recs.length : Int) := by omega
  by_cases hce : c = k + 1
  · subst hce
    go_wp2_with (first | (at_builtin; refine wpList_appN _ rfl (.tmp 26) _ rfl W.heap.size (.slice none 0 0) [] rfl (OwnT.nil _ _) _ k _ (y0.recs.take k) HT1.out rfl (HCC.out.take_ k) (by simp; omega) (Nat.le_refl _) ?_; intro v2 w2 hown2 hg2 hb2; rw [List.nil_append] at hown2; clear hg2; obtain ⟨d0, d1, d2, d3, g0, g1, g2, g3⟩ := blk4 ((hb2.block _ hszW).trans HX.out)) | (at_builtin; refine wpList_appN _ rfl (.tmp 32) _ rfl W.heap.size v2 (y0.recs.take k) rfl hown2 _ 0 _ (y0.recs.drop (k + 1)) (by rw [HT2.out]; omega) rfl (Cells.nil_ _ _ _ (by rw [HT2.out]; omega)) (by rw [HT1.out]; omega) hb2.size ?_; intro v6 w6 hown6 hg6 hb6; clear hg6; have hb6' := hb2.trans hb6; have hown7 : OwnT W.heap.size w6 v6 L := (by rw [HL.out]; exact hown6); clear hown6; obtain ⟨A6, c6, rfl, hoc6, -⟩ := hown7.form; obtain ⟨z0, z1, z2, z3, k0, k1, k2, k3⟩ := blk4 ((hb6'.block _ hszW).trans HX.out)) | (go_at_call 61; refine (HU.out _ _ _ (OwnCells.set hoc6 ⟨w1.heap.size, 3, none⟩ hszW _).cells).mono ?_; rintro e w7 ⟨rfl, hb7⟩))
    go_ret2
    exact ⟨rfl, andThen (Below.setCell (hb1.trans ((hbW.trans (hb6'.mono hbW.size)).mono hb1.size)) hb1.size _) hb7⟩
  · go_wp2_with (first | (at_builtin; refine wpList_appN _ rfl (.tmp 26) _ rfl W.heap.size (.slice none 0 0) [] rfl (OwnT.nil _ _) _ k _ (y0.recs.take k) HT1.out rfl (HCC.out.take_ k) (by simp; omega) (Nat.le_refl _) ?_; intro v2 w2 hown2 hg2 hb2; rw [List.nil_append] at hown2; clear hg2; obtain ⟨d0, d1, d2, d3, g0, g1, g2, g3⟩ := blk4 ((hb2.block _ hszW).trans HX.out)) | (at_builtin; refine wpList_appN _ rfl (.tmp 32) _ rfl W.heap.size v2 (y0.recs.take k) rfl hown2 _ (y0.recs.length - (k + 1)) _ (y0.recs.drop (k + 1)) HT2.out rfl ((HCC.out.keepB hblW hb2).drop_ (k + 1)) (by rw [HT1.out]; omega) hb2.size ?_; intro v6 w6 hown6 hg6 hb6; clear hg6; have hb6' := hb2.trans hb6; have hown7 : OwnT W.heap.size w6 v6 L := (by rw [HL.out]; exact hown6); clear hown6; obtain ⟨A6, c6, rfl, hoc6, -⟩ := hown7.form; obtain ⟨z0, z1, z2, z3, k0, k1, k2, k3⟩ := blk4 ((hb6'.block _ hszW).trans HX.out)) | (go_at_call 61; refine (HU.out _ _ _ (OwnCells.set hoc6 ⟨w1.heap.size, 3, none⟩ hszW _).cells).mono ?_; rintro e w7 ⟨rfl, hb7⟩))
    go_ret2
    exact ⟨rfl, andThen (Below.setCell (hb1.trans ((hbW.trans (hb6'.mono hbW.size)).mono hb1.size)) hb1.size _) hb7⟩
set_option maxRecDepth 100000 in
set_option maxHeartbeats 2000000 in
theorem rpadd_any (p : ByteArray) (i : Int) (r : ByteArray) (hm : p.size ≤ 140737488355328) (w : World) :
    Calls Tryz.prog 32 #[.string p, .int .i64 i, .string r] w fun e w' => e = .returned (outV (addO p i r)) ∧ Below w.heap.size w w' := by
  have HT := Lib.hid (fun W => rparts_leaf p hm W)
  have HY := Lib.hid (fun W => rmay_any r W)
  change Hid (∀ W, Calls _ _ _ _ fun e w' => e = .returned (.bool (mayB r)) ∧ _) at HY
  have hgood := leafP_good p
  unfold addO
  cases hb : isPg p with
  | false =>
    rw [if_pos rfl]
    rw [hb] at HT
    generalize leafP p = x at HT
    clear hgood hb HY
    go_enter Tryz.func32, Tryz.ntmps32
    go_wp2_with (first | (go_at_call 41; refine (HT.out _).mono ?_; rintro e w1 ⟨y0, A, c, rfl, hcl, hb1⟩))
    go_ret2
    exact ⟨rfl, below_past_alloc hb1⟩
  | true =>
    rw [if_neg (by simp)]
    by_cases h1 : i < 0
    · rw [if_pos h1]
      rw [hb] at HT
      generalize leafP p = x at HT
      clear hgood hb HY
      go_enter Tryz.func32, Tryz.ntmps32
      go_wp2_with (first | (go_at_call 41; refine (HT.out _).mono ?_; rintro e w1 ⟨y0, A, c, rfl, hcl, hb1⟩; obtain ⟨hy, hco⟩ := hcl rfl; clear hcl; subst hy))
      go_ret2
      exact ⟨rfl, below_past_alloc hb1⟩
    · rw [if_neg h1]
      obtain ⟨k, rfl⟩ := Int.eq_ofNat_of_zero_le (show 0 ≤ i by omega)
      have hk0 : (0 : Int) ≤ (k : Int) := by omega
      clear h1
      rw [show ((k : Int)).toNat = k from rfl]
      cases hy : mayB r with
      | false =>
        rw [if_pos rfl]
        rw [hy] at HY
        rw [hb] at HT
        generalize leafP p = x at HT
        clear hgood hb hy
        go_enter Tryz.func32, Tryz.ntmps32
        go_wp2_with (first | (go_at_call 41; refine (HT.out _).mono ?_; rintro e w1 ⟨y0, A, c, rfl, hcl, hb1⟩; obtain ⟨hy, hco⟩ := hcl rfl; clear hcl; subst hy) | (go_at_call 59; refine (HY.out _).mono ?_; rintro e w3 ⟨rfl, rfl⟩))
        go_ret2
        exact ⟨rfl, below_past_alloc hb1⟩
      | true =>
        rw [if_neg (by simp)]
        by_cases hk : k < (leafP p).recs.length
        · have hln := hgood.fine.len
          rw [if_neg (by omega)]
          unfold Pg.insAt
          rw [if_neg (by omega)]
          exact rpadd_in p k r hm hb hk hy w
        · have hpast : Pg.slotAt (leafP p).recs (k : Int) = ⟨#[]⟩ := Pg.slotAt_past (by omega)
          have hins : Pg.insAt (leafP p).recs k r = Pg.putAt (leafP p).recs k r := if_pos (by omega)
          have HQ := Lib.hid (fun W => rpput_any p (k : Int) r hm W)
          have hO : putO p (k : Int) r = (if (512 : Int) < (k : Int) then (⟨#[]⟩, 18) else Pg.fullO (withRecs p (Pg.insAt (leafP p).recs k r))) := by
            unfold putO
            rw [if_neg (by rw [hb]; simp), if_neg (by omega), if_neg (by rw [hpast]; exact fun h => h rfl), if_neg (by rw [hy]; simp), hins]; rfl
          rw [← hO]
          generalize putO p (k : Int) r = o at HQ ⊢
          rw [hb] at HT
          rw [hy] at HY
          generalize leafP p = x at HT hk
          have hkl : (x.recs.length : Int) ≤ (k : Int) := by omega
          clear hgood hb hy hpast hins hO
          go_enter Tryz.func32, Tryz.ntmps32
          go_wp2_with (first | (go_at_call 41; refine (HT.out _).mono ?_; rintro e w1 ⟨y0, A, c, rfl, hcl, hb1⟩; obtain ⟨hy, hco⟩ := hcl rfl; clear hcl; subst hy) | (go_at_call 59; refine (HY.out _).mono ?_; rintro e w3 ⟨rfl, rfl⟩) | (go_at_call 29; refine (HQ.out _).mono ?_; rintro e w4 ⟨rfl, hb4⟩))
          go_ret2
          exact ⟨rfl, andThen (below_past_alloc hb1) hb4⟩
set_option maxRecDepth 100000 in
set_option maxHeartbeats 2000000 in
theorem rpdel_any (p : ByteArray) (i : Int) (hm : p.size ≤ 140737488355328) (w : World) :
    Calls Tryz.prog 33 #[.string p, .int .i64 i] w fun e w' => e = .returned (outV (delO p i)) ∧ Below w.heap.size w w' := by
  have HT := Lib.hid (fun W => rparts_leaf p hm W)
  have HA := Lib.hid (fun W => rget_any_rec p i hm W)
  unfold delO
  cases hb : isPg p with
  | false =>
    rw [if_pos rfl]
    rw [hb] at HT
    generalize leafP p = x at HT
    clear hb HA
    go_enter Tryz.func33, Tryz.ntmps33
    go_wp2_with (first | (go_at_call 41; refine (HT.out _).mono ?_; rintro e w1 ⟨y0, A, c, rfl, hcl, hb1⟩))
    go_ret2
    exact ⟨rfl, below_past_alloc hb1⟩
  | true =>
    rw [if_neg (by simp)]
    by_cases h2 : (Pg.slotAt (leafP p).recs i).size = 0
    · rw [if_pos h2]
      rw [hb] at HT
      clear hb
      rw [decide_eq_true h2] at HA
      generalize Pg.slotAt (leafP p).recs i = q at HA
      generalize leafP p = x at HT
      clear h2
      go_enter Tryz.func33, Tryz.ntmps33
      go_wp2_with (first | (go_at_call 41; refine (HT.out _).mono ?_; rintro e w1 ⟨y0, A, c, rfl, hcl, hb1⟩; obtain ⟨hy, hco⟩ := hcl rfl; clear hcl; subst hy) | (go_at_call 28; refine (HA.out _).mono ?_; rintro e w2 ⟨rfl, hb2⟩; obtain ⟨c0, c1, c2, c3, f0, f1, f2, f3⟩ := blk4 (blk_new hb2)))
      go_ret2
      exact ⟨rfl, andThen hb1 (below_past hb2)⟩
    · rw [if_neg h2]
      obtain ⟨hi0, hi1⟩ := Pg.slotAt_lt h2
      obtain ⟨k, rfl⟩ := Int.eq_ofNat_of_zero_le hi0
      rw [show ((k : Int)).toNat = k from rfl]
      exact rpdel_in p k hm hb (by omega) h2 w
end Go.Proofs.YtkndifannjpbcaaGreatDoor
/- The plain laws of pages, on texts. -/
namespace Go.Proofs.YtkndifannjpbcaaGreatDoor
open Go.RowKit

theorem list_of (l : List UInt8) : (⟨l.toArray⟩ : ByteArray).data.toList = l := rfl
theorem of_list (p : ByteArray) : (⟨p.data.toList.toArray⟩ : ByteArray) = p := by
  apply ByteArray.ext
  rw [Array.toArray_toList]
theorem bytes_eq {p q : ByteArray} (h : p.data.toList = q.data.toList) : p = q := ByteArray.ext (Array.toList_inj.1 h)
theorem isPg_of {p : ByteArray} {x : Pg.Leaf} (h : Pg.right p.data.toList = some x) : isPg p = true ∧ leafP p = x := by
  unfold isPg leafP Pg.leafOf
  rw [h]
  exact ⟨rfl, rfl⟩
theorem right_of_isPg {p : ByteArray} (h : isPg p = true) : Pg.right p.data.toList = some (leafP p) := by
  unfold isPg at h
  unfold leafP Pg.leafOf
  cases hr : Pg.right p.data.toList with
  | none => rw [hr] at h; cases h
  | some x => rfl
theorem size_list (p : ByteArray) : p.data.toList.length = p.size := by simp
/-- A laid page, as a text. -/
def pageB (x : Pg.Leaf) : ByteArray := ⟨(Pg.layL x).toArray⟩
theorem pageB_list (x : Pg.Leaf) : (pageB x).data.toList = Pg.layL x := rfl
theorem pageB_size {x : Pg.Leaf} (hs : Pg.sizeN (Pg.trim x.recs) ≤ 512) : (pageB x).size = 512 := by
  rw [← size_list, pageB_list]; exact Pg.layL_length hs
theorem pageB_is {x : Pg.Leaf} (hx : Pg.Small x) (hs : Pg.sizeN (Pg.trim x.recs) ≤ 512) (he : ∀ r ∈ x.recs, r.size ≤ 400) : isPg (pageB x) = true ∧ leafP (pageB x) = { x with recs := Pg.trim x.recs } :=
  isPg_of (by rw [pageB_list]; exact Pg.right_layL hx hs he)
theorem fullO_pageB {x : Pg.Leaf} (hs : Pg.sizeN (Pg.trim x.recs) ≤ 512) : Pg.fullO x = (pageB x, 0) := Pg.fullO_yes hs
theorem fullO_cases (x : Pg.Leaf) : (Pg.sizeN (Pg.trim x.recs) ≤ 512 ∧ Pg.fullO x = (pageB x, 0)) ∨ (512 < Pg.sizeN (Pg.trim x.recs) ∧ Pg.fullO x = (⟨#[]⟩, 18)) := by
  rcases Nat.lt_or_ge 512 (Pg.sizeN (Pg.trim x.recs)) with h | h
  · exact .inr ⟨h, Pg.fullO_no h⟩
  · exact .inl ⟨h, Pg.fullO_yes h⟩

/-- The sum takes four bytes. -/
theorem putB4 (n : Nat) : (Oct.putB (n : Int) 4).data.toList = Oct.putL (Oct.word n) 4 := Oct.putB_list _ 4 (by omega)
theorem sealT_list (t : ByteArray) : (sealT t).data.toList = Oct.putL (Oct.word (Oct.sumN t.data.toList)) 4 ++ t.data.toList := by
  unfold sealT
  rw [ByteArray.data_append, Array.toList_append, putB4]
theorem extract_list (p : ByteArray) (h : p.size = 512) : (p.extract 4 512).data.toList = p.data.toList.drop 4 := by
  rw [show 512 = 4 + 508 from rfl, extract_eq]
  show (p.data.toList.drop 4).take 508 = _
  exact List.take_of_length_le (by rw [List.length_drop, size_list]; omega)
/-- A page with its sum is the same page, and has its sum. -/
theorem sealB_is {p : ByteArray} (h : isPg p = true) : isPg (sealB p) = true ∧ leafP (sealB p) = leafP p ∧ sealedP (sealB p) = true ∧ (sealB p).size = 512 := by
  have h5 := isPg_size h
  have hl : (sealB p).data.toList = Oct.putL (Oct.word (Oct.sumN (p.data.toList.drop 4))) 4 ++ p.data.toList.drop 4 := by
    unfold sealB
    rw [if_pos h, sealT_list, extract_list p h5]
  have hz : (sealB p).size = 512 := by
    rw [← size_list, hl, List.length_append, Oct.putL_length, List.length_drop, size_list]; omega
  have hd : (sealB p).data.toList.drop 4 = p.data.toList.drop 4 := by rw [hl]; exact List.drop_left' (Oct.putL_length _ 4)
  have hr := Pg.right_sum (q := (sealB p).data.toList) (right_of_isPg h) (by rw [size_list]; exact hz) hd
  obtain ⟨h1, h2⟩ := isPg_of hr
  refine ⟨h1, h2, ?_, hz⟩
  unfold sealedP
  rw [h1, Bool.true_and]
  apply decide_eq_true
  apply bytes_eq
  rw [sealT_list, extract_list _ hz, hd]
  exact hl.symm
end Go.Proofs.YtkndifannjpbcaaGreatDoor
/- The plain laws of pages: records told slot by slot; what undoes what. -/
namespace Pg
/-- The record of a slot; empty: there is none. -/
def rec_ (rs : List ByteArray) (j : Nat) : ByteArray := (rs[j]?).getD ⟨#[]⟩
theorem rec_past {rs : List ByteArray} {j : Nat} (h : rs.length ≤ j) : rec_ rs j = ⟨#[]⟩ := by
  unfold rec_; rw [List.getElem?_eq_none h]; rfl
theorem rec_in {rs : List ByteArray} {j : Nat} (h : j < rs.length) : rec_ rs j = rs[j] := by
  unfold rec_; rw [List.getElem?_eq_getElem h]; rfl
theorem slotAt_rec (rs : List ByteArray) (k : Nat) : slotAt rs (k : Int) = rec_ rs k := by
  unfold slotAt rec_
  rw [if_neg (by omega)]; rfl
theorem nil_of_size {r : ByteArray} (h : r.size = 0) : r = ⟨#[]⟩ := by
  apply ByteArray.ext
  exact Array.eq_empty_of_size_eq_zero h
theorem trimN_rest (rs : List ByteArray) : ∀ m j, trimN rs m ≤ j → j < m → (rec_ rs j).size = 0 := by
  intro m
  induction m with
  | zero => intro j _ h; omega
  | succ m ih =>
    intro j h1 h2
    unfold trimN at h1
    split at h1
    · rename_i h0
      by_cases hj : j = m
      · rw [hj]; exact h0
      · exact ih j h1 (by omega)
    · omega
theorem trim_rec (rs : List ByteArray) (j : Nat) : rec_ (trim rs) j = rec_ rs j := by
  have hle := trimN_le rs rs.length
  by_cases h : j < trimN rs rs.length
  · unfold rec_ trim
    rw [List.getElem?_take_of_lt h]
  · have h1 : rec_ (trim rs) j = ⟨#[]⟩ := rec_past (by unfold trim; rw [List.length_take]; omega)
    rw [h1]
    by_cases hj : j < rs.length
    · exact (nil_of_size (trimN_rest rs rs.length j (by omega) hj)).symm
    · exact (rec_past (by omega)).symm
theorem tight_ext {rs ss : List ByteArray} (h1 : Tight rs) (h2 : Tight ss) (h : ∀ j, rec_ rs j = rec_ ss j) : rs = ss := by
  have key : ∀ {a b : List ByteArray}, Tight a → (∀ j, rec_ a j = rec_ b j) → a.length ≤ b.length := by
    intro a b ha hab
    rcases tight_last ha with h0 | h0
    · omega
    · rcases Nat.lt_or_ge b.length a.length with hlt | hge
      · exfalso
        apply h0
        have h3 := hab (a.length - 1)
        have h4 : rec_ b (a.length - 1) = ⟨#[]⟩ := rec_past (by omega)
        rw [h4] at h3
        unfold rec_ at h3
        rw [h3]; rfl
      · exact hge
  have hl : rs.length = ss.length := Nat.le_antisymm (key h1 h) (key h2 fun j => (h j).symm)
  apply List.ext_getElem hl
  intro j hj1 hj2
  have := h j
  rwa [rec_in hj1, rec_in hj2] at this
theorem trim_ext {rs ss : List ByteArray} (h : ∀ j, rec_ rs j = rec_ ss j) : trim rs = trim ss :=
  tight_ext (trim_trim rs) (trim_trim ss) fun j => by rw [trim_rec, trim_rec, h]
theorem putAt_rec (rs : List ByteArray) (k : Nat) (r : ByteArray) (j : Nat) : rec_ (putAt rs k r) j = if j = k then r else rec_ rs j := putAt_get rs k r j
theorem insAt_rec (rs : List ByteArray) (k : Nat) (r : ByteArray) (j : Nat) : rec_ (insAt rs k r) j = if j < k then rec_ rs j else if j = k then r else rec_ rs (j - 1) := by
  unfold insAt
  split
  · rename_i h
    rw [putAt_rec]
    by_cases h1 : j = k
    · rw [if_pos h1, if_neg (by omega), if_pos h1]
    · rw [if_neg h1]
      by_cases h2 : j < k
      · rw [if_pos h2]
      · rw [if_neg h2, if_neg h1, rec_past (by omega), rec_past (by omega)]
  · rename_i h
    unfold rec_
    rw [List.append_assoc, List.getElem?_append]
    have hl : (rs.take k).length = k := by rw [List.length_take]; omega
    rw [hl]
    by_cases h2 : j < k
    · rw [if_pos h2, if_pos h2, List.getElem?_take_of_lt h2]
    · rw [if_neg h2, if_neg h2, List.singleton_append]
      by_cases h1 : j = k
      · rw [if_pos h1, h1, Nat.sub_self]; rfl
      · rw [if_neg h1]
        obtain ⟨m, rfl⟩ : ∃ m, j = k + 1 + m := ⟨j - (k + 1), by omega⟩
        rw [show k + 1 + m - k = m + 1 by omega, List.getElem?_cons_succ, List.getElem?_drop, show k + 1 + m - 1 = k + m by omega]
theorem delAt_rec (rs : List ByteArray) (k : Nat) (h : k < rs.length) (j : Nat) : rec_ (delAt rs k) j = if j < k then rec_ rs j else rec_ rs (j + 1) := by
  unfold delAt rec_
  rw [List.getElem?_append]
  have hl : (rs.take k).length = k := by rw [List.length_take]; omega
  rw [hl]
  by_cases h2 : j < k
  · rw [if_pos h2, if_pos h2, List.getElem?_take_of_lt h2]
  · rw [if_neg h2, if_neg h2, List.getElem?_drop, show k + 1 + (j - k) = j + 1 by omega]
theorem freeN_rec (rs : List ByteArray) : (rec_ rs (freeN rs)).size = 0 := by
  induction rs with
  | nil => rfl
  | cons r rs ih =>
    unfold freeN
    split
    · rename_i h; exact h
    · exact ih
end Pg
namespace Go.Proofs.YtkndifannjpbcaaGreatDoor
open Go.RowKit

/-- What a change that went well has made: a page with these records. -/
structure Made (p q : ByteArray) (rs : List ByteArray) : Prop where
  isPg : isPg q = true
  size : q.size = 512
  lsn : (leafP q).lsn = (leafP p).lsn
  kind : (leafP q).kind = (leafP p).kind
  link : (leafP q).link = (leafP p).link
  rec_ : ∀ j, Pg.rec_ (leafP q).recs j = Pg.rec_ rs j
theorem full_made {p q : ByteArray} {rs : List ByteArray} {e : Int} (he : ∀ r ∈ rs, r.size ≤ 400) (h : Pg.fullO (withRecs p rs) = (q, e)) (h0 : e = 0) : Made p q rs ∧ q = pageB (withRecs p rs) := by
  rcases fullO_cases (withRecs p rs) with ⟨hs, h1⟩ | ⟨hs, h1⟩
  · rw [h1] at h
    injection h with hq _
    obtain ⟨h2, h3⟩ := pageB_is (withRecs_small p rs) hs he
    rw [hq] at h2 h3
    refine ⟨⟨h2, by rw [← hq]; exact pageB_size hs, by rw [h3]; rfl, by rw [h3]; rfl, by rw [h3]; rfl, fun j => ?_⟩, hq.symm⟩
    rw [h3]
    exact Pg.trim_rec rs j
  · rw [h1] at h
    injection h with _ h4
    omega
/-- A page's own bytes, with the sum 0. -/
theorem plain_page {p : ByteArray} (h : isPg p = true) : lsnB p ((leafP p).lsn : Nat) = pageB (leafP p) := by
  have h1 := (leafP_good p).fine.small.1
  unfold lsnB
  rw [if_neg (by rw [h]; simp; omega)]
  rfl
/-- The page of records that are, slot by slot, a page's own, is that page with the sum 0. -/
theorem back_page {p q : ByteArray} {rs : List ByteArray} (hp : isPg p = true) (h1 : (leafP q).lsn = (leafP p).lsn) (h2 : (leafP q).kind = (leafP p).kind) (h3 : (leafP q).link = (leafP p).link) (h : ∀ j, Pg.rec_ rs j = Pg.rec_ (leafP p).recs j) :
    Pg.fullO (withRecs q rs) = (lsnB p ((leafP p).lsn : Nat), 0) := by
  have hg := leafP_good p
  have ht : Pg.trim rs = (leafP p).recs := by rw [Pg.trim_ext h]; exact Pg.trim_of_tight hg.tight
  have hs : Pg.sizeN (Pg.trim (withRecs q rs).recs) ≤ 512 := by show Pg.sizeN (Pg.trim rs) ≤ 512; rw [ht]; exact hg.fits
  rw [plain_page hp, fullO_pageB hs]
  have e : Pg.layL (withRecs q rs) = Pg.layL (leafP p) := by
    unfold Pg.layL
    have e1 : (withRecs q rs).recs = rs := rfl
    rw [e1, ht, Pg.trim_of_tight hg.tight]
    unfold Pg.layR Pg.headL
    rw [show (withRecs q rs).lsn = (leafP p).lsn from h1, show (withRecs q rs).kind = (leafP p).kind from h2, show (withRecs q rs).link = (leafP p).link from h3]
  unfold pageB
  rw [e]
end Go.Proofs.YtkndifannjpbcaaGreatDoor
/- The plain laws of pages: each change undone; the other slots. -/
namespace Go.Proofs.YtkndifannjpbcaaGreatDoor
open Go.RowKit

theorem out_eq {a b : ByteArray} {x y : Int} (h : (a, x) = (b, y)) : a = b ∧ x = y := by injection h with h1 h2; exact ⟨h1, h2⟩
theorem not_false_true {b : Bool} (h : ¬ b = false) : b = true := by cases b; exact absurd rfl h; rfl
theorem leaf_each (p : ByteArray) : ∀ r ∈ (leafP p).recs, r.size ≤ 400 := (leafP_good p).fine.each
theorem putO_ok {p q r : ByteArray} {i : Int} (h : putO p i r = (q, 0)) : ∃ k : Nat, i = k ∧ isPg p = true ∧ (Pg.rec_ (leafP p).recs k).size = 0 ∧ mayB r = true ∧ k ≤ 512 ∧ Made p q (Pg.putAt (leafP p).recs k r) := by
  unfold putO at h
  split at h
  · have := (out_eq h).2; omega
  · rename_i h1
    split at h
    · have := (out_eq h).2; omega
    · rename_i h2
      obtain ⟨k, rfl⟩ := Int.eq_ofNat_of_zero_le (show 0 ≤ i by omega)
      rw [Pg.slotAt_rec] at h
      split at h
      · have := (out_eq h).2; omega
      · rename_i h3
        split at h
        · have := (out_eq h).2; omega
        · rename_i h4
          split at h
          · have := (out_eq h).2; omega
          · rename_i h5
            have hm : mayB r = true := by simpa using h4
            refine ⟨k, rfl, not_false_true h1, by simpa using h3, hm, by omega, (full_made (Pg.putAt_mem (leaf_each p) (mayB_yes hm).2) h rfl).1⟩
theorem cutO_ok {p q : ByteArray} {i : Int} (h : cutO p i = (q, 0)) : ∃ k : Nat, i = k ∧ isPg p = true ∧ (Pg.rec_ (leafP p).recs k).size ≠ 0 ∧ k < (leafP p).recs.length ∧ Made p q (Pg.putAt (leafP p).recs k ⟨#[]⟩) := by
  unfold cutO at h
  split at h
  · have := (out_eq h).2; omega
  · rename_i h1
    split at h
    · have := (out_eq h).2; omega
    · rename_i h2
      obtain ⟨h3, h4⟩ := Pg.slotAt_lt h2
      obtain ⟨k, rfl⟩ := Int.eq_ofNat_of_zero_le h3
      rw [Pg.slotAt_rec] at h2
      exact ⟨k, rfl, not_false_true h1, h2, by omega, (full_made (Pg.putAt_mem (leaf_each p) (by show (0 : Nat) ≤ 400; omega)) h rfl).1⟩
theorem setO_ok {p q r : ByteArray} {i : Int} (h : setO p i r = (q, 0)) : ∃ k : Nat, i = k ∧ isPg p = true ∧ mayB r = true ∧ (Pg.rec_ (leafP p).recs k).size ≠ 0 ∧ k < (leafP p).recs.length ∧ Made p q (Pg.putAt (leafP p).recs k r) := by
  unfold setO at h
  split at h
  · have := (out_eq h).2; omega
  · rename_i h1
    split at h
    · have := (out_eq h).2; omega
    · rename_i h5
      split at h
      · have := (out_eq h).2; omega
      · rename_i h2
        have hm : mayB r = true := by simpa using h5
        obtain ⟨h3, h4⟩ := Pg.slotAt_lt h2
        obtain ⟨k, rfl⟩ := Int.eq_ofNat_of_zero_le h3
        rw [Pg.slotAt_rec] at h2
        exact ⟨k, rfl, not_false_true h1, hm, h2, by omega, (full_made (Pg.putAt_mem (leaf_each p) (mayB_yes hm).2) h rfl).1⟩
theorem addO_ok {p q r : ByteArray} {i : Int} (h : addO p i r = (q, 0)) : ∃ k : Nat, i = k ∧ isPg p = true ∧ mayB r = true ∧ k ≤ 512 ∧ Made p q (Pg.insAt (leafP p).recs k r) := by
  unfold addO at h
  split at h
  · have := (out_eq h).2; omega
  · rename_i h1
    split at h
    · have := (out_eq h).2; omega
    · rename_i h2
      obtain ⟨k, rfl⟩ := Int.eq_ofNat_of_zero_le (show 0 ≤ i by omega)
      split at h
      · have := (out_eq h).2; omega
      · rename_i h5
        split at h
        · have := (out_eq h).2; omega
        · have hm : mayB r = true := by simpa using h5
          exact ⟨k, rfl, not_false_true h1, hm, by omega, (full_made (Pg.insAt_mem (leaf_each p) (mayB_yes hm).2) h rfl).1⟩
theorem delO_ok {p q : ByteArray} {i : Int} (h : delO p i = (q, 0)) : ∃ k : Nat, i = k ∧ isPg p = true ∧ (Pg.rec_ (leafP p).recs k).size ≠ 0 ∧ k < (leafP p).recs.length ∧ Made p q (Pg.delAt (leafP p).recs k) := by
  unfold delO at h
  split at h
  · have := (out_eq h).2; omega
  · rename_i h1
    split at h
    · have := (out_eq h).2; omega
    · rename_i h2
      obtain ⟨h3, h4⟩ := Pg.slotAt_lt h2
      obtain ⟨k, rfl⟩ := Int.eq_ofNat_of_zero_le h3
      rw [Pg.slotAt_rec] at h2
      exact ⟨k, rfl, not_false_true h1, h2, by omega, (full_made (Pg.delAt_mem (leaf_each p)) h rfl).1⟩

theorem rec_lt {rs : List ByteArray} {k : Nat} (h : (Pg.rec_ rs k).size ≠ 0) : k < rs.length := by
  rcases Nat.lt_or_ge k rs.length with h1 | h1
  · exact h1
  · rw [Pg.rec_past h1] at h; exact absurd rfl h
theorem rec_may {p : ByteArray} {k : Nat} (h : (Pg.rec_ (leafP p).recs k).size ≠ 0) : mayB (Pg.rec_ (leafP p).recs k) = true := by
  unfold mayB
  apply decide_eq_true
  have hl := rec_lt h
  refine ⟨by omega, ?_⟩
  rw [Pg.rec_in hl]
  exact leaf_each p _ (List.getElem_mem hl)
theorem putO_do {p r : ByteArray} {k : Nat} (h1 : isPg p = true) (h2 : (Pg.rec_ (leafP p).recs k).size = 0) (h3 : mayB r = true) (h4 : k ≤ 512) : putO p k r = Pg.fullO (withRecs p (Pg.putAt (leafP p).recs k r)) := by
  unfold putO
  rw [if_neg (by rw [h1]; simp), if_neg (by omega), if_neg (by rw [Pg.slotAt_rec]; omega), if_neg (by rw [h3]; simp), if_neg (by omega)]; rfl
theorem cutO_do {p : ByteArray} {k : Nat} (h1 : isPg p = true) (h2 : (Pg.rec_ (leafP p).recs k).size ≠ 0) : cutO p k = Pg.fullO (withRecs p (Pg.putAt (leafP p).recs k ⟨#[]⟩)) := by
  unfold cutO
  rw [if_neg (by rw [h1]; simp), if_neg (by rw [Pg.slotAt_rec]; exact h2)]; rfl
theorem setO_do {p r : ByteArray} {k : Nat} (h1 : isPg p = true) (h3 : mayB r = true) (h2 : (Pg.rec_ (leafP p).recs k).size ≠ 0) : setO p k r = Pg.fullO (withRecs p (Pg.putAt (leafP p).recs k r)) := by
  unfold setO
  rw [if_neg (by rw [h1]; simp), if_neg (by rw [h3]; simp), if_neg (by rw [Pg.slotAt_rec]; exact h2)]; rfl
theorem addO_do {p r : ByteArray} {k : Nat} (h1 : isPg p = true) (h3 : mayB r = true) (h4 : k ≤ 512) : addO p k r = Pg.fullO (withRecs p (Pg.insAt (leafP p).recs k r)) := by
  unfold addO
  rw [if_neg (by rw [h1]; simp), if_neg (by omega), if_neg (by rw [h3]; simp), if_neg (by omega)]; rfl
theorem delO_do {p : ByteArray} {k : Nat} (h1 : isPg p = true) (h2 : (Pg.rec_ (leafP p).recs k).size ≠ 0) : delO p k = Pg.fullO (withRecs p (Pg.delAt (leafP p).recs k)) := by
  unfold delO
  rw [if_neg (by rw [h1]; simp), if_neg (by rw [Pg.slotAt_rec]; exact h2)]; rfl

/-- A page's bytes, with the sum 0. -/
def plB (p : ByteArray) : ByteArray := lsnB p ((leafP p).lsn : Nat)
theorem back1 {p q r : ByteArray} {i : Int} (h : putO p i r = (q, 0)) : (Pg.slotAt (leafP p).recs i).size = 0 ∧ q.size = 512 ∧ cutO q i = (plB p, 0) := by
  obtain ⟨k, rfl, hp, h0, hm, hk, M⟩ := putO_ok h
  have hr := mayB_yes hm
  refine ⟨by rw [Pg.slotAt_rec]; exact h0, M.size, ?_⟩
  rw [cutO_do M.isPg (by rw [M.rec_, Pg.putAt_rec, if_pos rfl]; omega)]
  refine back_page hp M.lsn M.kind M.link fun j => ?_
  rw [Pg.putAt_rec, M.rec_, Pg.putAt_rec]
  by_cases hj : j = k
  · rw [if_pos hj, hj, Pg.nil_of_size h0]
  · rw [if_neg hj, if_neg hj]
theorem back2 {p q : ByteArray} {i : Int} (h : cutO p i = (q, 0)) : (Pg.slotAt (leafP p).recs i).size ≠ 0 ∧ q.size = 512 ∧ putO q i (Pg.slotAt (leafP p).recs i) = (plB p, 0) := by
  obtain ⟨k, rfl, hp, h0, hk, M⟩ := cutO_ok h
  have hl := (leafP_good p).fine.len
  rw [Pg.slotAt_rec]
  refine ⟨h0, M.size, ?_⟩
  rw [putO_do M.isPg (by rw [M.rec_, Pg.putAt_rec, if_pos rfl]; rfl) (rec_may h0) (by omega)]
  refine back_page hp M.lsn M.kind M.link fun j => ?_
  rw [Pg.putAt_rec, M.rec_, Pg.putAt_rec]
  by_cases hj : j = k
  · rw [if_pos hj, hj]
  · rw [if_neg hj, if_neg hj]
theorem back3 {p q r : ByteArray} {i : Int} (h : setO p i r = (q, 0)) : (Pg.slotAt (leafP p).recs i).size ≠ 0 ∧ q.size = 512 ∧ setO q i (Pg.slotAt (leafP p).recs i) = (plB p, 0) ∧ (leafP q).lsn = (leafP p).lsn ∧ (leafP q).kind = (leafP p).kind ∧ (leafP q).link = (leafP p).link := by
  obtain ⟨k, rfl, hp, hm, h0, hk, M⟩ := setO_ok h
  have hr := mayB_yes hm
  rw [Pg.slotAt_rec]
  refine ⟨h0, M.size, ?_, M.lsn, M.kind, M.link⟩
  rw [setO_do M.isPg (rec_may h0) (by rw [M.rec_, Pg.putAt_rec, if_pos rfl]; omega)]
  refine back_page hp M.lsn M.kind M.link fun j => ?_
  rw [Pg.putAt_rec, M.rec_, Pg.putAt_rec]
  by_cases hj : j = k
  · rw [if_pos hj, hj]
  · rw [if_neg hj, if_neg hj]
theorem back4 {p q r : ByteArray} {i : Int} (h : addO p i r = (q, 0)) : q.size = 512 ∧ delO q i = (plB p, 0) := by
  obtain ⟨k, rfl, hp, hm, hk, M⟩ := addO_ok h
  have hr := mayB_yes hm
  refine ⟨M.size, ?_⟩
  have h1 : (Pg.rec_ (leafP q).recs k).size ≠ 0 := by rw [M.rec_, Pg.insAt_rec, if_neg (by omega), if_pos rfl]; omega
  rw [delO_do M.isPg h1]
  refine back_page hp M.lsn M.kind M.link fun j => ?_
  rw [Pg.delAt_rec _ _ (rec_lt h1)]
  by_cases hj : j < k
  · rw [if_pos hj, M.rec_, Pg.insAt_rec, if_pos hj]
  · rw [if_neg hj, M.rec_, Pg.insAt_rec, if_neg (by omega), if_neg (by omega), Nat.add_sub_cancel]
theorem back5 {p q : ByteArray} {i : Int} (h : delO p i = (q, 0)) : q.size = 512 ∧ addO q i (Pg.slotAt (leafP p).recs i) = (plB p, 0) := by
  obtain ⟨k, rfl, hp, h0, hk, M⟩ := delO_ok h
  have hl := (leafP_good p).fine.len
  rw [Pg.slotAt_rec]
  refine ⟨M.size, ?_⟩
  rw [addO_do M.isPg (rec_may h0) (by omega)]
  refine back_page hp M.lsn M.kind M.link fun j => ?_
  rw [Pg.insAt_rec, M.rec_, M.rec_, Pg.delAt_rec _ _ hk, Pg.delAt_rec _ _ hk]
  by_cases hj : j < k
  · rw [if_pos hj, if_pos hj]
  · rw [if_neg hj]
    by_cases hj2 : j = k
    · rw [if_pos hj2, hj2]
    · rw [if_neg hj2, if_neg (by omega), show j - 1 + 1 = j by omega]

/-- A change that went wrong gives no page. -/
theorem putO_bad (p r : ByteArray) (i : Int) : (putO p i r).2 = 0 ∨ (putO p i r).1 = ⟨#[]⟩ := by
  unfold putO
  repeat' split
  all_goals first | exact .inr rfl | (rcases fullO_cases (withRecs p (Pg.putAt (leafP p).recs i.toNat r)) with ⟨_, h⟩ | ⟨_, h⟩ <;> rw [h] <;> simp)
theorem cutO_bad (p : ByteArray) (i : Int) : (cutO p i).2 = 0 ∨ (cutO p i).1 = ⟨#[]⟩ := by
  unfold cutO
  repeat' split
  all_goals first | exact .inr rfl | (rcases fullO_cases (withRecs p (Pg.putAt (leafP p).recs i.toNat ⟨#[]⟩)) with ⟨_, h⟩ | ⟨_, h⟩ <;> rw [h] <;> simp)
theorem setO_bad (p r : ByteArray) (i : Int) : (setO p i r).2 = 0 ∨ (setO p i r).1 = ⟨#[]⟩ := by
  unfold setO
  repeat' split
  all_goals first | exact .inr rfl | (rcases fullO_cases (withRecs p (Pg.putAt (leafP p).recs i.toNat r)) with ⟨_, h⟩ | ⟨_, h⟩ <;> rw [h] <;> simp)
/-- The other slots stay. -/
theorem other1 {p q r : ByteArray} {i : Int} {o : Nat} (h : putO p i r = (q, 0)) (ho : i ≠ o) : q.size = 512 ∧ Pg.slotAt (leafP q).recs o = Pg.slotAt (leafP p).recs o := by
  obtain ⟨k, rfl, hp, h0, hm, hk, M⟩ := putO_ok h
  refine ⟨M.size, ?_⟩
  rw [Pg.slotAt_rec, Pg.slotAt_rec, M.rec_, Pg.putAt_rec, if_neg (by omega)]
theorem other2 {p q r : ByteArray} {i : Int} {o : Nat} (h : setO p i r = (q, 0)) (ho : i ≠ o) : q.size = 512 ∧ Pg.slotAt (leafP q).recs o = Pg.slotAt (leafP p).recs o := by
  obtain ⟨k, rfl, hp, hm, h0, hk, M⟩ := setO_ok h
  refine ⟨M.size, ?_⟩
  rw [Pg.slotAt_rec, Pg.slotAt_rec, M.rec_, Pg.putAt_rec, if_neg (by omega)]
theorem other3 {p q : ByteArray} {i : Int} {o : Nat} (h : cutO p i = (q, 0)) (ho : i ≠ o) : q.size = 512 ∧ Pg.slotAt (leafP q).recs o = Pg.slotAt (leafP p).recs o := by
  obtain ⟨k, rfl, hp, h0, hk, M⟩ := cutO_ok h
  refine ⟨M.size, ?_⟩
  rw [Pg.slotAt_rec, Pg.slotAt_rec, M.rec_, Pg.putAt_rec, if_neg (by omega)]
theorem other4 {p q r : ByteArray} {i : Int} {o : Nat} (h : addO p i r = (q, 0)) : q.size = 512 ∧ Pg.slotAt (leafP q).recs i = r ∧ r.size ≠ 0 ∧
    (i ≤ o → Pg.slotAt (leafP q).recs ((o : Int) + 1) = Pg.slotAt (leafP p).recs o) ∧ ((o : Int) < i → Pg.slotAt (leafP q).recs o = Pg.slotAt (leafP p).recs o) := by
  obtain ⟨k, rfl, hp, hm, hk, M⟩ := addO_ok h
  have hr := mayB_yes hm
  refine ⟨M.size, ?_, by omega, fun h => ?_, fun h => ?_⟩
  · rw [Pg.slotAt_rec, M.rec_, Pg.insAt_rec, if_neg (by omega), if_pos rfl]
  · rw [show (o : Int) + 1 = ((o + 1 : Nat) : Int) by omega, Pg.slotAt_rec, Pg.slotAt_rec, M.rec_, Pg.insAt_rec, if_neg (by omega), if_neg (by omega), Nat.add_sub_cancel]
  · rw [Pg.slotAt_rec, Pg.slotAt_rec, M.rec_, Pg.insAt_rec, if_pos (by omega)]
theorem other5 {p q : ByteArray} {i : Int} {o : Nat} (h : delO p i = (q, 0)) : q.size = 512 ∧
    (i < o → Pg.slotAt (leafP q).recs ((o : Int) - 1) = Pg.slotAt (leafP p).recs o) ∧ ((o : Int) < i → Pg.slotAt (leafP q).recs o = Pg.slotAt (leafP p).recs o) := by
  obtain ⟨k, rfl, hp, h0, hk, M⟩ := delO_ok h
  refine ⟨M.size, fun h => ?_, fun h => ?_⟩
  · rw [show (o : Int) - 1 = ((o - 1 : Nat) : Int) by omega, Pg.slotAt_rec, Pg.slotAt_rec, M.rec_, Pg.delAt_rec _ _ hk, if_neg (by omega), show o - 1 + 1 = o by omega]
  · rw [Pg.slotAt_rec, Pg.slotAt_rec, M.rec_, Pg.delAt_rec _ _ hk, if_pos (by omega)]
end Go.Proofs.YtkndifannjpbcaaGreatDoor
/- The plain mathematics of the numbers' chapter: what the functions of package num and of the reference compute, and that the two agree. -/
namespace NumPlain

def inN (n : Int) : Bool := decide (-1000000000000000 ≤ n) && decide (n ≤ 1000000000000000)

theorem inN_true {n : Int} (h : inN n = true) : -1000000000000000 ≤ n ∧ n ≤ 1000000000000000 := by
  simpa [inN] using h
theorem inN_false {n : Int} (h : inN n = false) : n < -1000000000000000 ∨ 1000000000000000 < n := by
  by_cases h1 : -1000000000000000 ≤ n
  · right
    by_cases h2 : n ≤ 1000000000000000
    · simp [inN, h1, h2] at h
    · omega
  · left; omega
theorem inN_of {n : Int} (h1 : -1000000000000000 ≤ n) (h2 : n ≤ 1000000000000000) : inN n = true := by
  simp [inN, h1, h2]

def told (a b n : Int) : Int × Bool := if inN a && inN b && inN n then (n, true) else (0, false)
def told1 (n : Int) : Int × Bool := if inN n then (n, true) else (0, false)
def addN (a b : Int) : Int × Bool := told a b (a + b)
def subN (a b : Int) : Int × Bool := told a b (a - b)
def mulN (a b : Int) : Int × Bool := told a b (a * b)
def divN (a b : Int) : Int × Bool := if b = 0 then (0, false) else told a b (a.tdiv b)
def modN (a b : Int) : Int × Bool := if b = 0 then (0, false) else told a b (a.tmod b)
def sizeN (a : Int) : Int := if a < 0 then -a else a

theorem natAbs_bound {a : Int} (h : inN a = true) : a.natAbs ≤ 1000000000000000 := by
  have := inN_true h; omega

/-- The guard of the program's product: beyond the bound, exactly if the greater one is greater than the bound has of the other. -/
theorem mul_big {a b : Int} (hb : b ≠ 0) : (a.natAbs : Int) > (1000000000000000 : Int) / (b.natAbs : Int) ↔ 1000000000000000 < (a * b).natAbs := by
  have hbp : 0 < (b.natAbs : Int) := by omega
  rw [Int.natAbs_mul]
  have h := Int.ediv_lt_iff_lt_mul (a := 1000000000000000) (b := (a.natAbs : Int)) hbp
  constructor
  · intro hlt
    have := h.1 hlt
    have e : ((a.natAbs * b.natAbs : Nat) : Int) = (a.natAbs : Int) * (b.natAbs : Int) := by simp
    omega
  · intro hlt
    apply h.2
    have e : ((a.natAbs * b.natAbs : Nat) : Int) = (a.natAbs : Int) * (b.natAbs : Int) := by simp
    omega
theorem inN_natAbs (n : Int) : inN n = true ↔ n.natAbs ≤ 1000000000000000 := by
  constructor
  · intro h; have := inN_true h; omega
  · intro h; exact inN_of (by omega) (by omega)

theorem quot_in {a b : Int} (ha : inN a = true) : inN (a.tdiv b) = true := by
  rw [inN_natAbs] at ha ⊢
  rw [Int.natAbs_tdiv]
  exact Nat.le_trans (Nat.div_le_self _ _) ha
theorem rem_in {a b : Int} (ha : inN a = true) : inN (a.tmod b) = true := by
  rw [inN_natAbs] at ha ⊢
  rw [Int.natAbs_tmod]
  exact Nat.le_trans (Nat.mod_le _ _) ha

end NumPlain
/- The plain mathematics of decimal texts: the text of a number within the bounds is parsed back, and what both parsers compute is the same. -/
namespace NumPlain
open Go.Lib

/-- A byte of a digit. -/
theorem digit_toNat {d : Nat} (h : d < 10) : (UInt8.ofNat (48 + d)).toNat = 48 + d := by
  rw [UInt8.toNat_ofNat']; omega

theorem parse_digits : ∀ (u : Nat), u ≤ 1000000000000000 → parseUint10 0 (decDigits u) = .ok u := by
  have key : ∀ (u : Nat), u ≤ 1000000000000000 → ∀ r, parseUint10 0 (decDigits u ++ r) = parseUint10 u r := by
    intro u
    induction u using Nat.strongRecOn with
    | _ u ih =>
      intro hu r
      rw [decDigits]
      by_cases h : u < 10
      · rw [dif_pos h]
        simp only [List.cons_append, List.nil_append, parseUint10, digit_toNat h]
        rw [if_pos (by omega), if_neg (by omega), if_neg (by omega)]
        congr 1; omega
      · rw [dif_neg h, List.append_assoc, ih (u / 10) (by omega) (by omega)]
        simp only [List.cons_append, List.nil_append, parseUint10, digit_toNat (show u % 10 < 10 by omega)]
        rw [if_pos (by omega), if_neg (by omega), if_neg (by omega)]
        congr 1; omega
  intro u hu
  have := key u hu []
  simpa [parseUint10] using this

theorem decDigits_ne (u : Nat) : decDigits u ≠ [] := by
  rw [decDigits]; split <;> simp

theorem decDigits_head (u : Nat) : ∃ c r, decDigits u = c :: r ∧ 48 ≤ c.toNat ∧ c.toNat ≤ 57 := by
  induction u using Nat.strongRecOn with
  | _ u ih =>
    rw [decDigits]
    by_cases h : u < 10
    · rw [dif_pos h]
      exact ⟨_, _, rfl, by rw [digit_toNat h]; omega, by rw [digit_toNat h]; omega⟩
    · rw [dif_neg h]
      obtain ⟨c, r, e, h1, h2⟩ := ih (u / 10) (by omega)
      exact ⟨c, r ++ [UInt8.ofNat (48 + u % 10)], by rw [e]; rfl, h1, h2⟩

/-- A number within the bounds is read back from its text. -/
theorem atoiAll_itoa {v : Int} (hv : inN v = true) : atoiAll (itoa v) = .ok v := by
  obtain ⟨h1, h2⟩ := inN_true hv
  by_cases hn : v < 0
  · obtain ⟨u, rfl⟩ : ∃ u : Nat, v = -(u : Int) := ⟨v.natAbs, by omega⟩
    rw [itoa_neg u (by omega)]
    have hp : parseMag (decDigits u) = .ok u := by rw [parseMag, if_neg (decDigits_ne u), parse_digits u (by omega)]
    simp only [atoiAll]
    rw [if_pos (by decide), hp]
    simp only []
    rw [if_neg (by simp), if_neg (by omega), if_pos (by decide)]
  · obtain ⟨u, rfl⟩ : ∃ u : Nat, v = (u : Int) := ⟨v.natAbs, by omega⟩
    rw [itoa_nonneg u]
    obtain ⟨c, r, e, hc1, hc2⟩ := decDigits_head u
    have hp := parse_digits u (by omega)
    rw [e] at hp
    simp only [e, atoiAll]
    rw [if_neg (by omega)]
    simp only [parseMag, if_neg (List.cons_ne_nil c r), hp]
    rw [if_neg (by omega), if_neg (by omega), if_neg (by omega)]

/-- What package num's Parse computes. -/
def parseN (l : List UInt8) : Int × Bool :=
  match atoiAll l with
  | .ok v => if inN v && decide (itoa v = l) then (v, true) else (0, false)
  | _ => (0, false)

theorem parseN_itoa {v : Int} (hv : inN v = true) : parseN (itoa v) = (v, true) := by
  simp [parseN, atoiAll_itoa hv, hv]
theorem parseN_none {l : List UInt8} (h : ∀ v, inN v = true → itoa v ≠ l) : parseN l = (0, false) := by
  unfold parseN
  split
  · rename_i v hv
    rw [if_neg]
    intro hc
    simp only [Bool.and_eq_true, decide_eq_true_eq] at hc
    exact h v hc.1 hc.2
  · rfl

/-- What the reference's loop has collected from the digits of a text. -/
def gather (n : Int) : List UInt8 → Int
  | [] => n
  | c :: r => gather (if 48 ≤ c.toNat ∧ c.toNat ≤ 57 then 10 * n + c.toNat - 48 else n) r

theorem gather_append (n : Int) : ∀ (l r : List UInt8), gather n (l ++ r) = gather (gather n l) r := by
  intro l
  induction l generalizing n with
  | nil => intro r; rfl
  | cons c l ih => intro r; simp only [List.cons_append, gather]; exact ih _ r

theorem gather_bound : ∀ (l : List UInt8) (n : Int), 0 ≤ n → 0 ≤ gather n l ∧ gather n l < (n + 1) * 10 ^ l.length := by
  intro l
  induction l with
  | nil => intro n h; simp [gather]; omega
  | cons c l ih =>
    intro n h
    simp only [gather]
    have hp : (0 : Int) < 10 ^ l.length := Int.pow_pos (by omega)
    split
    · rename_i hc
      obtain ⟨h1, h2⟩ := ih (10 * n + c.toNat - 48) (by omega)
      refine ⟨h1, Int.lt_of_lt_of_le h2 ?_⟩
      rw [List.length_cons, Int.pow_succ, Int.mul_comm (10 ^ l.length) 10, ← Int.mul_assoc]
      exact Int.mul_le_mul_of_nonneg_right (by omega) (Int.le_of_lt hp)
    · obtain ⟨h1, h2⟩ := ih n h
      refine ⟨h1, Int.lt_of_lt_of_le h2 ?_⟩
      rw [List.length_cons, Int.pow_succ, Int.mul_comm (10 ^ l.length) 10, ← Int.mul_assoc]
      exact Int.mul_le_mul_of_nonneg_right (by omega) (Int.le_of_lt hp)

theorem gather_digits (u : Nat) : gather 0 (decDigits u) = u := by
  induction u using Nat.strongRecOn with
  | _ u ih =>
    rw [decDigits]
    by_cases h : u < 10
    · rw [dif_pos h]
      simp only [gather, digit_toNat h]
      rw [if_pos (by omega)]; omega
    · rw [dif_neg h, gather_append, ih (u / 10) (by omega)]
      simp only [gather, digit_toNat (show u % 10 < 10 by omega)]
      rw [if_pos (by omega)]; omega

/-- What the reference's Parse computes. -/
def signed (l : List UInt8) : Int := if l.head? = some 45 then - gather 0 l else gather 0 l
def parseR (l : List UInt8) : Int × Bool :=
  if 17 < l.length then (0, false) else if inN (signed l) && decide (itoa (signed l) = l) then (signed l, true) else (0, false)

theorem signed_itoa (v : Int) : signed (itoa v) = v := by
  by_cases hn : v < 0
  · obtain ⟨u, rfl⟩ : ∃ u : Nat, v = -(u : Int) := ⟨v.natAbs, by omega⟩
    rw [itoa_neg u (by omega)]
    simp only [signed, List.head?_cons, if_true]
    rw [show gather 0 (45 :: decDigits u) = gather 0 (decDigits u) from rfl, gather_digits]
  · obtain ⟨u, rfl⟩ : ∃ u : Nat, v = (u : Int) := ⟨v.natAbs, by omega⟩
    rw [itoa_nonneg u]
    obtain ⟨c, r, e, hc1, hc2⟩ := decDigits_head u
    rw [signed, if_neg, gather_digits]
    rw [e]
    simp only [List.head?_cons, Option.some.injEq]
    rintro rfl
    simp at hc1

theorem nDigits_le (u : Nat) (h : u ≤ 1000000000000000) : nDigits u ≤ 16 := by
  have key : ∀ (k u : Nat), u < 10 ^ (k + 1) → nDigits u ≤ k + 1 := by
    intro k
    induction k with
    | zero => intro u hu; rw [nDigits_small (by simpa using hu)]; exact Nat.le_refl _
    | succ k ih =>
      intro u hu
      by_cases h : u < 10
      · rw [nDigits_small h]; omega
      · rw [nDigits_big h]
        have := ih (u / 10) (by rw [Nat.div_lt_iff_lt_mul (by omega)]; rw [Nat.pow_succ] at hu; exact hu)
        omega
  exact key 15 u (by omega)

theorem itoa_short {v : Int} (hv : inN v = true) : (itoa v).length ≤ 17 := by
  obtain ⟨h1, h2⟩ := inN_true hv
  by_cases hn : v < 0
  · obtain ⟨u, rfl⟩ : ∃ u : Nat, v = -(u : Int) := ⟨v.natAbs, by omega⟩
    rw [itoa_neg u (by omega), List.length_cons, decDigits_length]
    have := nDigits_le u (by omega); omega
  · obtain ⟨u, rfl⟩ : ∃ u : Nat, v = (u : Int) := ⟨v.natAbs, by omega⟩
    rw [itoa_nonneg u, decDigits_length]
    have := nDigits_le u (by omega); omega

/-- The two parsers compute the same. -/
theorem parseR_eq (l : List UInt8) : parseR l = parseN l := by
  by_cases h : ∃ v, inN v = true ∧ itoa v = l
  · obtain ⟨v, hv, rfl⟩ := h
    rw [parseN_itoa hv, parseR, if_neg (by have := itoa_short hv; omega)]
    simp only [signed_itoa, hv]
    simp
  · have h' : ∀ v, inN v = true → itoa v ≠ l := fun v hv e => h ⟨v, hv, e⟩
    rw [parseN_none h', parseR]
    split
    · rfl
    · rw [if_neg]
      intro hc
      simp only [Bool.and_eq_true, decide_eq_true_eq] at hc
      exact h' _ hc.1 hc.2

theorem parseN_ok {l : List UInt8} {v : Int} (h : parseN l = (v, true)) : inN v = true ∧ itoa v = l := by
  unfold parseN at h
  split at h
  · split at h
    · rename_i hc
      simp only [Bool.and_eq_true, decide_eq_true_eq] at hc
      simp only [Prod.mk.injEq, and_true] at h
      subst h; exact hc
    · simp at h
  · simp at h
theorem parseN_snd {l : List UInt8} (h : (parseN l).2 = true) : inN (parseN l).1 = true ∧ itoa (parseN l).1 = l :=
  parseN_ok (v := (parseN l).1) (by rw [← h])

/-- The reference's Text goes digit by digit. -/
theorem itoa_step {n : Int} (h : 10 ≤ n.natAbs) : itoa n = itoa (n.tdiv 10) ++ [UInt8.ofNat (48 + n.natAbs % 10)] := by
  by_cases hn : n < 0
  · obtain ⟨u, rfl⟩ : ∃ u : Nat, n = -(u : Int) := ⟨n.natAbs, by omega⟩
    have e : (-(u : Int)).tdiv 10 = -((u / 10 : Nat) : Int) := by
      rw [Int.neg_tdiv]; congr 1
    rw [e, itoa_neg u (by omega), itoa_neg (u / 10) (by omega), decDigits, dif_neg (by omega)]
    simp
  · obtain ⟨u, rfl⟩ : ∃ u : Nat, n = (u : Int) := ⟨n.natAbs, by omega⟩
    have e : (u : Int).tdiv 10 = ((u / 10 : Nat) : Int) := by
      rw [Int.tdiv_eq_ediv_of_nonneg (by omega)]; rfl
    rw [e, itoa_nonneg, itoa_nonneg, decDigits, dif_neg (by omega)]
    simp
theorem itoa_one {d : Nat} (h : d < 10) : itoa (d : Int) = [UInt8.ofNat (48 + d)] := by
  rw [itoa_nonneg, decDigits, dif_pos h]
theorem itoa_minus {d : Nat} (h1 : 1 ≤ d) (h : d < 10) : itoa (-(d : Int)) = [45, UInt8.ofNat (48 + d)] := by
  rw [itoa_neg d h1, decDigits, dif_pos h]

/-- The ten digits, and a piece of them. -/
def digits : ByteArray := ⟨#[48, 49, 50, 51, 52, 53, 54, 55, 56, 57]⟩
theorem digits_piece (d : Nat) (h : d < 10) : digits.extract d (d + 1) = ⟨#[UInt8.ofNat (48 + d)]⟩ := by
  have : ∀ d : Fin 10, (digits.extract d.val (d.val + 1)).data = #[UInt8.ofNat (48 + d.val)] := by decide +kernel
  exact congrArg ByteArray.mk (this ⟨d, h⟩)

theorem tdiv10_neg {n : Int} (h : n < 0) : n.tdiv 10 = -((n.natAbs / 10 : Nat) : Int) ∧ n.tmod 10 = -((n.natAbs % 10 : Nat) : Int) := by
  obtain ⟨u, rfl⟩ : ∃ u : Nat, n = -(u : Int) := ⟨n.natAbs, by omega⟩
  rw [Int.neg_tdiv, Int.neg_tmod]
  constructor
  · rw [Int.tdiv_eq_ediv_of_nonneg (by omega)]; omega
  · rw [Int.tmod_eq_emod_of_nonneg (by omega)]; omega
end NumPlain
