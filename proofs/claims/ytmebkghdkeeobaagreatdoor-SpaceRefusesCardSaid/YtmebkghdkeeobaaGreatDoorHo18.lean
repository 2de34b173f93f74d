import Derived.Test.YtmebkghdkeeobaaGreatDoorHo00
import Derived.Test.YtmebkghdkeeobaaGreatDoorHo17
import Derived.Test.YtmebkghdkeeobaaGreatDoorHo15
import Derived.Test.YtmebkghdkeeobaaGreatDoorHo07
set_option maxRecDepth 100000
set_option maxHeartbeats 16000000
set_option linter.unusedSimpArgs false
namespace Go.Proofs.YtmebkghdkeeobaaGreatDoor
open Go.RowKit Sc
def HeOut (N n : Nat) (C : Nat → ByteArray) (s : Tx.St) (fs : List Fr) (pg : Nat) (w : World) (e : Ending) (w' : World) : Prop :=
  ∃ (s' : Tx.St) (q : SP) (fs' : List Fr) (k : Nat), e = .returned (.tuple #[storeV s' q, .int .i64 (k : Int), .int .i64 0]) ∧ PoolR w' s' q fs' ∧ PI N n s' fs' C ∧ Hk s s' fs fs' ∧ (∃ h : k < fs'.length, Full fs'[k] ∧ fs'[k].page = (pg : Int)) ∧ Below w.heap.size w w'
set_option maxRecDepth 100000 in
set_option maxHeartbeats 16000000 in
theorem pheld_any {N n : Nat} (s : Tx.St) (p : SP) (fs : List Fr) (C : Nat → ByteArray) (hI : PI N n s fs C) (pg : Nat) (hpg : pg < n) (w : World) (h : PoolR w s p fs) :
    Calls Tryz.prog 38 #[storeV s p, .int .i64 (pg : Int)] w (HeOut N n C s fs pg w) := by
  have hnf := hI.nf
  have hfl : fs.length ≤ 100 := by omega
  have HHS := Lib.hid (fun W => phas_any s p n hI.zp (pg : Int) W)
  rw [decide_eq_true (show 0 ≤ (pg : Int) ∧ (pg : Int) < (n : Int) from by omega)] at HHS
  have HAT := Lib.hid (fun W (hb : Below w.heap.size w W) => pat_any s p fs (by omega) (pg : Int) W (h.below hb))
  have HRE := Lib.hid (fun hd W (hb : Below w.heap.size w W) => pread_any s p fs C hI pg hpg hd W (h.st.dk.below hb))
  have HRM := Lib.hid (fun W (hb : Below w.heap.size w W) => proom_any s p fs C hI W (h.below hb))
  have HWI := Lib.hid (fun k hk f W (hb : Below w.heap.size w W) => pwith_any s p fs hfl k hk f W (h.below hb))
  have HFN := Lib.hid h.fn
  have HP := Lib.hid h
  have HI := Lib.hid hI
  clear h hI hnf hfl
  go_enter Tryz.func38, Tryz.ntmps38
  go_upto_region 1 with fail
  have H0 := Lib.hid (show BxL w.heap.size w [((stA s p), 36), (#[.int .i64 0, .int .i64 0, .int .i64 0, .slice none 0 0, .int .i64 0, .bool false, .int .i64 0, .int .i64 0, .int .i64 0, .int .i64 0, .string ⟨#[]⟩, .slice none 0 0, .int .i64 0, .slice none 0 0, .int .i64 0], 36)] ((w.alloc (.cells (stA s p) 36)).alloc (.cells #[.int .i64 0, .int .i64 0, .int .i64 0, .slice none 0 0, .int .i64 0, .bool false, .int .i64 0, .int .i64 0, .int .i64 0, .int .i64 0, .string ⟨#[]⟩, .slice none 0 0, .int .i64 0, .slice none 0 0, .int .i64 0] 36)) from (((BxL.nil (Below.refl w.heap.size w)).new (by simp) (stA s p) 36).new (by simp) #[.int .i64 0, .int .i64 0, .int .i64 0, .slice none 0 0, .int .i64 0, .bool false, .int .i64 0, .int .i64 0, .int .i64 0, .int .i64 0, .string ⟨#[]⟩, .slice none 0 0, .int .i64 0, .slice none 0 0, .int .i64 0] 36))
  obtain ⟨W0, hW0⟩ : ∃ W, W = ((w.alloc (.cells (stA s p) 36)).alloc (.cells #[.int .i64 0, .int .i64 0, .int .i64 0, .slice none 0 0, .int .i64 0, .bool false, .int .i64 0, .int .i64 0, .int .i64 0, .int .i64 0, .string ⟨#[]⟩, .slice none 0 0, .int .i64 0, .slice none 0 0, .int .i64 0] 36)) := ⟨_, rfl⟩
  rw [← hW0] at H0 ⊢
  clear hW0
  go_upto_region 3 with (first | (with_reducible refine listLoad (by kernel_rfl) 36 (.tmp 2) rfl w.heap.size rfl (stA s p) _ H0.out.get0 _ Tryz.underlying36 (by kernel_rfl) (by kernel_rfl) ?_) | (go_at_call 62; (refine (HHS.out _).mono ?_); rintro e w1 ⟨rfl, hb1⟩; have H1 := Lib.hid (H0.out.step hb1)))
  go_upto_region 4 with (first | (with_reducible refine listLoad (by kernel_rfl) 36 (.tmp 2) rfl w.heap.size rfl (stA s p) _ H1.out.get0 _ Tryz.underlying36 (by kernel_rfl) (by kernel_rfl) ?_) | (go_at_call 63; (refine (HAT.out _ H1.out.below).mono ?_); rintro e w2 ⟨kk, rfl, hq, hb2⟩; have H2 := Lib.hid (H1.out.step hb2); clear hb1 hb2 H0 H1 HHS HAT; rcases hq with ⟨rfl, hq⟩ | ⟨k, hk, rfl, hfk, _⟩))
  · have hm1 : ¬ (0 : Int) ≤ -1 := by decide
    have hno := FirstAt_none hq
    have HNO := Lib.hid hno
    have HR2 := Lib.hid (HRE.out (not_dirt hno))
    clear hq hno HWI HRE
    go_upto_region 9 with (first | (with_reducible refine listLoad (by kernel_rfl) 36 (.tmp 2) rfl w.heap.size rfl (stA s p) _ H2.out.get0 _ Tryz.underlying36 (by kernel_rfl) (by kernel_rfl) ?_) | (go_at_call 65; (refine (HR2.out _ H2.out.below).mono ?_); rintro e w3 ⟨rfl, hb3⟩; have H3 := Lib.hid (H2.out.step hb3); clear hb3))
    go_upto_region 12 with (first
      | (with_reducible refine listLoad (by kernel_rfl) 36 (.tmp 2) rfl w.heap.size rfl (stA s p) _ H3.out.get0 _ Tryz.underlying36 (by kernel_rfl) (by kernel_rfl) ?_)
      | (go_at_call 66; (refine (HRM.out _ H3.out.below).mono ?_); rintro e w4 ⟨s', q, fs', k, rfl, hp4, hi4, hk4, hg4, hc4, hb4⟩)
      | (with_reducible refine wpList_store_new rfl 36 (.tmp 11) (.tmp 48) rfl (stA s' q) _ _ rfl (by kernel_rfl) (by kernel_rfl) (by kernel_rfl) (by kernel_rfl) ?_))
    have hb5 := hb4.trans ((allocB w4 (.cells (stA s' q) 36)).mono hb4.size)
    have H5 := Lib.hid (H3.out.step hb5)
    have HG5 := Lib.hid (heap_alloc_new w4 (.cells (stA s' q) 36))
    have HP5 := Lib.hid (hp4.below (allocB w4 (.cells (stA s' q) 36)))
    have HOK := Lib.hid (And.intro hi4 (And.intro hk4 (And.intro hg4 hc4)))
    obtain ⟨g, hg⟩ : ∃ g, g = w4.heap.size := ⟨_, rfl⟩
    obtain ⟨w5, hw5⟩ : ∃ W, W = w4.alloc (.cells (stA s' q) 36) := ⟨_, rfl⟩
    rw [← hg, ← hw5] at HG5
    rw [← hw5] at H5 HP5
    rw [← hw5, ← hg]
    clear hw5 hg hb4 hb5 H2 H3 HRM HR2 hp4 hi4 hk4 hg4 hc4
    try simp only [Act.put]
    have HWI := Lib.hid (show ∀ W, PoolR W s' q fs' → _ from by
      obtain ⟨hi4, _, _, ⟨hkl, _⟩⟩ := HOK.out
      exact fun W hp => pwith_any s' q fs' (by have := hi4.nf; omega) k hkl ⟨(pg : Int), C pg, 0, true, 0⟩ W hp)
    go_wp2_with (first
      | (with_reducible refine listLoad (by kernel_rfl) 36 (.tmp 11) rfl g rfl (stA s' q) _ HG5.out _ Tryz.underlying36 (by kernel_rfl) (by kernel_rfl) ?_)
      | (go_at_call 64; (refine (HWI.out _ HP5.out).mono ?_); rintro e w6 ⟨q6, rfl, hp6, hb6⟩; have H6 := Lib.hid (H5.out.step hb6))
      | (with_reducible refine listStore (by kernel_rfl) 36 (.tmp 4) (.tmp 63) rfl (w.heap.size + 1) (stA s' q6) _ _ rfl rfl H6.out.get1 (by kernel_rfl) (by kernel_rfl) (by kernel_rfl) ?_))
    refine bodyPost_ret (v := .tuple #[.agg (stA s' q6), .int .i64 (k : Int), .int .i64 0]) (results_cell3 rfl _ _ rfl (load_whole (setRow_heap _ _ _ _ _ _ H6.out.get1) Tryz.underlying36 (by kernel_rfl) (by kernel_rfl)) rfl rfl) rfl ?_
    obtain ⟨hi4, hk4, hg4, ⟨hkl, hc4⟩⟩ := HOK.out
    refine ⟨s', q6, _, k, rfl, hp6.other (t := 36) H6.out.get1 (by decide) (by decide) (by decide) _, hi4.load hkl hpg hc4 (hg4.none_ hk4.ln HNO.out), ⟨hk4.tx, hk4.nx, hk4.en, hk4.zf, by rw [List.length_set]; exact hk4.ln⟩, ⟨by rw [List.length_set]; exact hkl, ?_⟩, (H6.out.row 1 (stA s' q6) _ rfl).below⟩
    rw [List.getElem_set_self]
    exact ⟨full_of (hi4.nm pg hpg), rfl⟩
  · have hk0 : (0 : Int) ≤ (k : Int) := by omega
    have hki : (k : Int) < (fs.length : Int) := by omega
    have hc := show w2.cell? ⟨w.heap.size, 11, none⟩ = some (.slice p.F fs.length p.fc) from by rw [blkCell H2.out.get0, ← HFN.out]; rfl
    obtain ⟨b, off, hpF, hcc, hbl, hcell⟩ := read_at frL_len (HP.out.fr.below H2.out.below) hk
    obtain ⟨f, hfe⟩ : ∃ f, f = fs[k] := ⟨_, rfl⟩
    have HFE := Lib.hid hfe
    rw [← hfe] at hcell
    rw [hpF] at hc
    have HC0 := Lib.hid (show w2.rangeAt b (off + k * 5) (frL f) from hcell)
    have HFK := Lib.hid hfk
    clear hcell hcc hbl hpF hfe hfk HRE HRM
    go_upto_region 6 with (first
      | (refine listWants (by kernel_rfl) fun K hK => wp_load_mid 80 (.tmp 27) rfl b (off + k * 5) rfl (frL f) _ HC0.out Tryz.underlying80 (by kernel_rfl) (by kernel_rfl) (hK _ _ ?_))
      | (with_reducible refine wpList_store_new rfl 80 (.tmp 8) (.tmp 28) rfl (frA f) _ _ rfl (by kernel_rfl) (by kernel_rfl) (by kernel_rfl) (by kernel_rfl) ?_))
    have hb5 := allocB w2 (.cells (frA f) 80)
    have H5 := Lib.hid (H2.out.step hb5)
    have HG5 := Lib.hid (heap_alloc_new w2 (.cells (frA f) 80))
    have hlt : w.heap.size + 1 < w2.heap.size := H2.out.lt (i := 1) (by simp)
    obtain ⟨g, hg⟩ : ∃ g, g = w2.heap.size := ⟨_, rfl⟩
    obtain ⟨w5, hw5⟩ : ∃ W, W = w2.alloc (.cells (frA f) 80) := ⟨_, rfl⟩
    rw [← hg, ← hw5] at HG5
    rw [← hw5] at H5
    rw [← hw5, ← hg]
    rw [← hg] at hlt
    clear hw5 hg hb5 H2 hc
    try simp only [Act.put]
    have hcx := show w5.cell? ⟨g, 3, none⟩ = some (.bool f.mark) from by rw [blkCell HG5.out]; rfl
    have hzx := blkFrozen HG5.out 3
    go_upto_region 7 with fail
    have HG6 := Lib.hid (show (w5.setCell ⟨g, 3, none⟩ (.bool true)).heap[g]? = some (.cells (frA { f with mark := true }) 80 (0, 0)) from by have := blkSet 3 HG5.out (.bool true); simpa using this)
    have H6 := Lib.hid (H5.out.under (M := g) (by simp; omega) ((Below.refl _ w5).setCell (p := ⟨g, 3, none⟩) (Nat.le_refl _) (.bool true)))
    generalize w5.setCell ⟨g, 3, none⟩ (.bool true) = w6 at HG6 H6 ⊢
    clear hcx hzx HG5 H5
    go_wp2_with (first
      | (with_reducible refine listLoad (by kernel_rfl) 36 (.tmp 2) rfl w.heap.size rfl (stA s p) _ H6.out.get0 _ Tryz.underlying36 (by kernel_rfl) (by kernel_rfl) ?_)
      | (with_reducible refine listLoad (by kernel_rfl) 80 (.tmp 8) rfl g rfl (frA { f with mark := true }) _ HG6.out _ Tryz.underlying80 (by kernel_rfl) (by kernel_rfl) ?_)
      | (go_at_call 64; (refine (HWI.out k hk { f with mark := true } _ H6.out.below).mono ?_); rintro e w7 ⟨q, rfl, hpq, hb7⟩; have H7 := Lib.hid (H6.out.step hb7))
      | (with_reducible refine listStore (by kernel_rfl) 36 (.tmp 4) (.tmp 33) rfl (w.heap.size + 1) (stA s q) _ _ rfl rfl H7.out.get1 (by kernel_rfl) (by kernel_rfl) (by kernel_rfl) ?_))
    refine bodyPost_ret (v := .tuple #[.agg (stA s q), .int .i64 (k : Int), .int .i64 0]) (results_cell3 rfl _ _ rfl (load_whole (setRow_heap _ _ _ _ _ _ H7.out.get1) Tryz.underlying36 (by kernel_rfl) (by kernel_rfl)) rfl rfl) rfl ?_
    have hfe := HFE.out
    subst hfe
    refine ⟨s, q, _, k, rfl, hpq.other (t := 36) H7.out.get1 (by decide) (by decide) (by decide) _, HI.out.mark hk true, ⟨rfl, rfl, rfl, rfl, List.length_set⟩, ⟨by rw [List.length_set]; exact hk, ?_⟩, (H7.out.row 1 (stA s q) _ rfl).below⟩
    rw [List.getElem_set_self]
    exact HFK.out
def GtOut (N n : Nat) (C : Nat → ByteArray) (s : Tx.St) (fs : List Fr) (pg : Nat) (w : World) (e : Ending) (w' : World) : Prop :=
  ∃ (s' : Tx.St) (q : SP) (fs' : List Fr), e = .returned (.tuple #[storeV s' q, .string (C pg), .int .i64 0]) ∧ PoolR w' s' q fs' ∧ PI N n s' fs' C ∧ Hk s s' fs fs' ∧ Below w.heap.size w w'
set_option maxRecDepth 100000 in
set_option maxHeartbeats 16000000 in
theorem pget_any {N n : Nat} (s : Tx.St) (p : SP) (fs : List Fr) (C : Nat → ByteArray) (hI : PI N n s fs C) (pg : Nat) (hpg : pg < n) (w : World) (h : PoolR w s p fs) :
    Calls Tryz.prog 17 #[storeV s p, .int .i64 (pg : Int)] w (GtOut N n C s fs pg w) := by
  have HHE := Lib.hid (fun W (hb : Below w.heap.size w W) => pheld_any s p fs C hI pg hpg W (h.below hb))
  clear h hI
  go_enter Tryz.func17, Tryz.ntmps17
  go_upto_region 1 with fail
  have H0 := Lib.hid (show BxL w.heap.size w [((stA s p), 36), (#[.int .i64 0, .int .i64 0, .int .i64 0, .slice none 0 0, .int .i64 0, .bool false, .int .i64 0, .int .i64 0, .int .i64 0, .int .i64 0, .string ⟨#[]⟩, .slice none 0 0, .int .i64 0, .slice none 0 0, .int .i64 0], 36)] ((w.alloc (.cells (stA s p) 36)).alloc (.cells #[.int .i64 0, .int .i64 0, .int .i64 0, .slice none 0 0, .int .i64 0, .bool false, .int .i64 0, .int .i64 0, .int .i64 0, .int .i64 0, .string ⟨#[]⟩, .slice none 0 0, .int .i64 0, .slice none 0 0, .int .i64 0] 36)) from (((BxL.nil (Below.refl w.heap.size w)).new (by simp) (stA s p) 36).new (by simp) #[.int .i64 0, .int .i64 0, .int .i64 0, .slice none 0 0, .int .i64 0, .bool false, .int .i64 0, .int .i64 0, .int .i64 0, .int .i64 0, .string ⟨#[]⟩, .slice none 0 0, .int .i64 0, .slice none 0 0, .int .i64 0] 36))
  obtain ⟨W0, hW0⟩ : ∃ W, W = ((w.alloc (.cells (stA s p) 36)).alloc (.cells #[.int .i64 0, .int .i64 0, .int .i64 0, .slice none 0 0, .int .i64 0, .bool false, .int .i64 0, .int .i64 0, .int .i64 0, .int .i64 0, .string ⟨#[]⟩, .slice none 0 0, .int .i64 0, .slice none 0 0, .int .i64 0] 36)) := ⟨_, rfl⟩
  rw [← hW0] at H0 ⊢
  clear hW0
  go_upto_region 2 with (first
    | (with_reducible refine listLoad (by kernel_rfl) 36 (.tmp 2) rfl w.heap.size rfl (stA s p) _ H0.out.get0 _ Tryz.underlying36 (by kernel_rfl) (by kernel_rfl) ?_)
    | (go_at_call 38; (refine (HHE.out _ H0.out.below).mono ?_); rintro e w4 ⟨s', q, fs', k, rfl, hp4, hi4, hk4, ⟨hkl, hf4, hg4⟩, hb4⟩)
    | (with_reducible refine wpList_store_new rfl 36 (.tmp 7) (.tmp 14) rfl (stA s' q) _ _ rfl (by kernel_rfl) (by kernel_rfl) (by kernel_rfl) (by kernel_rfl) ?_))
  have hb5 := hb4.trans ((allocB w4 (.cells (stA s' q) 36)).mono hb4.size)
  have H5 := Lib.hid (H0.out.step hb5)
  have HG5 := Lib.hid (heap_alloc_new w4 (.cells (stA s' q) 36))
  have HP5 := Lib.hid (hp4.below (allocB w4 (.cells (stA s' q) 36)))
  have hlt : w.heap.size + 1 < w4.heap.size := Nat.lt_of_lt_of_le (H0.out.lt (i := 1) (by simp)) hb4.size
  obtain ⟨b, off, hpF, hcc, hbl, hcell⟩ := read_at frL_len HP5.out.fr hkl
  have hbt := HP5.out.ft _ hpF
  have hbb := (hi4.bytes hkl hf4 hg4).2
  have HX1 := hcell 1 (.string (C pg)) (by rw [← hbb]; rfl)
  have HFN := Lib.hid hp4.fn
  have HOK := Lib.hid (And.intro hi4 hk4)
  have hk0 : (0 : Int) ≤ (k : Int) := by omega
  have hki : (k : Int) < (fs'.length : Int) := by omega
  obtain ⟨g, hg⟩ : ∃ g, g = w4.heap.size := ⟨_, rfl⟩
  obtain ⟨w5, hw5⟩ : ∃ W, W = w4.alloc (.cells (stA s' q) 36) := ⟨_, rfl⟩
  rw [← hg, ← hw5] at HG5
  rw [← hw5] at H5 HP5 HX1 hbt
  rw [← hw5, ← hg]
  rw [← hg] at hlt
  have HPF := Lib.hid hpF
  have hb1 : b ≠ w.heap.size + 1 := fun e => by
    obtain ⟨_, cs, fr, h1⟩ := hbt
    have h2 := H5.out.get1
    rw [show (⟨b, off, none⟩ : Addr).block = b from rfl, e, h2] at h1
    injection h1 with h1
    injection h1 with _ h1
    exact absurd h1 (by decide)
  have HB1 := Lib.hid hb1
  clear hw5 hg hb4 hb5 H0 HHE hp4 hi4 hk4 hf4 hg4 hcell hcc hbl hpF hbb hbt hb1
  try simp only [Act.put]
  go_upto_region 4 with fail
  go_cut [5, 6] (fun x y wc => x = .string (C pg) ∧ y = .int .i64 0 ∧ wc.heap[w.heap.size + 1]? = some (.cells (stA s' q) 36 (0, 0)) ∧ PoolR wc s' q fs' ∧ Below w.heap.size w wc)
  case first =>
    have hSn : w5.drew.heap[g]? = some (.cells (stA s' q) 36 (0, 0)) ∧ w5.drew.cell? ⟨b, off + k * 5 + 1, none⟩ = some (.string (C pg)) := ⟨HG5.out, HX1⟩
    have H9 := H5.out.drew
    have hP9 := HP5.out.below (Below.refl _ w5).drew
    refine wp_region_held_drew (S := (fun u => u.heap[g]? = some (.cells (stA s' q) 36 (0, 0)) ∧ u.cell? ⟨b, off + k * 5 + 1, none⟩ = some (.string (C pg)))) (by kernel_rfl) ?_ (fun hHeld => ?_)
    · exact hSn
    generalize w5.drew = w9 at hSn H9 hP9 ⊢
    refine tkV 0 (some 21) (v := .agg (stA s' q)) rfl (yieldsIf_load_mid (by rfl) 36 (.tmp 7) rfl g 0 (by rfl) (stA s' q).toList _ (fun u hu => (by intro j v hj; rw [Nat.zero_add, blkCell hu.1]; simpa using hj)) Tryz.underlying36 (by kernel_rfl) (by kernel_rfl)) ?_
    try simp only [Act.put, List.setIfInBounds_toArray, List.set_cons_zero, List.set_cons_succ]
    refine tkW 1 (some 22) (v := ?_) rfl ?_ ?_
    rotate_left
    · intro u hSu; have hcl0 := show u.cell? ⟨g, 11, none⟩ = some (.slice (some ⟨b, off, none⟩) fs'.length q.fc) from (by rw [blkCell hSu.1, ← HPF.out, ← HFN.out]; rfl); have hcl1 := hSu.2
      clear hSu; go_simp; (try with_reducible rfl)
    try simp only [Act.put, List.setIfInBounds_toArray, List.set_cons_zero, List.set_cons_succ]
    refine tkW 2 (some 23) (v := ?_) rfl ?_ ?_
    rotate_left
    · intro u hSu; have hcl0 := show u.cell? ⟨g, 11, none⟩ = some (.slice (some ⟨b, off, none⟩) fs'.length q.fc) from (by rw [blkCell hSu.1, ← HPF.out, ← HFN.out]; rfl); have hcl1 := hSu.2
      clear hSu; go_simp; (try with_reducible rfl)
    try simp only [Act.put, List.setIfInBounds_toArray, List.set_cons_zero, List.set_cons_succ]
    refine tkW 3 (some 24) (v := ?_) rfl ?_ ?_
    rotate_left
    · intro u hSu; have hcl0 := show u.cell? ⟨g, 11, none⟩ = some (.slice (some ⟨b, off, none⟩) fs'.length q.fc) from (by rw [blkCell hSu.1, ← HPF.out, ← HFN.out]; rfl); have hcl1 := hSu.2
      clear hSu; go_simp; (try with_reducible rfl)
    try simp only [Act.put, List.setIfInBounds_toArray, List.set_cons_zero, List.set_cons_succ]
    refine tkW 4 (some 25) (v := ?_) rfl ?_ ?_
    rotate_left
    · intro u hSu; have hcl0 := show u.cell? ⟨g, 11, none⟩ = some (.slice (some ⟨b, off, none⟩) fs'.length q.fc) from (by rw [blkCell hSu.1, ← HPF.out, ← HFN.out]; rfl); have hcl1 := hSu.2
      clear hSu; go_simp; (try with_reducible rfl)
    try simp only [Act.put, List.setIfInBounds_toArray, List.set_cons_zero, List.set_cons_succ]
    refine tkW 5 (some 26) (v := ?_) rfl ?_ ?_
    rotate_left
    · intro u hSu; have hcl0 := show u.cell? ⟨g, 11, none⟩ = some (.slice (some ⟨b, off, none⟩) fs'.length q.fc) from (by rw [blkCell hSu.1, ← HPF.out, ← HFN.out]; rfl); have hcl1 := hSu.2
      clear hSu; go_simp; (try with_reducible rfl)
    try simp only [Act.put, List.setIfInBounds_toArray, List.set_cons_zero, List.set_cons_succ]
    refine tkW 6 (some 27) (v := ?_) rfl ?_ ?_
    rotate_left
    · intro u hSu; have hcl0 := show u.cell? ⟨g, 11, none⟩ = some (.slice (some ⟨b, off, none⟩) fs'.length q.fc) from (by rw [blkCell hSu.1, ← HPF.out, ← HFN.out]; rfl); have hcl1 := hSu.2
      clear hSu; go_simp; (try with_reducible rfl)
    try simp only [Act.put, List.setIfInBounds_toArray, List.set_cons_zero, List.set_cons_succ]
    refine tkW 7 (some 28) (v := ?_) rfl ?_ ?_
    rotate_left
    · intro u hSu; have hcl0 := show u.cell? ⟨g, 11, none⟩ = some (.slice (some ⟨b, off, none⟩) fs'.length q.fc) from (by rw [blkCell hSu.1, ← HPF.out, ← HFN.out]; rfl); have hcl1 := hSu.2
      clear hSu; go_simp; (try with_reducible rfl)
    try simp only [Act.put, List.setIfInBounds_toArray, List.set_cons_zero, List.set_cons_succ]
    refine rdH 8 none rfl (fun K hK => ?_)
    refine wantedIf (by rfl) ?_
    refine wp_store_whole 36 (.tmp 4) (.tmp 21) rfl (w.heap.size + 1) (stA s' q) _ _ rfl rfl H9.get1 (by kernel_rfl) (by kernel_rfl) (by kernel_rfl) ?_
    have H10 := H9.row 1 (stA s' q) _ rfl
    have hP10 := hP9.other (t := 36) H9.get1 (by decide) (by decide) (by decide) (stA s' q)
    have hSm := And.intro ((heap_setRow_other _ _ (stA s' q) _ (show g ≠ w.heap.size + 1 by omega)).trans hSn.1) (cellOther (cs := (stA s' q)) hSn.2 H9.get1 HB1.out)
    clear hSn
    have hSn := hSm
    clear hSm
    refine hK.out _ _ ?_ (fun hHeld => ?_)
    · exact hSn
    clear hK K
    try simp only [Act.put, List.setIfInBounds_toArray, List.set_cons_zero, List.set_cons_succ]
    refine tkW 9 (some 5) (v := ?_) rfl ?_ ?_
    rotate_left
    · intro u hSu; have hcl0 := show u.cell? ⟨g, 11, none⟩ = some (.slice (some ⟨b, off, none⟩) fs'.length q.fc) from (by rw [blkCell hSu.1, ← HPF.out, ← HFN.out]; rfl); have hcl1 := hSu.2
      clear hSu; go_simp; (try with_reducible rfl)
    try simp only [Act.put, List.setIfInBounds_toArray, List.set_cons_zero, List.set_cons_succ]
    refine tkW 10 (some 6) (v := ?_) rfl ?_ ?_
    rotate_left
    · intro u hSu; have hcl0 := show u.cell? ⟨g, 11, none⟩ = some (.slice (some ⟨b, off, none⟩) fs'.length q.fc) from (by rw [blkCell hSu.1, ← HPF.out, ← HFN.out]; rfl); have hcl1 := hSu.2
      clear hSu; go_simp; (try with_reducible rfl)
    try simp only [Act.put, List.setIfInBounds_toArray, List.set_cons_zero, List.set_cons_succ]
    refine wpAnyH_done (by kernel_rfl) ?_ _
    clear hHeld
    go_wp2_with fail
    go_meet
    case rel => exact ⟨rfl, rfl, H10.get1, hP10, H10.below⟩
  case rest =>
    obtain ⟨rfl, rfl, hs6, hp6, hb6⟩ := hcut
    go_wp2_with fail
    refine bodyPost_ret (v := .tuple #[.agg (stA s' q), .string (C pg), .int .i64 0]) (results_cell3 rfl _ _ rfl (load_whole hs6 Tryz.underlying36 (by kernel_rfl) (by kernel_rfl)) rfl rfl) rfl ?_
    exact ⟨s', q, fs', rfl, hp6, HOK.out.1, HOK.out.2, hb6⟩
set_option maxRecDepth 100000 in
set_option maxHeartbeats 8000000 in
theorem plogged_any (s : Tx.St) (p : SP) (hb : Tx.LogB s) (r : Rc.Rec) (h1 : r.txns = []) (h2 : r.dirty = []) (w : World) :
    Calls Tryz.prog 133 #[storeV s p, .agg (recA r (.slice none 0 0) (.slice none 0 0))] w fun e w' => e = .returned (.tuple #[storeV { s with log := (Lg.appendD s.log r).1 } p, .int .i64 (Lg.appendD s.log r).2.1, .int .i64 (Lg.appendD s.log r).2.2]) ∧ Below w.heap.size w w' := by
  have HA := Lib.hid (fun W => show Calls Tryz.prog 81 #[logV s.log, .agg (recA r (.slice none 0 0) (.slice none 0 0))] W (AppOut (Lg.appendD s.log r) W) from by
    have h0 := append_any s.log hb.e0 (by have := hb.e1; omega) (by have := hb.n0; omega) (by have := hb.n1; omega) (by have := hb.t0; have := hb.e1; omega) r none none 0 0 W (recR_nil r W h1 h2)
    simp only [h1, h2, List.length_nil] at h0
    exact h0)
  generalize Lg.appendD s.log r = x at HA ⊢
  go_enter Tryz.func133, Tryz.ntmps133
  go_upto_region 1 with fail
  have H0 := Lib.hid (show BxL w.heap.size w [((stA s p), 36), ((recA r (.slice none 0 0) (.slice none 0 0)), 96), (#[.int .i64 0, .int .i64 0, .int .i64 0, .slice none 0 0, .int .i64 0, .bool false, .int .i64 0, .int .i64 0, .int .i64 0, .int .i64 0, .string ⟨#[]⟩, .slice none 0 0, .int .i64 0, .slice none 0 0, .int .i64 0], 36)] (((w.alloc (.cells (stA s p) 36)).alloc (.cells (recA r (.slice none 0 0) (.slice none 0 0)) 96)).alloc (.cells #[.int .i64 0, .int .i64 0, .int .i64 0, .slice none 0 0, .int .i64 0, .bool false, .int .i64 0, .int .i64 0, .int .i64 0, .int .i64 0, .string ⟨#[]⟩, .slice none 0 0, .int .i64 0, .slice none 0 0, .int .i64 0] 36)) from ((((BxL.nil (Below.refl w.heap.size w)).new (by simp) (stA s p) 36).new (by simp) (recA r (.slice none 0 0) (.slice none 0 0)) 96).new (by simp) #[.int .i64 0, .int .i64 0, .int .i64 0, .slice none 0 0, .int .i64 0, .bool false, .int .i64 0, .int .i64 0, .int .i64 0, .int .i64 0, .string ⟨#[]⟩, .slice none 0 0, .int .i64 0, .slice none 0 0, .int .i64 0] 36))
  obtain ⟨W0, hW0⟩ : ∃ W, W = (((w.alloc (.cells (stA s p) 36)).alloc (.cells (recA r (.slice none 0 0) (.slice none 0 0)) 96)).alloc (.cells #[.int .i64 0, .int .i64 0, .int .i64 0, .slice none 0 0, .int .i64 0, .bool false, .int .i64 0, .int .i64 0, .int .i64 0, .int .i64 0, .string ⟨#[]⟩, .slice none 0 0, .int .i64 0, .slice none 0 0, .int .i64 0] 36)) := ⟨_, rfl⟩
  rw [← hW0] at H0 ⊢
  clear hW0
  go_upto_region 2 with (first
    | (with_reducible refine listPart (by kernel_rfl) 30 (.tmp 11) rfl w.heap.size 6 rfl #[.int .i64 s.log.from_, .int .i64 s.log.n, .int .i64 s.log.end_, .int .i64 s.log.safe, .string s.log.tail] (stA s p) _ H0.out.get0 (by kernel_rfl) _ Tryz.underlying30 (by kernel_rfl) (by kernel_rfl) ?_)
    | (with_reducible refine listLoad (by kernel_rfl) 96 (.tmp 3) rfl (w.heap.size + 1) rfl (recA r (.slice none 0 0) (.slice none 0 0)) _ H0.out.get1 _ Tryz.underlying96 (by kernel_rfl) (by kernel_rfl) ?_)
    | (go_at_call 81; (with_reducible refine (HA.out _).mono ?_); rintro e w1 ⟨rfl, hb1⟩; have H1 := Lib.hid (H0.out.step hb1); clear hb1)
    | (with_reducible refine wpList_store_new rfl 30 (.tmp 7) (.tmp 15) rfl #[.int .i64 x.1.from_, .int .i64 x.1.n, .int .i64 x.1.end_, .int .i64 x.1.safe, .string x.1.tail] _ _ rfl (by kernel_rfl) (by kernel_rfl) (by kernel_rfl) (by kernel_rfl) ?_))
  have H2 := Lib.hid (H1.out.step (allocB w1 (.cells #[.int .i64 x.1.from_, .int .i64 x.1.n, .int .i64 x.1.end_, .int .i64 x.1.safe, .string x.1.tail] 30)))
  have HG := Lib.hid (heap_alloc_new w1 (.cells #[.int .i64 x.1.from_, .int .i64 x.1.n, .int .i64 x.1.end_, .int .i64 x.1.safe, .string x.1.tail] 30))
  have hlt : w.heap.size + 2 < w1.heap.size := H1.out.lt (i := 2) (by simp)
  obtain ⟨g, hg⟩ : ∃ g, g = w1.heap.size := ⟨_, rfl⟩
  obtain ⟨w2, hw2⟩ : ∃ W, W = w1.alloc (.cells #[.int .i64 x.1.from_, .int .i64 x.1.n, .int .i64 x.1.end_, .int .i64 x.1.safe, .string x.1.tail] 30) := ⟨_, rfl⟩
  rw [← hg, ← hw2] at HG
  rw [← hw2] at H2
  rw [← hw2, ← hg]
  rw [← hg] at hlt
  clear hw2 hg H0 H1
  try simp only [Act.put]
  go_upto_region 3 with (first
    | (with_reducible refine listLoad (by kernel_rfl) 30 (.tmp 7) rfl g rfl #[.int .i64 x.1.from_, .int .i64 x.1.n, .int .i64 x.1.end_, .int .i64 x.1.safe, .string x.1.tail] _ HG.out _ Tryz.underlying30 (by kernel_rfl) (by kernel_rfl) ?_)
    | (with_reducible refine listPut (by kernel_rfl) 30 (.tmp 19) (.tmp 18) rfl w.heap.size 6 #[.int .i64 x.1.from_, .int .i64 x.1.n, .int .i64 x.1.end_, .int .i64 x.1.safe, .string x.1.tail] (stA s p) (stA { s with log := x.1 } p) _ rfl rfl H2.out.get0 (by kernel_rfl) (by kernel_rfl) (by kernel_rfl) (by kernel_rfl) ?_))
  have H3 := Lib.hid (H2.out.row 0 (stA { s with log := x.1 } p) _ rfl)
  have hz := H3.out.get0
  go_wp2_with (first
    | (with_reducible refine listLoad (by kernel_rfl) 36 (.tmp 2) rfl w.heap.size rfl (stA { s with log := x.1 } p) _ H3.out.get0 _ Tryz.underlying36 (by kernel_rfl) (by kernel_rfl) ?_)
    | (with_reducible refine listStore (by kernel_rfl) 36 (.tmp 4) (.tmp 20) rfl (w.heap.size + 2) (stA { s with log := x.1 } p) _ _ rfl rfl H3.out.get2 (by kernel_rfl) (by kernel_rfl) (by kernel_rfl) ?_))
  refine bodyPost_ret (v := .tuple #[.agg (stA { s with log := x.1 } p), .int .i64 x.2.1, .int .i64 x.2.2]) (results_cell3 rfl _ _ rfl (load_whole (setRow_heap _ _ _ _ _ _ H3.out.get2) Tryz.underlying36 (by kernel_rfl) (by kernel_rfl)) rfl rfl) rfl ?_
  exact ⟨rfl, (H3.out.row 2 (stA { s with log := x.1 } p) _ rfl).below⟩
end Go.Proofs.YtmebkghdkeeobaaGreatDoor
