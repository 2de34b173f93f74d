/- The walk over the law of statistics: the page's example. -/
import Derived.Test.YtmhpbmobfdgkeaaHm07
import Derived.Test.YtmhpbmobfdgkeaaHm01
import Derived.Deep.Slices
namespace Sp
def exV (n : Int) : Val := ⟨2, n, ⟨#[]⟩⟩
def exL : List (List Val) := [[exV 3], [nullV], [exV 1], [exV 3]]
def exC : ColS := ⟨1, 2, [exV 1, exV 1, exV 3, exV 3, exV 3, exV 3, exV 3, exV 3], [⟨exV 3, 2⟩]⟩
theorem ex_known : [exV 3, nullV, exV 1, exV 3].filter known = [exV 3, exV 1, exV 3] := by decide
theorem ex_others : others [exV 3, nullV, exV 1, exV 3] = [exV 1, exV 3, exV 3] := by
  unfold others
  rw [ex_known]
  exact totV.sort_eq (List.Perm.swap _ _ _) (by unfold Up; decide)
theorem ex_cnt : cntV [exV 1, exV 3, exV 3] = [⟨exV 1, 1⟩, ⟨exV 3, 2⟩] := by decide
theorem ex_com : comV [⟨exV 1, 1⟩, ⟨exV 3, 2⟩] = [⟨exV 3, 2⟩] := by
  unfold comV
  have h : oftF [⟨exV 1, 1⟩, ⟨exV 3, 2⟩] = [⟨exV 3, 2⟩] := by decide
  rw [h, totO.sort_eq (List.Perm.refl _) (by unfold Up; decide)]
  rfl
theorem ex_stat (t : ByteArray) : statOf t exL 1 1 = ⟨t, 4, 1, [exC]⟩ := by
  unfold statOf colS
  have hw : widthS 1 = 1 := rfl
  rw [hw]
  show (⟨t, 4, 1, [_]⟩ : StatS) = _
  have hc : colAt exL 0 = [exV 3, nullV, exV 1, exV 3] := rfl
  simp only [hc, ex_others, ex_cnt, ex_com]
  rfl
theorem ex_right (t : ByteArray) : rightS ⟨t, 4, 1, [exC]⟩ := by
  rw [← ex_stat]
  refine stat_right (fun r hr v hv => ?_) (by decide) t 1 1 (by decide)
  simp only [exL, List.mem_cons, List.not_mem_nil, or_false] at hr
  rcases hr with rfl | rfl | rfl | rfl <;> simp only [List.mem_cons, List.not_mem_nil, or_false] at hv <;> subst hv
  · exact .inr (.inr (.inl ⟨rfl, by decide, by decide, rfl⟩))
  · exact .inl ⟨rfl, rfl, rfl⟩
  · exact .inr (.inr (.inl ⟨rfl, by decide, by decide, rfl⟩))
  · exact .inr (.inr (.inl ⟨rfl, by decide, by decide, rfl⟩))
end Sp
namespace Go.Proofs.Ytmhpbmobfdgkeaa
open Go.RowKit
set_option maxRecDepth 100000 in
set_option maxHeartbeats 4000000 in
theorem num_any (n : Int) (w : World) : Calls Try.prog 17 #[.int .i64 n] w (fun e w' => e = .returned (.agg #[.int .i64 2, .int .i64 n, .string ⟨#[]⟩]) ∧ Below w.heap.size w w') := by
  go_enter Try.func17, Try.ntmps17
  go_upto_region 1 with fail
  have H0 := Lib.hid (show BxL w.heap.size w [(#[.int .i64 0, .int .i64 0, .string ⟨#[]⟩], 36)] (w.alloc (.cells #[.int .i64 0, .int .i64 0, .string ⟨#[]⟩] 36)) from ((BxL.nil (Below.refl w.heap.size w)).new (by simp) #[.int .i64 0, .int .i64 0, .string ⟨#[]⟩] 36))
  obtain ⟨W0, hW0⟩ : ∃ W, W = (w.alloc (.cells #[.int .i64 0, .int .i64 0, .string ⟨#[]⟩] 36)) := ⟨_, rfl⟩
  rw [← hW0] at H0 ⊢
  clear hW0
  have HZ := Lib.hid H0.out.get0
  go_wp2_with (with_reducible refine listStore (by kernel_rfl) 36 (.tmp 2) (.tmp 4) rfl w.heap.size #[.int .i64 2, .int .i64 n, .string ⟨#[]⟩] _ _ rfl rfl HZ.out (by kernel_rfl) (by kernel_rfl) (by kernel_rfl) ?_)
  refine bodyPost_ret (v := .agg #[.int .i64 2, .int .i64 n, .string ⟨#[]⟩]) (results_cell rfl _ _ rfl (load_whole (setRow_heap _ _ _ _ _ _ HZ.out) Try.underlying36 (by kernel_rfl) (by kernel_rfl))) rfl ?_
  exact ⟨rfl, belowRow (Nat.le_refl _) H0.out.below _⟩
set_option maxRecDepth 100000 in
set_option maxHeartbeats 8000000 in
theorem awake_any (w : World) : Calls Try.prog 7 #[] w (fun e w' => e = .returned (.bool true) ∧ Below w.heap.size w w') := by
  have HN3 := Lib.hid (fun W => num_any 3 W)
  have HN1 := Lib.hid (fun W => num_any 1 W)
  go_enter Try.func7, Try.ntmps7
  go_upto_region 2 with (first
    | (go_at_call 17; have hz := hb2; (with_reducible refine (HN3.out _).mono ?_); rintro e w3 ⟨rfl, hb3⟩; clear hz)
    | (go_at_call 17; (with_reducible refine (HN3.out _).mono ?_); rintro e w1 ⟨rfl, hb1⟩)
    | (go_at_call 17; (with_reducible refine (HN1.out _).mono ?_); rintro e w2 ⟨rfl, hb2⟩))
  have k1 : w3.heap[w1.heap.size]? = some (.cells #[.int .i64 2, .int .i64 3, .string ⟨#[]⟩] 36 (0, 0)) := blkOld (blkOld (blkOld (heap_alloc_new w1 _) (allocB _ _)) hb2) (joinB (allocB _ _) hb3)
  have k2 : w3.heap[w1.heap.size + 1]? = some (.cells #[.int .i64 0, .int .i64 0, .string ⟨#[]⟩] 36 (0, 0)) := blkOld (blkOld (by simpa using heap_alloc_new (w1.alloc (.cells #[.int .i64 2, .int .i64 3, .string ⟨#[]⟩] 36)) (.cells #[.int .i64 0, .int .i64 0, .string ⟨#[]⟩] 36)) hb2) (joinB (allocB _ _) hb3)
  have k3 : w3.heap[w2.heap.size]? = some (.cells #[.int .i64 2, .int .i64 1, .string ⟨#[]⟩] 36 (0, 0)) := blkOld (heap_alloc_new w2 _) hb3
  have hBD := joinB (allocB w3 (.cells #[.int .i64 2, .int .i64 3, .string ⟨#[]⟩] 36)) (allocB (w3.alloc (.cells #[.int .i64 2, .int .i64 3, .string ⟨#[]⟩] 36)) (.cells #[.slice (some ⟨w1.heap.size, 0, none⟩) 1 1, .slice (some ⟨w1.heap.size + 1, 0, none⟩) 1 1, .slice (some ⟨w2.heap.size, 0, none⟩) 1 1, .slice (some ⟨w3.heap.size, 0, none⟩) 1 1] 33))
  have hWD : Below w.heap.size w ((w3.alloc (.cells #[.int .i64 2, .int .i64 3, .string ⟨#[]⟩] 36)).alloc (.cells #[.slice (some ⟨w1.heap.size, 0, none⟩) 1 1, .slice (some ⟨w1.heap.size + 1, 0, none⟩) 1 1, .slice (some ⟨w2.heap.size, 0, none⟩) 1 1, .slice (some ⟨w3.heap.size, 0, none⟩) 1 1] 33)) := joinB (joinB hb1 (joinB (joinB (joinB (allocB _ _) (allocB _ _)) hb2) (joinB (allocB _ _) hb3))) hBD
  have hRR : RowsR ((w3.alloc (.cells #[.int .i64 2, .int .i64 3, .string ⟨#[]⟩] 36)).alloc (.cells #[.slice (some ⟨w1.heap.size, 0, none⟩) 1 1, .slice (some ⟨w1.heap.size + 1, 0, none⟩) 1 1, .slice (some ⟨w2.heap.size, 0, none⟩) 1 1, .slice (some ⟨w3.heap.size, 0, none⟩) 1 1] 33)) (some ⟨w3.heap.size + 1, 0, none⟩) 4 [⟨[Sp.exV 3], some ⟨w1.heap.size, 0, none⟩, 1⟩, ⟨[Sp.nullV], some ⟨w1.heap.size + 1, 0, none⟩, 1⟩, ⟨[Sp.exV 1], some ⟨w2.heap.size, 0, none⟩, 1⟩, ⟨[Sp.exV 3], some ⟨w3.heap.size, 0, none⟩, 1⟩] := by
    refine ⟨reads_blk (cs := #[.slice (some ⟨w1.heap.size, 0, none⟩) 1 1, .slice (some ⟨w1.heap.size + 1, 0, none⟩) 1 1, .slice (some ⟨w2.heap.size, 0, none⟩) 1 1, .slice (some ⟨w3.heap.size, 0, none⟩) 1 1].toList) (by simpa using heap_alloc_new (w3.alloc (.cells #[.int .i64 2, .int .i64 3, .string ⟨#[]⟩] 36)) (.cells #[.slice (some ⟨w1.heap.size, 0, none⟩) 1 1, .slice (some ⟨w1.heap.size + 1, 0, none⟩) 1 1, .slice (some ⟨w2.heap.size, 0, none⟩) 1 1, .slice (some ⟨w3.heap.size, 0, none⟩) 1 1] 33)) (Nat.le_refl 4), fun r hr => ?_⟩
    simp only [List.mem_cons, List.not_mem_nil, or_false] at hr
    rcases hr with rfl | rfl | rfl | rfl
    · exact reads_blk (cs := #[.int .i64 2, .int .i64 3, .string ⟨#[]⟩].toList) (blkOld k1 hBD) (Nat.le_refl _)
    · exact reads_blk (cs := #[.int .i64 0, .int .i64 0, .string ⟨#[]⟩].toList) (blkOld k2 hBD) (Nat.le_refl _)
    · exact reads_blk (cs := #[.int .i64 2, .int .i64 1, .string ⟨#[]⟩].toList) (blkOld k3 hBD) (Nat.le_refl _)
    · exact reads_blk (cs := #[.int .i64 2, .int .i64 3, .string ⟨#[]⟩].toList) (blkOld (heap_alloc_new w3 _) (allocB _ _)) (Nat.le_refl _)
  have HOF := Lib.hid (show Calls Try.prog 9 #[.string ⟨#[116]⟩, .slice (some ⟨w3.heap.size + 1, 0, none⟩) 4 4, .int .i64 1, .int .i64 1] ((w3.alloc (.cells #[.int .i64 2, .int .i64 3, .string ⟨#[]⟩] 36)).alloc (.cells #[.slice (some ⟨w1.heap.size, 0, none⟩) 1 1, .slice (some ⟨w1.heap.size + 1, 0, none⟩) 1 1, .slice (some ⟨w2.heap.size, 0, none⟩) 1 1, .slice (some ⟨w3.heap.size, 0, none⟩) 1 1] 33)) (fun e w' => ∃ ab ao c eb eo ec cb co cc, e = .returned (.agg #[.string ⟨#[116]⟩, .int .i64 4, .int .i64 1, .slice (some ⟨ab, ao, none⟩) 1 c]) ∧ PStatR w' ⟨⟨#[116]⟩, 4, 1, [⟨Sp.exC, some ⟨eb, eo, none⟩, ec, some ⟨cb, co, none⟩, cc⟩], some ⟨ab, ao, none⟩, c⟩ ∧ Below (((w3.alloc (.cells #[.int .i64 2, .int .i64 3, .string ⟨#[]⟩] 36)).alloc (.cells #[.slice (some ⟨w1.heap.size, 0, none⟩) 1 1, .slice (some ⟨w1.heap.size + 1, 0, none⟩) 1 1, .slice (some ⟨w2.heap.size, 0, none⟩) 1 1, .slice (some ⟨w3.heap.size, 0, none⟩) 1 1] 33))).heap.size ((w3.alloc (.cells #[.int .i64 2, .int .i64 3, .string ⟨#[]⟩] 36)).alloc (.cells #[.slice (some ⟨w1.heap.size, 0, none⟩) 1 1, .slice (some ⟨w1.heap.size + 1, 0, none⟩) 1 1, .slice (some ⟨w2.heap.size, 0, none⟩) 1 1, .slice (some ⟨w3.heap.size, 0, none⟩) 1 1] 33)) w') from (Of_any ⟨#[116]⟩ [⟨[Sp.exV 3], some ⟨w1.heap.size, 0, none⟩, 1⟩, ⟨[Sp.nullV], some ⟨w1.heap.size + 1, 0, none⟩, 1⟩, ⟨[Sp.exV 1], some ⟨w2.heap.size, 0, none⟩, 1⟩, ⟨[Sp.exV 3], some ⟨w3.heap.size, 0, none⟩, 1⟩] (by simp) (fun r hr => by
    simp only [List.mem_cons, List.not_mem_nil, or_false] at hr
    rcases hr with rfl | rfl | rfl | rfl <;> simp) 1 1 (by decide) (some ⟨w3.heap.size + 1, 0, none⟩) 4 ((w3.alloc (.cells #[.int .i64 2, .int .i64 3, .string ⟨#[]⟩] 36)).alloc (.cells #[.slice (some ⟨w1.heap.size, 0, none⟩) 1 1, .slice (some ⟨w1.heap.size + 1, 0, none⟩) 1 1, .slice (some ⟨w2.heap.size, 0, none⟩) 1 1, .slice (some ⟨w3.heap.size, 0, none⟩) 1 1] 33)) hRR).mono (fun e w' h => by
    obtain ⟨p, rfl, hp, hr, hb⟩ := h
    rw [show ([⟨[Sp.exV 3], some ⟨w1.heap.size, 0, none⟩, 1⟩, ⟨[Sp.nullV], some ⟨w1.heap.size + 1, 0, none⟩, 1⟩, ⟨[Sp.exV 1], some ⟨w2.heap.size, 0, none⟩, 1⟩, ⟨[Sp.exV 3], some ⟨w3.heap.size, 0, none⟩, 1⟩] : List PRow).map (·.l) = Sp.exL from rfl, Sp.ex_stat] at hp
    obtain ⟨t, rw', pg, cols, A, c⟩ := p
    unfold PStat.plain at hp
    simp only at hp
    injection hp with h1 h2 h3 h4
    subst h1 h2 h3
    obtain ⟨q, rfl⟩ : ∃ q, cols = [q] := List.length_eq_one_iff.1 (by have := congrArg List.length h4; simpa using this)
    simp only [List.map_cons, List.map_nil, List.cons.injEq, and_true] at h4
    obtain ⟨qc, E, ec, C, cc⟩ := q
    simp only at h4
    subst h4
    have hq := hr.col _ (List.mem_singleton.2 rfl)
    obtain ⟨ab, ao, rfl, _⟩ := hr.cols.at_ (by simp)
    obtain ⟨eb, eo, he, _⟩ := hq.ends.at_ (by simp [Sp.exC])
    obtain ⟨cb, co, hc, _⟩ := hq.com.at_ (by simp [Sp.exC])
    simp only at he hc
    subst he hc
    exact ⟨ab, ao, c, eb, eo, ec, cb, co, cc, rfl, hr, hb⟩))
  have HWD := Lib.hid hWD
  clear hRR hWD hBD k1 k2 k3
  obtain ⟨W4, hW4⟩ : ∃ W, W = ((w3.alloc (.cells #[.int .i64 2, .int .i64 3, .string ⟨#[]⟩] 36)).alloc (.cells #[.slice (some ⟨w1.heap.size, 0, none⟩) 1 1, .slice (some ⟨w1.heap.size + 1, 0, none⟩) 1 1, .slice (some ⟨w2.heap.size, 0, none⟩) 1 1, .slice (some ⟨w3.heap.size, 0, none⟩) 1 1] 33)) := ⟨_, rfl⟩
  rw [← hW4] at HOF HWD ⊢
  clear hW4 hb1 hb2 hb3
  go_upto_region 3 with (first
    | (go_at_call 9; (with_reducible refine HOF.out.mono ?_); rintro e w5 ⟨ab, ao, c, eb, eo, ec, cb, co, cc, rfl, hr5, hb5⟩)
    | (with_reducible refine wpList_store_new rfl 28 (.tmp 2) (.tmp 14) rfl #[.string ⟨#[116]⟩, .int .i64 4, .int .i64 1, .slice (some ⟨ab, ao, none⟩) 1 c] _ _ rfl (by kernel_rfl) (by kernel_rfl) (by kernel_rfl) (by kernel_rfl) ?_))
  have HBS := Lib.hid (heap_alloc_new w5 (.cells #[.string ⟨#[116]⟩, .int .i64 4, .int .i64 1, .slice (some ⟨ab, ao, none⟩) 1 c] 28))
  have HR6 := Lib.hid (hr5.below (allocB w5 (.cells #[.string ⟨#[116]⟩, .int .i64 4, .int .i64 1, .slice (some ⟨ab, ao, none⟩) 1 c] 28)))
  have HB6 := Lib.hid (joinB (joinB HWD.out hb5) (allocB w5 (.cells #[.string ⟨#[116]⟩, .int .i64 4, .int .i64 1, .slice (some ⟨ab, ao, none⟩) 1 c] 28)))
  obtain ⟨gs, hgs⟩ : ∃ g, g = w5.heap.size := ⟨_, rfl⟩
  obtain ⟨W6, hW6⟩ : ∃ W, W = w5.alloc (.cells #[.string ⟨#[116]⟩, .int .i64 4, .int .i64 1, .slice (some ⟨ab, ao, none⟩) 1 c] 28) := ⟨_, rfl⟩
  rw [← hgs, ← hW6] at HBS
  rw [← hW6] at HR6 HB6
  rw [← hW6, ← hgs]
  clear hW6 hgs hr5 hb5 HOF HWD
  have HCR := Lib.hid (show W6.rangeAt ab ao [.int .i64 1, .int .i64 2, .slice (some ⟨eb, eo, none⟩) 8 ec, .slice (some ⟨cb, co, none⟩) 1 cc] from by
    obtain ⟨b, off, e, _, _, h⟩ := read_at colC_len HR6.out.cols (show 0 < 1 by decide)
    injection e with e
    injection e with e1 e2
    subst e1 e2
    have h' := h
    rw [Nat.zero_mul, Nat.add_zero] at h'
    exact h')
  have hcs := blkCell HBS.out
  have hx2 : W6.cell? ⟨ab, ao + 2, none⟩ = some (.slice (some ⟨eb, eo, none⟩) 8 ec) := HCR.out 2 _ rfl
  have hx3 : W6.cell? ⟨ab, ao + 3, none⟩ = some (.slice (some ⟨cb, co, none⟩) 1 cc) := HCR.out 3 _ rfl
  simp only [Act.put]
  go_upto_region 6 with (first | (with_reducible refine wpList_load_mid rfl 39 (.tmp 39) rfl ab (ao) rfl [.int .i64 1, .int .i64 2, .slice (some ⟨eb, eo, none⟩) 8 ec, .slice (some ⟨cb, co, none⟩) 1 cc] _ HCR.out Try.underlying39 (by kernel_rfl) (by kernel_rfl) ?_) | (with_reducible refine wpList_store_new rfl 39 (.tmp 3) (.tmp 40) rfl #[.int .i64 1, .int .i64 2, .slice (some ⟨eb, eo, none⟩) 8 ec, .slice (some ⟨cb, co, none⟩) 1 cc] _ _ rfl (by kernel_rfl) (by kernel_rfl) (by kernel_rfl) (by kernel_rfl) ?_))
  have HBC := Lib.hid (heap_alloc_new W6 (.cells #[.int .i64 1, .int .i64 2, .slice (some ⟨eb, eo, none⟩) 8 ec, .slice (some ⟨cb, co, none⟩) 1 cc] 39))
  have HBS7 := Lib.hid (blkOld HBS.out (allocB W6 (.cells #[.int .i64 1, .int .i64 2, .slice (some ⟨eb, eo, none⟩) 8 ec, .slice (some ⟨cb, co, none⟩) 1 cc] 39)))
  have HR7 := Lib.hid (HR6.out.below (allocB W6 (.cells #[.int .i64 1, .int .i64 2, .slice (some ⟨eb, eo, none⟩) 8 ec, .slice (some ⟨cb, co, none⟩) 1 cc] 39)))
  have HB7 := Lib.hid (joinB HB6.out (allocB W6 (.cells #[.int .i64 1, .int .i64 2, .slice (some ⟨eb, eo, none⟩) 8 ec, .slice (some ⟨cb, co, none⟩) 1 cc] 39)))
  obtain ⟨gc, hgc⟩ : ∃ g, g = W6.heap.size := ⟨_, rfl⟩
  obtain ⟨W7, hW7⟩ : ∃ W, W = W6.alloc (.cells #[.int .i64 1, .int .i64 2, .slice (some ⟨eb, eo, none⟩) 8 ec, .slice (some ⟨cb, co, none⟩) 1 cc] 39) := ⟨_, rfl⟩
  rw [← hgc, ← hW7] at HBC
  rw [← hW7] at HR7 HB7 HBS7
  rw [← hW7, ← hgc]
  clear hW7 hgc HBS HR6 HB6 hcs hx2 hx3 HCR
  have HCOL := Lib.hid (HR7.out.col _ (List.mem_singleton.2 rfl))
  have HE := Lib.hid (show ∀ (i : Nat) (hi : i < Sp.exC.ends.length) u, Below W7.heap.size W7 u → u.rangeAt eb (eo + i * 3) (valC (Sp.exC.ends[i])) from fun i hi u hu => by
    obtain ⟨b, off, e, _, hlt, h⟩ := read_at valC_len HCOL.out.ends hi
    injection e with e
    injection e with e1 e2
    subst e1 e2
    exact fun k v hk => by rw [hu.cell (p := ⟨eb, eo + i * 3 + k, none⟩) hlt]; exact h k v hk)
  have HE1 := Lib.hid (show ∀ u, Below W7.heap.size W7 u → u.rangeAt eb (eo + 3) [.int .i64 2, .int .i64 1, .string ⟨#[]⟩] from fun u hu => HE.out 1 (by decide) u hu)
  have HE2 := Lib.hid (show ∀ u, Below W7.heap.size W7 u → u.rangeAt eb (eo + 6) [.int .i64 2, .int .i64 3, .string ⟨#[]⟩] from fun u hu => HE.out 2 (by decide) u hu)
  have HC2 := Lib.hid (show ∀ u, Below W7.heap.size W7 u → u.cell? ⟨cb, co + 3, none⟩ = some (.int .i64 2) from fun u hu => by
    obtain ⟨b, off, e, _, hlt, h⟩ := read_at oftC_len HCOL.out.com (show 0 < Sp.exC.common.length by decide)
    injection e with e
    injection e with e1 e2
    subst e1 e2
    rw [hu.cell (p := ⟨cb, co + 3, none⟩) hlt]
    have h8 : W7.cell? ⟨cb, co + 0 * 4 + 3, none⟩ = some (.int .i64 2) := h 3 _ rfl
    simpa using h8)
  have HSR := Lib.hid (show ∀ W, Below W7.heap.size W7 W → Calls Try.prog 12 #[.agg #[.string ⟨#[116]⟩, .int .i64 4, .int .i64 1, .slice (some ⟨ab, ao, none⟩) 1 c]] W (Says (Sp.rightS ⟨⟨#[116]⟩, 4, 1, [Sp.exC]⟩) W) from fun W hW => sright_any ⟨⟨#[116]⟩, 4, 1, [⟨Sp.exC, some ⟨eb, eo, none⟩, ec, some ⟨cb, co, none⟩, cc⟩], some ⟨ab, ao, none⟩, c⟩ ⟨fun q hq => by
    rw [List.mem_singleton.1 hq]
    refine ⟨fun v hv => ?_, fun o ho => ?_, by show (8 : Nat) ≤ 140737488355328; decide, by show (1 : Nat) ≤ 140737488355328; decide⟩
    · simp only [Sp.exC, List.mem_cons, List.not_mem_nil, or_false] at hv
      rcases hv with rfl | rfl | rfl | rfl | rfl | rfl | rfl | rfl <;> exact ⟨by decide, by decide, by decide⟩
    · simp only [Sp.exC, List.mem_cons, List.not_mem_nil, or_false] at ho
      subst ho
      exact ⟨by decide, by decide, by decide⟩, by simp⟩ W (HR7.out.below hW))
  have HP := Lib.hid (Sp.ex_right ⟨#[116]⟩)
  generalize Sp.rightS ⟨⟨#[116]⟩, 4, 1, [Sp.exC]⟩ = P at HSR HP
  have he1 := eql_val 2 1 ⟨#[]⟩
  have he3 := eql_val 2 3 ⟨#[]⟩
  clear HE HCOL HR7
  simp only [Act.put]
  have hSn : Below W7.heap.size W7 W7.drew := (Below.refl _ W7).drew
  refine wp_region_held_drew (S := (fun u => Below W7.heap.size W7 u)) (by kernel_rfl) ?_ (fun hHeld => ?_)
  · exact hSn
  generalize W7.drew = w9 at hSn ⊢
  refine tkW 0 (some 41) (v := ?_) rfl ?_ ?_
  rotate_left
  · intro u hSu; have hSa := blkCell (blkOld HBS7.out hSu); have hSb := blkCell (blkOld HBC.out hSu); have hSc := HC2.out u hSu; clear hSu; go_simp; (try with_reducible rfl)
  try simp only [Act.put, List.setIfInBounds_toArray, List.set_cons_zero, List.set_cons_succ]
  refine tkW 1 (some 42) (v := ?_) rfl ?_ ?_
  rotate_left
  · intro u hSu; have hSa := blkCell (blkOld HBS7.out hSu); have hSb := blkCell (blkOld HBC.out hSu); have hSc := HC2.out u hSu; clear hSu; go_simp; (try with_reducible rfl)
  try simp only [Act.put, List.setIfInBounds_toArray, List.set_cons_zero, List.set_cons_succ]
  refine tkW 2 (some 43) (v := ?_) rfl ?_ ?_
  rotate_left
  · intro u hSu; have hSa := blkCell (blkOld HBS7.out hSu); have hSb := blkCell (blkOld HBC.out hSu); have hSc := HC2.out u hSu; clear hSu; go_simp; (try with_reducible rfl)
  try simp only [Act.put, List.setIfInBounds_toArray, List.set_cons_zero, List.set_cons_succ]
  refine tkW 3 (some 44) (v := ?_) rfl ?_ ?_
  rotate_left
  · intro u hSu; have hSa := blkCell (blkOld HBS7.out hSu); have hSb := blkCell (blkOld HBC.out hSu); have hSc := HC2.out u hSu; clear hSu; go_simp; (try with_reducible rfl)
  try simp only [Act.put, List.setIfInBounds_toArray, List.set_cons_zero, List.set_cons_succ]
  refine tkW 4 (some 45) (v := ?_) rfl ?_ ?_
  rotate_left
  · intro u hSu; have hSa := blkCell (blkOld HBS7.out hSu); have hSb := blkCell (blkOld HBC.out hSu); have hSc := HC2.out u hSu; clear hSu; go_simp; (try with_reducible rfl)
  try simp only [Act.put, List.setIfInBounds_toArray, List.set_cons_zero, List.set_cons_succ]
  refine tkW 5 (some 46) (v := ?_) rfl ?_ ?_
  rotate_left
  · intro u hSu; have hSa := blkCell (blkOld HBS7.out hSu); have hSb := blkCell (blkOld HBC.out hSu); have hSc := HC2.out u hSu; clear hSu; go_simp; (try with_reducible rfl)
  try simp only [Act.put, List.setIfInBounds_toArray, List.set_cons_zero, List.set_cons_succ]
  refine tkW 6 (some 47) (v := ?_) rfl ?_ ?_
  rotate_left
  · intro u hSu; have hSa := blkCell (blkOld HBS7.out hSu); have hSb := blkCell (blkOld HBC.out hSu); have hSc := HC2.out u hSu; clear hSu; go_simp; (try with_reducible rfl)
  try simp only [Act.put, List.setIfInBounds_toArray, List.set_cons_zero, List.set_cons_succ]
  refine tkW 7 (some 48) (v := ?_) rfl ?_ ?_
  rotate_left
  · intro u hSu; have hSa := blkCell (blkOld HBS7.out hSu); have hSb := blkCell (blkOld HBC.out hSu); have hSc := HC2.out u hSu; clear hSu; go_simp; (try with_reducible rfl)
  try simp only [Act.put, List.setIfInBounds_toArray, List.set_cons_zero, List.set_cons_succ]
  refine tkW 8 (some 49) (v := ?_) rfl ?_ ?_
  rotate_left
  · intro u hSu; have hSa := blkCell (blkOld HBS7.out hSu); have hSb := blkCell (blkOld HBC.out hSu); have hSc := HC2.out u hSu; clear hSu; go_simp; (try with_reducible rfl)
  try simp only [Act.put, List.setIfInBounds_toArray, List.set_cons_zero, List.set_cons_succ]
  refine tkW 9 (some 50) (v := ?_) rfl ?_ ?_
  rotate_left
  · intro u hSu; have hSa := blkCell (blkOld HBS7.out hSu); have hSb := blkCell (blkOld HBC.out hSu); have hSc := HC2.out u hSu; clear hSu; go_simp; (try with_reducible rfl)
  try simp only [Act.put, List.setIfInBounds_toArray, List.set_cons_zero, List.set_cons_succ]
  refine tkW 10 (some 51) (v := ?_) rfl ?_ ?_
  rotate_left
  · intro u hSu; have hSa := blkCell (blkOld HBS7.out hSu); have hSb := blkCell (blkOld HBC.out hSu); have hSc := HC2.out u hSu; clear hSu; go_simp; (try with_reducible rfl)
  try simp only [Act.put, List.setIfInBounds_toArray, List.set_cons_zero, List.set_cons_succ]
  refine tkW 11 (some 52) (v := ?_) rfl ?_ ?_
  rotate_left
  · intro u hSu; have hSa := blkCell (blkOld HBS7.out hSu); have hSb := blkCell (blkOld HBC.out hSu); have hSc := HC2.out u hSu; clear hSu; go_simp; (try with_reducible rfl)
  try simp only [Act.put, List.setIfInBounds_toArray, List.set_cons_zero, List.set_cons_succ]
  refine tkW 12 (some 53) (v := ?_) rfl ?_ ?_
  rotate_left
  · intro u hSu; have hSa := blkCell (blkOld HBS7.out hSu); have hSb := blkCell (blkOld HBC.out hSu); have hSc := HC2.out u hSu; clear hSu; go_simp; (try with_reducible rfl)
  try simp only [Act.put, List.setIfInBounds_toArray, List.set_cons_zero, List.set_cons_succ]
  refine tkW 13 (some 54) (v := ?_) rfl ?_ ?_
  rotate_left
  · intro u hSu; have hSa := blkCell (blkOld HBS7.out hSu); have hSb := blkCell (blkOld HBC.out hSu); have hSc := HC2.out u hSu; clear hSu; go_simp; (try with_reducible rfl)
  try simp only [Act.put, List.setIfInBounds_toArray, List.set_cons_zero, List.set_cons_succ]
  refine tkW 14 (some 55) (v := ?_) rfl ?_ ?_
  rotate_left
  · intro u hSu; have hSa := blkCell (blkOld HBS7.out hSu); have hSb := blkCell (blkOld HBC.out hSu); have hSc := HC2.out u hSu; clear hSu; go_simp; (try with_reducible rfl)
  try simp only [Act.put, List.setIfInBounds_toArray, List.set_cons_zero, List.set_cons_succ]
  refine tkW 15 (some 56) (v := ?_) rfl ?_ ?_
  rotate_left
  · intro u hSu; have hSa := blkCell (blkOld HBS7.out hSu); have hSb := blkCell (blkOld HBC.out hSu); have hSc := HC2.out u hSu; clear hSu; go_simp; (try with_reducible rfl)
  try simp only [Act.put, List.setIfInBounds_toArray, List.set_cons_zero, List.set_cons_succ]
  refine tkW 16 (some 57) (v := ?_) rfl ?_ ?_
  rotate_left
  · intro u hSu; have hSa := blkCell (blkOld HBS7.out hSu); have hSb := blkCell (blkOld HBC.out hSu); have hSc := HC2.out u hSu; clear hSu; go_simp; (try with_reducible rfl)
  try simp only [Act.put, List.setIfInBounds_toArray, List.set_cons_zero, List.set_cons_succ]
  refine tkW 17 (some 58) (v := ?_) rfl ?_ ?_
  rotate_left
  · intro u hSu; have hSa := blkCell (blkOld HBS7.out hSu); have hSb := blkCell (blkOld HBC.out hSu); have hSc := HC2.out u hSu; clear hSu; go_simp; (try with_reducible rfl)
  try simp only [Act.put, List.setIfInBounds_toArray, List.set_cons_zero, List.set_cons_succ]
  refine tkW 18 (some 59) (v := ?_) rfl ?_ ?_
  rotate_left
  · intro u hSu; have hSa := blkCell (blkOld HBS7.out hSu); have hSb := blkCell (blkOld HBC.out hSu); have hSc := HC2.out u hSu; clear hSu; go_simp; (try with_reducible rfl)
  try simp only [Act.put, List.setIfInBounds_toArray, List.set_cons_zero, List.set_cons_succ]
  refine tkW 19 (some 60) (v := ?_) rfl ?_ ?_
  rotate_left
  · intro u hSu; have hSa := blkCell (blkOld HBS7.out hSu); have hSb := blkCell (blkOld HBC.out hSu); have hSc := HC2.out u hSu; clear hSu; go_simp; (try with_reducible rfl)
  try simp only [Act.put, List.setIfInBounds_toArray, List.set_cons_zero, List.set_cons_succ]
  refine tkW 20 (some 61) (v := ?_) rfl ?_ ?_
  rotate_left
  · intro u hSu; have hSa := blkCell (blkOld HBS7.out hSu); have hSb := blkCell (blkOld HBC.out hSu); have hSc := HC2.out u hSu; clear hSu; go_simp; (try with_reducible rfl)
  try simp only [Act.put, List.setIfInBounds_toArray, List.set_cons_zero, List.set_cons_succ]
  refine tkW 21 (some 62) (v := ?_) rfl ?_ ?_
  rotate_left
  · intro u hSu; have hSa := blkCell (blkOld HBS7.out hSu); have hSb := blkCell (blkOld HBC.out hSu); have hSc := HC2.out u hSu; clear hSu; go_simp; (try with_reducible rfl)
  try simp only [Act.put, List.setIfInBounds_toArray, List.set_cons_zero, List.set_cons_succ]
  refine tkW 22 (some 63) (v := ?_) rfl ?_ ?_
  rotate_left
  · intro u hSu; have hSa := blkCell (blkOld HBS7.out hSu); have hSb := blkCell (blkOld HBC.out hSu); have hSc := HC2.out u hSu; clear hSu; go_simp; (try with_reducible rfl)
  try simp only [Act.put, List.setIfInBounds_toArray, List.set_cons_zero, List.set_cons_succ]
  refine tkW 23 (some 64) (v := ?_) rfl ?_ ?_
  rotate_left
  · intro u hSu; have hSa := blkCell (blkOld HBS7.out hSu); have hSb := blkCell (blkOld HBC.out hSu); have hSc := HC2.out u hSu; clear hSu; go_simp; (try with_reducible rfl)
  try simp only [Act.put, List.setIfInBounds_toArray, List.set_cons_zero, List.set_cons_succ]
  refine tkW 24 (some 65) (v := ?_) rfl ?_ ?_
  rotate_left
  · intro u hSu; have hSa := blkCell (blkOld HBS7.out hSu); have hSb := blkCell (blkOld HBC.out hSu); have hSc := HC2.out u hSu; clear hSu; go_simp; (try with_reducible rfl)
  try simp only [Act.put, List.setIfInBounds_toArray, List.set_cons_zero, List.set_cons_succ]
  refine tkV 25 (some 66) (v := .agg #[.int .i64 2, .int .i64 1, .string ⟨#[]⟩]) rfl (yieldsIf_load_mid (by rfl) 36 (.tmp 65) rfl eb (eo + 3) (by rfl) [.int .i64 2, .int .i64 1, .string ⟨#[]⟩] _ HE1.out Try.underlying36 (by kernel_rfl) (by kernel_rfl)) ?_
  try simp only [Act.put, List.setIfInBounds_toArray, List.set_cons_zero, List.set_cons_succ]
  refine rdH 26 (some 67) rfl (fun K hK => ?_)
  go_simp
  (with_reducible refine (HN1.out _).mono ?_); rintro e u1 ⟨rfl, hb1⟩; have hSm := joinB hSn hb1; clear hSn hb1; have hSn := hSm; clear hSm
  refine hK.out _ _ ?_ (fun hHeld => ?_)
  · exact hSn
  clear hK K
  try simp only [Act.put, List.setIfInBounds_toArray, List.set_cons_zero, List.set_cons_succ]
  refine tkW 27 (some 68) (v := ?_) rfl ?_ ?_
  rotate_left
  · intro u hSu; have hSa := blkCell (blkOld HBS7.out hSu); have hSb := blkCell (blkOld HBC.out hSu); have hSc := HC2.out u hSu; clear hSu; go_simp; (try with_reducible rfl)
  try simp only [Act.put, List.setIfInBounds_toArray, List.set_cons_zero, List.set_cons_succ]
  refine tkW 28 (some 69) (v := ?_) rfl ?_ ?_
  rotate_left
  · intro u hSu; have hSa := blkCell (blkOld HBS7.out hSu); have hSb := blkCell (blkOld HBC.out hSu); have hSc := HC2.out u hSu; clear hSu; go_simp; (try with_reducible rfl)
  try simp only [Act.put, List.setIfInBounds_toArray, List.set_cons_zero, List.set_cons_succ]
  refine tkW 29 (some 70) (v := ?_) rfl ?_ ?_
  rotate_left
  · intro u hSu; have hSa := blkCell (blkOld HBS7.out hSu); have hSb := blkCell (blkOld HBC.out hSu); have hSc := HC2.out u hSu; clear hSu; go_simp; (try with_reducible rfl)
  try simp only [Act.put, List.setIfInBounds_toArray, List.set_cons_zero, List.set_cons_succ]
  refine tkW 30 (some 71) (v := ?_) rfl ?_ ?_
  rotate_left
  · intro u hSu; have hSa := blkCell (blkOld HBS7.out hSu); have hSb := blkCell (blkOld HBC.out hSu); have hSc := HC2.out u hSu; clear hSu; go_simp; (try with_reducible rfl)
  try simp only [Act.put, List.setIfInBounds_toArray, List.set_cons_zero, List.set_cons_succ]
  refine tkW 31 (some 72) (v := ?_) rfl ?_ ?_
  rotate_left
  · intro u hSu; have hSa := blkCell (blkOld HBS7.out hSu); have hSb := blkCell (blkOld HBC.out hSu); have hSc := HC2.out u hSu; clear hSu; go_simp; (try with_reducible rfl)
  try simp only [Act.put, List.setIfInBounds_toArray, List.set_cons_zero, List.set_cons_succ]
  refine tkW 32 (some 73) (v := ?_) rfl ?_ ?_
  rotate_left
  · intro u hSu; have hSa := blkCell (blkOld HBS7.out hSu); have hSb := blkCell (blkOld HBC.out hSu); have hSc := HC2.out u hSu; clear hSu; go_simp; (try with_reducible rfl)
  try simp only [Act.put, List.setIfInBounds_toArray, List.set_cons_zero, List.set_cons_succ]
  refine tkV 33 (some 74) (v := .agg #[.int .i64 2, .int .i64 3, .string ⟨#[]⟩]) rfl (yieldsIf_load_mid (by rfl) 36 (.tmp 73) rfl eb (eo + 6) (by rfl) [.int .i64 2, .int .i64 3, .string ⟨#[]⟩] _ HE2.out Try.underlying36 (by kernel_rfl) (by kernel_rfl)) ?_
  try simp only [Act.put, List.setIfInBounds_toArray, List.set_cons_zero, List.set_cons_succ]
  refine rdH 34 (some 75) rfl (fun K hK => ?_)
  go_simp
  (with_reducible refine (HN3.out _).mono ?_); rintro e u2 ⟨rfl, hb2⟩; have hSm := joinB hSn hb2; clear hSn hb2; have hSn := hSm; clear hSm
  refine hK.out _ _ ?_ (fun hHeld => ?_)
  · exact hSn
  clear hK K
  try simp only [Act.put, List.setIfInBounds_toArray, List.set_cons_zero, List.set_cons_succ]
  refine tkW 35 (some 76) (v := ?_) rfl ?_ ?_
  rotate_left
  · intro u hSu; have hSa := blkCell (blkOld HBS7.out hSu); have hSb := blkCell (blkOld HBC.out hSu); have hSc := HC2.out u hSu; clear hSu; go_simp; (try with_reducible rfl)
  try simp only [Act.put, List.setIfInBounds_toArray, List.set_cons_zero, List.set_cons_succ]
  refine tkW 36 (some 77) (v := ?_) rfl ?_ ?_
  rotate_left
  · intro u hSu; have hSa := blkCell (blkOld HBS7.out hSu); have hSb := blkCell (blkOld HBC.out hSu); have hSc := HC2.out u hSu; clear hSu; go_simp; (try with_reducible rfl)
  try simp only [Act.put, List.setIfInBounds_toArray, List.set_cons_zero, List.set_cons_succ]
  refine tkW 37 (some 78) (v := ?_) rfl ?_ ?_
  rotate_left
  · intro u hSu; have hSa := blkCell (blkOld HBS7.out hSu); have hSb := blkCell (blkOld HBC.out hSu); have hSc := HC2.out u hSu; clear hSu; go_simp; (try with_reducible rfl)
  try simp only [Act.put, List.setIfInBounds_toArray, List.set_cons_zero, List.set_cons_succ]
  refine tkV 38 (some 79) (v := .agg #[.string ⟨#[116]⟩, .int .i64 4, .int .i64 1, .slice (some ⟨ab, ao, none⟩) 1 c]) rfl (yieldsIf_load_mid (by rfl) 28 (.tmp 2) rfl gs 0 (by rfl) #[.string ⟨#[116]⟩, .int .i64 4, .int .i64 1, .slice (some ⟨ab, ao, none⟩) 1 c].toList _ (fun u hu => (by intro j v hj; rw [Nat.zero_add, blkCell (blkOld HBS7.out hu)]; simpa using hj)) Try.underlying28 (by kernel_rfl) (by kernel_rfl)) ?_
  try simp only [Act.put, List.setIfInBounds_toArray, List.set_cons_zero, List.set_cons_succ]
  refine rdH 39 (some 80) rfl (fun K hK => ?_)
  go_simp
  (with_reducible refine (HSR.out _ hSn).mono ?_); rintro e u3 ⟨q, rfl, hq, hb3⟩; obtain rfl := q_true hq HP.out; clear hq; have hSm := joinB hSn hb3; clear hSn hb3; have hSn := hSm; clear hSm
  refine hK.out _ _ ?_ (fun hHeld => ?_)
  · exact hSn
  clear hK K
  try simp only [Act.put, List.setIfInBounds_toArray, List.set_cons_zero, List.set_cons_succ]
  refine tkW 40 (some 81) (v := ?_) rfl ?_ ?_
  rotate_left
  · intro u hSu; have hSa := blkCell (blkOld HBS7.out hSu); have hSb := blkCell (blkOld HBC.out hSu); have hSc := HC2.out u hSu; clear hSu; go_simp; (try with_reducible rfl)
  try simp only [Act.put, List.setIfInBounds_toArray, List.set_cons_zero, List.set_cons_succ]
  refine tkW 41 (some 0) (v := ?_) rfl ?_ ?_
  rotate_left
  · intro u hSu; have hSa := blkCell (blkOld HBS7.out hSu); have hSb := blkCell (blkOld HBC.out hSu); have hSc := HC2.out u hSu; clear hSu; go_simp; (try with_reducible rfl)
  try simp only [Act.put, List.setIfInBounds_toArray, List.set_cons_zero]
  refine wpAnyH_done (by kernel_rfl) ?_ _
  clear hHeld
  go_wp2_with fail
  go_ret
  exact ⟨by simp, joinB HB7.out hSn⟩
end Go.Proofs.Ytmhpbmobfdgkeaa
/- The walk over the law of statistics: StatRight. -/
namespace Go.Proofs.Ytmhpbmobfdgkeaa
open Go.RowKit
end Go.Proofs.Ytmhpbmobfdgkeaa
/- Arguments that are statistics and rows of values: opened. -/
namespace Go.Proofs.Ytmhpbmobfdgkeaa
open Go.ChangeShapes Go.WideShapes Go.ChangeAt Go.RowKit
theorem cellsS : Try.prog.cellsOf 9 = 1 := by kernel_rfl
theorem cellsI : Try.prog.cellsOf 3 = 1 := by kernel_rfl
theorem cellsVa : Try.prog.cellsOf 36 = 3 := by kernel_rfl
theorem cellsOf : Try.prog.cellsOf 48 = 4 := by kernel_rfl
theorem cellsRo : Try.prog.cellsOf 33 = 1 := by kernel_rfl
theorem bytesVa : 1 ≤ Try.prog.bytesOf 36 := by decide +kernel
theorem bytesOf : 1 ≤ Try.prog.bytesOf 48 := by decide +kernel
theorem bytesRo : 1 ≤ Try.prog.bytesOf 33 := by decide +kernel
theorem vaFields : ∃ f0 f1 f2 : Field, Try.prog.underlying 36 = some (.struct #[f0, f1, f2]) ∧ (f0.offset = 0 ∧ f1.offset = 1 ∧ f2.offset = 2) ∧ f0.type = 3 ∧ f1.type = 3 ∧ f2.type = 9 := ⟨_, _, _, Try.underlying36, ⟨rfl, rfl, rfl⟩, rfl, rfl, rfl⟩
theorem list3' {α : Type} {l : List α} (h : l.length = 3) : ∃ a b c, l = [a, b, c] := by
  match l, h with
  | [a, b, c], _ => exact ⟨a, b, c, rfl⟩
theorem spotOf {w : World} {a : Addr} {v : Value} (h : w.cell? a = some v) : a = ⟨a.block, a.off, none⟩ ∧ a.block < w.heap.size := by
  obtain ⟨b, off, sp⟩ := a
  unfold World.cell? at h
  cases hh : w.heap[b]? with
  | none => simp [hh] at h
  | some o =>
    have hlt : b < w.heap.size := (Array.getElem?_eq_some_iff.1 hh).1
    cases o with
    | cells c t f =>
      simp only [hh] at h
      cases sp with
      | none => exact ⟨rfl, hlt⟩
      | some x => simp at h
    | _ => simp [hh] at h
/-- A datum that a machine can hold. -/
def Light {H : Type} (t : TypeId) (d : DataW H) : Prop := ∀ n ∈ DataW.weights Try.prog t d, n ≤ reachBytes
theorem light_of {H : Type} {ts : List TypeId} {ds : List (DataW H)} {j : Nat} {t : TypeId} {d : DataW H} (h : (DataW.weightsEach Try.prog ts ds).all (· ≤ reachBytes) = true) (ht : ts[j]? = some t) (hd : ds[j]? = some d) : Light t d := fun n hn => by
  have := List.all_eq_true.1 h _ (DataW.weights_mem_each ht hd n hn)
  simpa using this
theorem weights_mem_all {H : Type} {P : Program} {e : TypeId} {d : DataW H} {n : Nat} (hn : n ∈ DataW.weights P e d) : ∀ {l : List (DataW H)}, d ∈ l → n ∈ DataW.weightsAll P e l := by
  intro l
  induction l with
  | nil => intro h; cases h
  | cons a l ih =>
    intro h
    unfold DataW.weightsAll
    rcases List.mem_cons.1 h with h1 | h1
    · subst h1; exact List.mem_append_left _ hn
    · exact List.mem_append_right _ (ih h1)
section
variable {H : Type} {enc : TypeId × Value → H} {w : World} {base : Nat} {spare : Nat → Bool} {held : Bool}
theorem trod_field {t : TypeId} {fs : Array Field} {fuel : Nat} {cs : List Value} {x : DataW H × List MemPlace} (ht : Try.prog.underlying t = some (.struct fs)) (h : DataW.trod enc Try.prog w base spare held fuel t cs = some x) :
    ∃ n, cs.length = Try.prog.cellsOf t ∧ ∀ (i : Nat) (f : Field), fs[i]? = some f → ∃ y, DataW.trod enc Try.prog w base spare held n f.type ((cs.drop f.offset).take (Try.prog.cellsOf f.type)) = some y ∧ (Light t x.1 → Light f.type y.1) := by
  obtain ⟨xs, n, _, rfl, hl, hlen, hf⟩ := DataW.trod_struct ht h
  refine ⟨n, hl, fun i f hi => ?_⟩
  have hi' : i < xs.length := by rw [hlen]; exact (Array.getElem?_eq_some_iff.1 hi).1
  refine ⟨xs[i], by rw [hf i f hi, List.getElem?_eq_getElem hi'], fun hL m hm => hL m ?_⟩
  unfold DataW.weights
  rw [ht]
  exact DataW.weights_mem_each (j := i) (t := f.type) (d := xs[i].1) (by simp [hi]) (by simp [hi']) m hm
/-- A slice, opened, whatever its elements are. -/
theorem trod_row {α : Type} [Inhabited α] {en : α → List Value} {k : Nat} (hk : ∀ x, (en x).length = k) (hk0 : 0 < k) {t e : TypeId} (ht : Try.prog.underlying t = some (.slice e)) (hce : Try.prog.cellsOf e = k) (hbe : 1 ≤ Try.prog.bytesOf e) {Q : α → Prop}
    (he : ∀ (fuel : Nat) (cs : List Value) (x : DataW H × List MemPlace), DataW.trod enc Try.prog w base spare held fuel e cs = some x → Light e x.1 → ∃ o, cs = en o ∧ Q o)
    {fuel : Nat} {cs : List Value} {x : DataW H × List MemPlace} (hL : Light t x.1) (h : DataW.trod enc Try.prog w base spare held fuel t cs = some x) :
    ∃ (A : Option Addr) (c : Nat) (l : List α), cs = [.slice A l.length c] ∧ Reads w A c l.length (l.flatMap en) ∧ (∀ o ∈ l, Q o) ∧ l.length ≤ 140737488355328 := by
  rcases Deep.open_slice ht h with ⟨hcs, _⟩ | ⟨a', len', cap', m, n, D, Pl, hcs, hb, hl, hm, hmm, hx, hall⟩
  · exact ⟨none, 0, [], hcs, Reads.none_ _ _ _ _, (fun _ h => by cases h), Nat.zero_le _⟩
  · have hlm : len' ≤ m := by rw [hmm]; split <;> omega
    rw [hce] at hall
    rw [hx] at hL
    have hlen : len' ≤ 140737488355328 := by
      have h1 := hL _ (by unfold DataW.weights; rw [ht]; exact List.mem_cons_self ..)
      rw [List.length_map, List.length_range] at h1
      have h2 := reachBytes_lt
      have h3 := Nat.le_mul_of_pos_right (len' + (List.map (fun j => D (len' + j)) (List.range (m - len'))).length) hbe
      omega
    have hLe : ∀ i, i < len' → Light e (D i) := fun i hi n' hn' => hL n' (by
      unfold DataW.weights; rw [ht]
      exact List.mem_cons_of_mem _ (List.mem_append_left _ (weights_mem_all hn' (List.mem_map.2 ⟨i, List.mem_range.2 hi, rfl⟩))))
    obtain ⟨f, hf⟩ := Deep.choose_lt (α := α) (n := len') (p := fun i o => (∀ q u, (en o)[q]? = some u → w.cell? ((a'.add (i * k)).add q) = some u) ∧ Q o) (fun i hi => by
      obtain ⟨cs', h1, h2⟩ := hall i (by omega)
      obtain ⟨o, rfl, hQ⟩ := he _ _ _ h2 (hLe i hi)
      obtain ⟨_, _, h3⟩ := World.cells?_some h1
      refine ⟨o, fun q u hq => ?_, hQ⟩
      have hqk : q < k := by have := (List.getElem?_eq_some_iff.1 hq).1; rw [hk] at this; exact this
      rw [h3 q hqk]; exact hq)
    refine ⟨some a', cap', (List.range len').map f, by rw [hcs]; simp, ?_, ?_, by simpa using hlen⟩
    · intro h0
      have h0' : 0 < len' := by simpa using h0
      obtain ⟨u, hu⟩ : ∃ u, (en (f 0))[0]? = some u := ⟨_, List.getElem?_eq_getElem (by rw [hk]; exact hk0)⟩
      have hz := (hf 0 h0').1 0 u hu
      have hz2 : w.cell? a' = some u := by simpa [Addr.add] using hz
      obtain ⟨hsp, hlt⟩ := spotOf hz2
      refine ⟨a'.block, a'.off, by rw [← hsp], by simpa using hl, hlt, fun j u hj => ?_⟩
      have hjl : j < len' * k := by
        have := (List.getElem?_eq_some_iff.1 hj).1
        rw [flat_len hk] at this
        simpa using this
      obtain ⟨q, i, hi, rfl⟩ : ∃ q i, i < k ∧ j = q * k + i := ⟨j / k, j % k, Nat.mod_lt _ hk0, by rw [Nat.mul_comm]; exact (Nat.div_add_mod j k).symm⟩
      have hq : q < len' := by
        rcases Nat.lt_or_ge q len' with h5 | h5
        · exact h5
        · have := Nat.mul_le_mul_right k h5; omega
      rw [flat_at hk _ q i (by simpa using hq) hi] at hj
      have h5 := (hf q hq).1 i u (by simpa using hj)
      rw [hsp, Addr.add_mid, Addr.add_mid] at h5
      rw [← Nat.add_assoc]
      exact h5
    · intro o ho
      obtain ⟨i, hi, rfl⟩ := List.mem_map.1 ho
      exact (hf i (List.mem_range.1 hi)).2
theorem trod_sz (fuel : Nat) (cs : List Value) (x : DataW H × List MemPlace) (h : DataW.trod enc Try.prog w base spare held fuel 9 cs = some x) (hL : Light 9 x.1) : ∃ o : ByteArray, cs = [.string o] ∧ o.size ≤ 140737488355328 := by
  obtain ⟨b, e, rfl, _⟩ := DataW.trod_string Try.underlying9 h
  refine ⟨b, e, ?_⟩
  have h1 := hL b.data.toList.length (by unfold DataW.weights; exact List.mem_singleton.2 rfl)
  have h2 := reachBytes_lt
  have h3 : b.data.toList.length = b.size := by simp
  omega
theorem trod_va (fuel : Nat) (cs : List Value) (x : DataW H × List MemPlace) (h : DataW.trod enc Try.prog w base spare held fuel 36 cs = some x) (hL : Light 36 x.1) : ∃ o : Sp.Val, cs = valC o ∧ ValB o := by
  obtain ⟨f0, f1, f2, hu, ⟨o0, o1, o2⟩, t0, t1, t2⟩ := vaFields
  obtain ⟨n, hl, hf⟩ := trod_field hu h
  rw [cellsVa] at hl
  obtain ⟨c0, c1, c2, rfl⟩ := list3' hl
  obtain ⟨y0, h0, gh0⟩ := hf 0 f0 rfl
  rw [o0, t0, cellsI] at h0
  obtain ⟨y1, h1, gh1⟩ := hf 1 f1 rfl
  rw [o1, t1, cellsI] at h1
  obtain ⟨y2, h2, gh2⟩ := hf 2 f2 rfl
  rw [o2, t2, cellsS] at h2
  obtain ⟨i0, e0, _, _⟩ := DataW.trod_int Try.underlying3 h0
  obtain ⟨i1, e1, _, w1⟩ := DataW.trod_int Try.underlying3 h1
  obtain ⟨s2, e2, z2⟩ := trod_sz _ _ _ h2 (by rw [← t2]; exact gh2 hL)
  simp at e0 e1 e2
  exact ⟨⟨i0, i1, s2⟩, by rw [e0, e1, e2]; rfl, ⟨(bnd w1).1, (bnd w1).2, z2⟩⟩
instance : Inhabited PCol := ⟨⟨⟨0, 0, [], []⟩, none, 0, none, 0⟩⟩
instance : Inhabited PStat := ⟨⟨⟨#[]⟩, 0, 0, [], none, 0⟩⟩
instance : Inhabited PRow := ⟨⟨[], none, 0⟩⟩
/-- A row of an argument. -/
def RowQ (w : World) (p : PRow) : Prop := PRowR w p ∧ (∀ v ∈ p.l, ValB v) ∧ p.l.length ≤ 140737488355328
theorem trod_ro (fuel : Nat) (cs : List Value) (x : DataW H × List MemPlace) (h : DataW.trod enc Try.prog w base spare held fuel 33 cs = some x) (hL : Light 33 x.1) : ∃ o : PRow, cs = rowC o ∧ RowQ w o := by
  obtain ⟨A, c, es, e, r, q, l⟩ := trod_row (en := valC) (k := 3) valC_len (by omega) Try.underlying33 cellsVa bytesVa (Q := ValB) trod_va hL h
  exact ⟨⟨es, A, c⟩, by rw [e]; rfl, r, q, l⟩
set_option maxRecDepth 100000 in
theorem open_vrows {r : Reach} {b0 : Nat} {v : Value} {d : DataW H} {ps : List MemPlace} (hval : Value.okWide Try.prog w r b0 22 v) (hd : DataW.Trod enc Try.prog w base spare held 22 v d ps) (hL : Light 22 d) :
    ∃ (A : Option Addr) (c : Nat) (l : List PRow), v = .slice A l.length c ∧ Reads w A c l.length (l.flatMap rowC) ∧ (∀ p ∈ l, RowQ w p) ∧ l.length ≤ 140737488355328 := by
  obtain ⟨a, len, cap, rfl⟩ := okWide_slice Try.underlying22 hval
  obtain ⟨fuel, hf⟩ := hd
  obtain ⟨A, c, l, h1, h2, h3, h4⟩ := trod_row (en := rowC) (k := 1) rowC_len (by omega) Try.underlying22 cellsRo bytesRo (Q := RowQ w) trod_ro hL hf
  exact ⟨A, c, l, by simpa [Value.cells] using h1, h2, h3, h4⟩
end
end Go.Proofs.Ytmhpbmobfdgkeaa
/- The walk over the reference of statistics: times, distinct, ends. -/
namespace Go.Proofs.Ytmhpbmobfdgkeaa
open Go.RowKit
end Go.Proofs.Ytmhpbmobfdgkeaa
/- The walk over the reference of statistics: ends, column. -/
namespace Go.Proofs.Ytmhpbmobfdgkeaa
open Go.RowKit
end Go.Proofs.Ytmhpbmobfdgkeaa
/- The walk over the reference of statistics: column. -/
namespace Go.Proofs.Ytmhpbmobfdgkeaa
open Go.RowKit
end Go.Proofs.Ytmhpbmobfdgkeaa
/- The walk over the reference of statistics: sorted. -/
namespace Go.Proofs.Ytmhpbmobfdgkeaa
open Go.RowKit
end Go.Proofs.Ytmhpbmobfdgkeaa
/- The walk over the reference of statistics: common. -/
namespace Go.Proofs.Ytmhpbmobfdgkeaa
open Go.RowKit
end Go.Proofs.Ytmhpbmobfdgkeaa
/- The walk over the reference of statistics: col. -/
namespace Go.Proofs.Ytmhpbmobfdgkeaa
open Go.RowKit
theorem colAt_valB {rows : List (List Sp.Val)} (h : ∀ r ∈ rows, ∀ v ∈ r, ValB v) (i : Nat) : ∀ v ∈ Sp.colAt rows i, ValB v := fun v hv => by
  unfold Sp.colAt at hv
  obtain ⟨r, hr, rfl⟩ := List.mem_map.1 hv
  by_cases hi : i < r.length
  · exact h r hr _ (Sp.getD_mem hi)
  · rw [List.getD_eq_getElem?_getD, List.getElem?_eq_none (by omega), Option.getD_none]; exact ⟨by decide, by decide, by decide⟩
end Go.Proofs.Ytmhpbmobfdgkeaa
/- The walk over the reference of statistics: Of. -/
namespace Go.Proofs.Ytmhpbmobfdgkeaa
open Go.RowKit
end Go.Proofs.Ytmhpbmobfdgkeaa
/- The walk over the law of statistics: small. -/
namespace Go.Proofs.Ytmhpbmobfdgkeaa
open Go.RowKit
def smallR (rows : List PRow) : Prop := rows.length ≤ 60 ∧ ∀ r ∈ rows, r.l.length ≤ 40
set_option maxRecDepth 100000 in
set_option maxHeartbeats 4000000 in
theorem small_any (rows : List PRow) (hl : rows.length ≤ 140737488355328) (A : Option Addr) (c : Nat) (w : World) (hr : RowsR w A c rows) :
    Calls Try.prog 6 #[.slice A rows.length c] w (Says (smallR rows) w) := by
  have HR := Lib.hid hr
  have HY := Lib.hid (fun (h : smallR rows) w' hb (e : Ending) he => says_yes (w := w) (w' := w') (e := e) h he hb)
  have HN := Lib.hid (fun (h : ¬ smallR rows) w' hb (e : Ending) he => says_no (w := w) (w' := w') (e := e) h he hb)
  have HD := Lib.hid (show smallR rows ↔ rows.length ≤ 60 ∧ ∀ r ∈ rows, r.l.length ≤ 40 from Iff.rfl)
  generalize smallR rows = P at HY HN HD ⊢
  generalize Says P w = Q at HY HN ⊢
  clear hr
  by_cases h60 : 60 < rows.length
  · have HF := Lib.hid (HN.out (fun h => by have := (HD.out.1 h).1; omega) _ (Below.refl _ _))
    have h60i : (60 : Int) < (rows.length : Int) := by omega
    clear HY HN HD
    go_enter Try.func6, Try.ntmps6
    go_wp2_with fail
    exact HF.out _ (by simp)
  · have h60i : ¬ (60 : Int) < (rows.length : Int) := by omega
    go_enter Try.func6, Try.ntmps6
    go_wp2_with fail
    go_loopw [3] (fun i wr => ∃ k : Nat, k ≤ rows.length ∧ i = .int .i64 k ∧ (∀ j (hj : j < rows.length), j < k → rows[j].l.length ≤ 40) ∧ Below w.heap.size w wr) (fun i _ => rows.length - (intOf i).toNat)
    case atStart => exact ⟨0, Nat.zero_le _, rfl, fun _ _ h => absurd h (by omega), Below.refl _ _⟩
    case round =>
      obtain ⟨k, hk, rfl, hall, hbw⟩ := hrel
      have HA := Lib.hid hall
      have HBW := Lib.hid hbw
      clear hall hbw
      have hk0 : (0 : Int) ≤ (k : Int) := by omega
      by_cases hlt : k < rows.length
      · obtain ⟨b, off, rfl, hca, hbl, hcell⟩ := read_at rowC_len (HR.out.rd.below HBW.out) hlt
        have hki : (k : Int) < (rows.length : Int) := by omega
        have hwk : IntKind.i64.wrap ((k : Int) + 1) = (k : Int) + 1 := IntWalk.i64_in _ (by omega)
        have HB := Lib.hid (show ¬ rows[k].l.length ≤ 40 → ¬ P from fun h hP => h ((HD.out.1 hP).2 _ (List.getElem_mem hlt)))
        have HG := Lib.hid (show rows[k].l.length ≤ 40 → ∀ j (hj : j < rows.length), j < k + 1 → rows[j].l.length ≤ 40 from fun h j hj hjk => by
          rcases Nat.lt_or_eq_of_le (Nat.le_of_lt_succ hjk) with h5 | h5
          · exact HA.out j hj h5
          · subst h5; exact h)
        generalize rows[k] = r at hcell HB HG
        obtain ⟨rl, rA, rc⟩ := r
        simp only at HB HG
        have hc0 : wr.cell? ⟨b, off + k, none⟩ = some (.slice rA rl.length rc) := by simpa using hcell 0 _ rfl
        clear hcell hca HA
        by_cases h4 : rl.length ≤ 40
        · have HF := Lib.hid (HG.out h4)
          have h4i : ¬ (40 : Int) < (rl.length : Int) := by omega
          clear HB HG HD HY HN
          go_wp2_with fail
          go_roundw
          case rel => exact ⟨k + 1, by omega, by go_num, HF.out, HBW.out⟩
          case measure => simp [intOf]; omega
        · have HF := Lib.hid (HN.out (HB.out h4) _ HBW.out)
          have h4i : (40 : Int) < (rl.length : Int) := by omega
          clear HB HG HD HY HN
          go_wp2_with fail
          exact HF.out _ (by simp)
      · have HF := Lib.hid (HY.out (HD.out.2 ⟨by omega, fun r hr => by
          obtain ⟨j, hj, rfl⟩ := List.getElem_of_mem hr
          exact HA.out j hj (by omega)⟩) _ HBW.out)
        clear HD HY HN HA
        go_wp2_with fail
        exact HF.out _ (by simp)
end Go.Proofs.Ytmhpbmobfdgkeaa
/- The walk over the law of statistics: StatOf. -/
namespace Go.Proofs.Ytmhpbmobfdgkeaa
open Go.RowKit
theorem colB_of {l : List Sp.Val} (h : ∀ v ∈ l, ValB v) : ColB (Sp.colS l) := by
  have hO : ∀ v ∈ Sp.others l, ValB v := fun v hv => h v (Sp.others_mem hv).1
  have hc := Sp.cnt_all _ (Sp.others_up l)
  unfold Sp.colS
  refine ⟨fun v hv => ?_, fun o ho => ?_, ?_, ?_⟩
  · by_cases h0 : 0 < (Sp.others l).length
    · obtain ⟨i, hi, rfl⟩ := List.getElem_of_mem hv
      obtain ⟨a, ha, e, _⟩ := Sp.ends_at h0 i hi
      have e2 : (Sp.endsV (Sp.others l))[i] = (Sp.others l).getD a Sp.nullV := e
      rw [e2]
      exact hO _ (Sp.getD_mem ha)
    · have e : Sp.endsV (Sp.others l) = [] := by unfold Sp.endsV; rw [if_pos (by omega)]
      have hv2 : v ∈ Sp.endsV (Sp.others l) := hv
      rw [e] at hv2
      cases hv2
  · have h1 : o ∈ (Sp.sortO Sp.ordO (Sp.oftF (Sp.cntV (Sp.others l)))).take 4 := ho
    have h2 := (Sp.sort_perm Sp.ordO _).mem_iff.1 (List.mem_of_mem_take h1)
    exact hO _ (hc.mem o (List.mem_filter.1 h2).1)
  · show (Sp.endsV (Sp.others l)).length ≤ _
    by_cases h0 : 0 < (Sp.others l).length
    · rw [Sp.endsV_len h0]; omega
    · have e : Sp.endsV (Sp.others l) = [] := by unfold Sp.endsV; rw [if_pos (by omega)]
      rw [e]; exact Nat.zero_le _
  · show ((Sp.sortO Sp.ordO (Sp.oftF (Sp.cntV (Sp.others l)))).take 4).length ≤ _
    rw [List.length_take]
    omega
theorem statB_of {p : PStat} {t : ByteArray} {rows : List PRow} {width pages : Int} (hp : p.plain = Sp.statOf t (rows.map (·.l)) width pages) (hrv : ∀ r ∈ rows, ∀ v ∈ r.l, ValB v) : StatB p := by
  have hc : p.cols.map (·.c) = (List.range (Sp.widthS width)).map (fun i => Sp.colS (Sp.colAt (rows.map (·.l)) i)) := congrArg Sp.StatS.cols hp
  have hv : ∀ r ∈ rows.map (·.l), ∀ v ∈ r, ValB v := fun r hr v hv => by
    obtain ⟨q, hq, rfl⟩ := List.mem_map.1 hr
    exact hrv q hq v hv
  refine ⟨fun c h => ?_, ?_⟩
  · have h1 : c.c ∈ p.cols.map (·.c) := List.mem_map.2 ⟨c, h, rfl⟩
    rw [hc] at h1
    obtain ⟨i, _, e⟩ := List.mem_map.1 h1
    rw [← e]
    exact colB_of (colAt_valB hv i)
  · have h1 := congrArg List.length hc
    rw [List.length_map, List.length_map, List.length_range] at h1
    rw [h1]
    unfold Sp.widthS
    omega
end Go.Proofs.Ytmhpbmobfdgkeaa
