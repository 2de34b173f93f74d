import Derived.Test.YtmebkghdkeeobaaGreatDoorHo00
import Derived.Test.YtmebkghdkeeobaaGreatDoorHo28
set_option maxRecDepth 100000
set_option maxHeartbeats 16000000
set_option linter.unusedSimpArgs false
namespace Go.Proofs.YtmebkghdkeeobaaGreatDoor
open Go.RowKit Sc
def uA (q : Nat) : Nat := if q = 1 then 2 else useN q
def uB (q : Nat) : Nat := if q = 2 then 3 else uA q
def uC (q : Nat) : Nat := if q = 1 then 0 else uB q
def uD (q : Nat) : Nat := if q = 1 then 4 else uC q
theorem upto1 (u : Nat → Nat) (h : 0 < u 0) : Upto u 1 := fun q hq => by
  obtain rfl : q = 0 := by omega
  exact h
theorem uptoB : Upto uA 2 := fun q hq => by
  have : q = 0 ∨ q = 1 := by omega
  rcases this with rfl | rfl <;> decide
theorem usedD : inUse uD 5 = [0, 1, 2] := by decide
set_option maxRecDepth 100000 in
set_option maxHeartbeats 16000000 in
theorem lawake_any (w : World) : Calls Tryz.prog 6 #[] w fun e w' => e = .returned (.bool true) ∧ Below w.heap.size w w' := by
  have HFM := Lib.hid (fun W => show Calls Tryz.prog 7 #[.int .i64 5, .int .i64 2] W (FmOut 5 2 W) from lformat_any 5 2 (by omega) (by omega) W)
  have HA1 := Lib.hid (fun (s : Tx.St) (p : SP) (fs : List Fr) (C : Nat → ByteArray) (b : ByteArray) (hS : SS 3000 5 2 [1] 3786 s fs C) (hu : SI 5 C b useN) W (h : PoolR W s p fs) => show Calls Tryz.prog 12 #[storeV s p, .int .i64 1, .int .i64 2] W (fun e w' => ∃ (s' : Tx.St) (q : SP) (fs' : List Fr) (C' : Nat → ByteArray), e = .returned (.tuple #[storeV s' q, .int .i64 1, .int .i64 0]) ∧ PoolR w' s' q fs' ∧ SS 3000 5 2 [1] 8834 s' fs' C' ∧ SI 5 C' (flipB b 1) uA ∧ Below W.heap.size W w') from salloc_any s p fs C hS (by decide) 1 (by simp) ⟨by decide, by decide⟩ b useN hu 2 (by omega) 1 (by omega) (upto1 _ (by decide)) (by decide) W h)
  have HA2 := Lib.hid (fun (s : Tx.St) (p : SP) (fs : List Fr) (C : Nat → ByteArray) (b : ByteArray) (hS : SS 3000 5 2 [1] 8834 s fs C) (hu : SI 5 C b uA) W (h : PoolR W s p fs) => show Calls Tryz.prog 12 #[storeV s p, .int .i64 1, .int .i64 3] W (fun e w' => ∃ (s' : Tx.St) (q : SP) (fs' : List Fr) (C' : Nat → ByteArray), e = .returned (.tuple #[storeV s' q, .int .i64 2, .int .i64 0]) ∧ PoolR w' s' q fs' ∧ SS 3000 5 2 [1] 13882 s' fs' C' ∧ SI 5 C' (flipB b 2) uB ∧ Below W.heap.size W w') from salloc_any s p fs C hS (by decide) 1 (by simp) ⟨by decide, by decide⟩ b uA hu 3 (by omega) 2 (by omega) uptoB (by decide) W h)
  have HA3 := Lib.hid (fun (s : Tx.St) (p : SP) (fs : List Fr) (C : Nat → ByteArray) (b : ByteArray) (hS : SS 3000 5 2 [1] 13882 s fs C) (hu : SI 5 C b uB) W (h : PoolR W s p fs) => show Calls Tryz.prog 10 #[storeV s p, .int .i64 1, .int .i64 1] W (fun e w' => ∃ (s' : Tx.St) (q : SP) (fs' : List Fr) (C' : Nat → ByteArray), e = .returned (.tuple #[storeV s' q, .int .i64 0]) ∧ PoolR w' s' q fs' ∧ SS 3000 5 2 [1] 18930 s' fs' C' ∧ SI 5 C' (flipB b 1) uC ∧ Below W.heap.size W w') from sfree_any s p fs C hS (by decide) 1 (by simp) ⟨by decide, by decide⟩ b uB hu 1 (by omega) (by omega) (by decide) W h)
  have HA4 := Lib.hid (fun (s : Tx.St) (p : SP) (fs : List Fr) (C : Nat → ByteArray) (b : ByteArray) (hS : SS 3000 5 2 [1] 18930 s fs C) (hu : SI 5 C b uC) W (h : PoolR W s p fs) => show Calls Tryz.prog 12 #[storeV s p, .int .i64 1, .int .i64 4] W (fun e w' => ∃ (s' : Tx.St) (q : SP) (fs' : List Fr) (C' : Nat → ByteArray), e = .returned (.tuple #[storeV s' q, .int .i64 1, .int .i64 0]) ∧ PoolR w' s' q fs' ∧ SS 3000 5 2 [1] 23978 s' fs' C' ∧ SI 5 C' (flipB b 1) uD ∧ Below W.heap.size W w') from salloc_any s p fs C hS (by decide) 1 (by simp) ⟨by decide, by decide⟩ b uC hu 4 (by omega) 1 (by omega) (upto1 _ (by decide)) (by decide) W h)
  have HUD := Lib.hid (fun (s : Tx.St) (p : SP) (fs : List Fr) (C : Nat → ByteArray) (b : ByteArray) (hS : SS 3000 5 2 [1] 23978 s fs C) (hu : SI 5 C b uD) W (h : PoolR W s p fs) => show Calls Tryz.prog 14 #[storeV s p] W (UdOut 3000 5 2 [1] 23978 C [0, 1, 2] W) from by rw [← usedD]; exact sused_all s p fs C hS b uD hu W h)
  have HF0 := Lib.hid (fun (s : Tx.St) (p : SP) (fs : List Fr) (C : Nat → ByteArray) (b : ByteArray) (hS : SS 3000 5 2 [1] 23978 s fs C) (hu : SI 5 C b uD) W (h : PoolR W s p fs) => sfree_arg s p fs C hS 1 b uD hu 0 (.inl (by decide)) W h)
  have HGE := Lib.hid (fun (s : Tx.St) (p : SP) (fs : List Fr) (C : Nat → ByteArray) (hS : SS 3000 5 2 [1] 23978 s fs C) W (h : PoolR W s p fs) => show Calls Tryz.prog 17 #[storeV s p, .int .i64 1] W (GtOut 3000 5 C s fs 1 W) from pget_any s p fs C hS.pi 1 (by omega) W h)
  have HKI := Lib.hid (fun (C : Nat → ByteArray) (b : ByteArray) (hu : SI 5 C b uD) (hz : (C 1).size = 512) W => show Calls Tryz.prog 19 #[.string (C 1)] W fun e w' => e = .returned (.int .i64 4) ∧ Below W.heap.size W w' from by
    have h9 := kind_any (C 1) (by omega) W
    rw [hu.kp 1 (by omega) (by omega)] at h9
    exact h9)
  have HSM := Lib.hid (fun (A D : Option Addr) (c d : Nat) W (h1 : Reads W A c 3 ([0, 1, 2].flatMap numC)) (h2 : Reads W D d 3 ([0, 1, 2].flatMap numC)) => show Calls Tryz.prog 16 #[.slice A 3 c, .slice D 3 d] W fun e w' => e = .returned (.bool true) ∧ Below W.heap.size W w' from by
    have h9 := lsame_any [0, 1, 2] [0, 1, 2] (by decide) (by decide) A D c d W h1 h2
    rw [decide_eq_true rfl] at h9
    exact h9)
  go_enter Tryz.func6, Tryz.ntmps6
  go_upto_region 2 with (first
    | (go_at_call 7; (refine (HFM.out _).mono ?_); rintro e w1 ⟨s1, p1, fs1, C1, rfl, hp1, hs1, hu1, hb1⟩)
    | (with_reducible refine wpList_store_new rfl 36 (.tmp 1) (.tmp 20) rfl (stA s1 p1) _ _ rfl (by kernel_rfl) (by kernel_rfl) (by kernel_rfl) (by kernel_rfl) ?_))
  have HB2 := Lib.hid (joinB hb1 (allocB w1 (.cells (stA s1 p1) 36)))
  have HG2 := Lib.hid (heap_alloc_new w1 (.cells (stA s1 p1) 36))
  have HP2 := Lib.hid (hp1.below (allocB w1 (.cells (stA s1 p1) 36)))
  have HS2 := Lib.hid hs1
  have HU2 := Lib.hid hu1
  have hlo : w.heap.size ≤ w1.heap.size := hb1.size
  obtain ⟨g, hg⟩ : ∃ g, g = w1.heap.size := ⟨_, rfl⟩
  obtain ⟨w2, hw2⟩ : ∃ W, W = w1.alloc (.cells (stA s1 p1) 36) := ⟨_, rfl⟩
  rw [← hg, ← hw2] at HG2
  rw [← hw2] at HB2 HP2
  rw [← hw2, ← hg]
  rw [← hg] at hlo
  clear hw2 hg hb1 hp1 hs1 hu1 HFM
  try simp only [Act.put]
  go_upto_region 5 with (first
    | (with_reducible refine listLoad (by kernel_rfl) 36 (.tmp 1) rfl g rfl (stA s1 p1) _ HG2.out _ Tryz.underlying36 (by kernel_rfl) (by kernel_rfl) ?_)
    | (go_at_call 12; (refine (HA1.out s1 p1 fs1 C1 _ HS2.out HU2.out _ HP2.out).mono ?_); rintro e v3 ⟨s2, p2, fs2, C2, rfl, hp3, hs3, hu3, hb3⟩; have HX3 := Lib.hid (blkOld HG2.out hb3))
    | (with_reducible refine listStore (by kernel_rfl) 36 (.tmp 1) (.tmp 29) rfl g (stA s2 p2) _ _ rfl rfl HX3.out (by kernel_rfl) (by kernel_rfl) (by kernel_rfl) ?_))
  have HG3 := Lib.hid (setRow_heap _ _ _ (stA s2 p2) _ _ HX3.out)
  have HP3 := Lib.hid (hp3.other (t := 36) HX3.out (by decide) (by decide) (by decide) (stA s2 p2))
  have HB3 := Lib.hid (rowB hlo (joinB HB2.out hb3) (stA s2 p2))
  have HS3 := Lib.hid hs3
  have HU3 := Lib.hid hu3
  generalize v3.setRow g (stA s2 p2) = w3 at HG3 HP3 HB3 ⊢
  clear hp3 hs3 hu3 hb3 HX3 HG2 HP2 HB2 HS2 HU2 HA1
  try simp only [Act.put]
  go_upto_region 6 with (first
    | (with_reducible refine listLoad (by kernel_rfl) 36 (.tmp 1) rfl g rfl (stA s2 p2) _ HG3.out _ Tryz.underlying36 (by kernel_rfl) (by kernel_rfl) ?_)
    | (go_at_call 12; (refine (HA2.out s2 p2 fs2 C2 _ HS3.out HU3.out _ HP3.out).mono ?_); rintro e v4 ⟨s3, p3, fs3, C3, rfl, hp4, hs4, hu4, hb4⟩; have HX4 := Lib.hid (blkOld HG3.out hb4))
    | (with_reducible refine listStore (by kernel_rfl) 36 (.tmp 1) (.tmp 36) rfl g (stA s3 p3) _ _ rfl rfl HX4.out (by kernel_rfl) (by kernel_rfl) (by kernel_rfl) ?_))
  have HG4 := Lib.hid (setRow_heap _ _ _ (stA s3 p3) _ _ HX4.out)
  have HP4 := Lib.hid (hp4.other (t := 36) HX4.out (by decide) (by decide) (by decide) (stA s3 p3))
  have HB4 := Lib.hid (rowB hlo (joinB HB3.out hb4) (stA s3 p3))
  have HS4 := Lib.hid hs4
  have HU4 := Lib.hid hu4
  generalize v4.setRow g (stA s3 p3) = w4 at HG4 HP4 HB4 ⊢
  clear hp4 hs4 hu4 hb4 HX4 HG3 HP3 HB3 HS3 HU3 HA2
  try simp only [Act.put]
  go_upto_region 7 with (first
    | (with_reducible refine listLoad (by kernel_rfl) 36 (.tmp 1) rfl g rfl (stA s3 p3) _ HG4.out _ Tryz.underlying36 (by kernel_rfl) (by kernel_rfl) ?_)
    | (go_at_call 10; (refine (HA3.out s3 p3 fs3 C3 _ HS4.out HU4.out _ HP4.out).mono ?_); rintro e v5 ⟨s4, p4, fs4, C4, rfl, hp5, hs5, hu5, hb5⟩; have HX5 := Lib.hid (blkOld HG4.out hb5))
    | (with_reducible refine listStore (by kernel_rfl) 36 (.tmp 1) (.tmp 43) rfl g (stA s4 p4) _ _ rfl rfl HX5.out (by kernel_rfl) (by kernel_rfl) (by kernel_rfl) ?_))
  have HG5 := Lib.hid (setRow_heap _ _ _ (stA s4 p4) _ _ HX5.out)
  have HP5 := Lib.hid (hp5.other (t := 36) HX5.out (by decide) (by decide) (by decide) (stA s4 p4))
  have HB5 := Lib.hid (rowB hlo (joinB HB4.out hb5) (stA s4 p4))
  have HS5 := Lib.hid hs5
  have HU5 := Lib.hid hu5
  generalize v5.setRow g (stA s4 p4) = w5 at HG5 HP5 HB5 ⊢
  clear hp5 hs5 hu5 hb5 HX5 HG4 HP4 HB4 HS4 HU4 HA3
  try simp only [Act.put]
  go_upto_region 8 with (first
    | (with_reducible refine listLoad (by kernel_rfl) 36 (.tmp 1) rfl g rfl (stA s4 p4) _ HG5.out _ Tryz.underlying36 (by kernel_rfl) (by kernel_rfl) ?_)
    | (go_at_call 12; (refine (HA4.out s4 p4 fs4 C4 _ HS5.out HU5.out _ HP5.out).mono ?_); rintro e v6 ⟨s5, p5, fs5, C5, rfl, hp6, hs6, hu6, hb6⟩; have HX6 := Lib.hid (blkOld HG5.out hb6))
    | (with_reducible refine listStore (by kernel_rfl) 36 (.tmp 1) (.tmp 49) rfl g (stA s5 p5) _ _ rfl rfl HX6.out (by kernel_rfl) (by kernel_rfl) (by kernel_rfl) ?_))
  have HG6 := Lib.hid (setRow_heap _ _ _ (stA s5 p5) _ _ HX6.out)
  have HP6 := Lib.hid (hp6.other (t := 36) HX6.out (by decide) (by decide) (by decide) (stA s5 p5))
  have HB6 := Lib.hid (rowB hlo (joinB HB5.out hb6) (stA s5 p5))
  have HS6 := Lib.hid hs6
  have HU6 := Lib.hid hu6
  generalize v6.setRow g (stA s5 p5) = w6 at HG6 HP6 HB6 ⊢
  clear hp6 hs6 hu6 hb6 HX6 HG5 HP5 HB5 HS5 HU5 HA4
  try simp only [Act.put]
  go_upto_region 9 with (first
    | (with_reducible refine listLoad (by kernel_rfl) 36 (.tmp 1) rfl g rfl (stA s5 p5) _ HG6.out _ Tryz.underlying36 (by kernel_rfl) (by kernel_rfl) ?_)
    | (go_at_call 14; (refine (HUD.out s5 p5 fs5 C5 _ HS6.out HU6.out _ HP6.out).mono ?_); rintro e v7 ⟨s6, p6, fs6, vv, rfl, hp7, hs7, hv7, hb7⟩; have HX7 := Lib.hid (blkOld HG6.out hb7))
    | (with_reducible refine listStore (by kernel_rfl) 36 (.tmp 1) (.tmp 55) rfl g (stA s6 p6) _ _ rfl rfl HX7.out (by kernel_rfl) (by kernel_rfl) (by kernel_rfl) ?_))
  have HG7 := Lib.hid (setRow_heap _ _ _ (stA s6 p6) _ _ HX7.out)
  have HP7 := Lib.hid (hp7.other (t := 36) HX7.out (by decide) (by decide) (by decide) (stA s6 p6))
  have HB7 := Lib.hid (rowB hlo (joinB HB6.out hb7) (stA s6 p6))
  have HS7 := Lib.hid hs7
  have HU7 := HU6
  have hgl : g < w6.heap.size := heapLt HG6.out
  have HV7 := Lib.hid (ownRowOff hv7 g (stA s6 p6) hgl)
  generalize v7.setRow g (stA s6 p6) = w7 at HG7 HP7 HB7 HV7 ⊢
  obtain ⟨A, cc, rfl, hread⟩ := OwnL.form HV7.out
  have HR7 := Lib.hid hread
  clear hp7 hs7 hb7 hv7 HX7 HG6 HP6 HB6 HS6 HU6 HUD HV7 hread hgl
  try simp only [Act.put]
  go_upto_region 10 with (first
    | (with_reducible refine listLoad (by kernel_rfl) 36 (.tmp 1) rfl g rfl (stA s6 p6) _ HG7.out _ Tryz.underlying36 (by kernel_rfl) (by kernel_rfl) ?_)
    | (go_at_call 10; (refine (HF0.out s6 p6 fs6 C5 _ HS7.out HU7.out _ HP7.out).mono ?_); rintro e v8 ⟨rfl, hb8⟩)
    | (with_reducible refine wpList_store_new rfl 36 (.tmp 13) (.tmp 62) rfl (stA s6 p6) _ _ rfl (by kernel_rfl) (by kernel_rfl) (by kernel_rfl) (by kernel_rfl) ?_))
  have hb9 := joinB hb8 (allocB v8 (.cells (stA s6 p6) 36))
  have HG8 := Lib.hid (blkOld HG7.out hb9)
  have HP8 := Lib.hid (HP7.out.below hb9)
  have HB8 := Lib.hid (joinB HB7.out hb9)
  have HR8 := Lib.hid (HR7.out.below hb9)
  obtain ⟨g8, hg8⟩ : ∃ g, g = v8.heap.size := ⟨_, rfl⟩
  obtain ⟨w8, hw8⟩ : ∃ W, W = v8.alloc (.cells (stA s6 p6) 36) := ⟨_, rfl⟩
  rw [← hw8] at HG8 HP8 HB8 HR8
  rw [← hw8, ← hg8]
  clear hw8 hg8 hb8 hb9 HG7 HP7 HB7 HR7 HF0
  try simp only [Act.put]
  go_upto_region 11 with (first
    | (with_reducible refine listLoad (by kernel_rfl) 36 (.tmp 1) rfl g rfl (stA s6 p6) _ HG8.out _ Tryz.underlying36 (by kernel_rfl) (by kernel_rfl) ?_)
    | (go_at_call 17; (refine (HGE.out s6 p6 fs6 C5 HS7.out _ HP8.out).mono ?_); rintro e v9 ⟨s7, p7, fs7, rfl, hp9, hi9, hk9, hb9⟩)
    | (with_reducible refine wpList_store_new rfl 36 (.tmp 15) (.tmp 67) rfl (stA s7 p7) _ _ rfl (by kernel_rfl) (by kernel_rfl) (by kernel_rfl) (by kernel_rfl) ?_))
  have hb10 := joinB hb9 (allocB v9 (.cells (stA s7 p7) 36))
  have HB9 := Lib.hid (joinB HB8.out hb10)
  have HR9 := Lib.hid (HR8.out.below hb10)
  have HK9 := Lib.hid (HKI.out C5 _ HU7.out (hi9.nm 1 (by omega)).size)
  obtain ⟨g9, hg9⟩ : ∃ g, g = v9.heap.size := ⟨_, rfl⟩
  obtain ⟨w9, hw9⟩ : ∃ W, W = v9.alloc (.cells (stA s7 p7) 36) := ⟨_, rfl⟩
  rw [← hw9] at HB9 HR9
  rw [← hw9, ← hg9]
  clear hw9 hg9 hb9 hb10 hp9 hi9 hk9 HG8 HP8 HB8 HR8 HGE HKI HU7 HS7
  try simp only [Act.put]
  have hb11 := allocB w9 (.cells #[.int .i64 0, .int .i64 1, .int .i64 2] 3)
  have HX11 := Lib.hid (reads_blk (cs := [0, 1, 2].flatMap numC) (T := 3) (n := 3) (c := 3) (heap_alloc_new w9 (.cells #[.int .i64 0, .int .i64 1, .int .i64 2] 3)) (by omega))
  have HY11 := Lib.hid (HR9.out.below hb11)
  go_wp2_with (first
    | (go_at_call 16; (refine (HSM.out _ _ _ _ _ HY11.out HX11.out).mono ?_); rintro e w12 ⟨rfl, hb12⟩)
    | (go_at_call 19; (refine (HK9.out _).mono ?_); rintro e w13 ⟨rfl, hb13⟩))
  go_ret
  exact ⟨rfl, HB9.out.trans ((joinB hb11 (joinB hb12 hb13)).mono HB9.out.size)⟩
end Go.Proofs.YtmebkghdkeeobaaGreatDoor
