/- The walk over the statements of transactions: the page's example. -/
import Derived.Test.YthfglhafphfhiaaGreatGp10
import Derived.Test.YthfglhafphfhiaaGreatGp05
import Derived.Test.YthfglhafphfhiaaGreatGp07
namespace Go.Proofs.YthfglhafphfhiaaGreat
open Go.RowKit
set_option maxRecDepth 100000 in
set_option maxHeartbeats 8000000 in
theorem tawake_any (w : World) : Calls Tryz.prog 6 #[] w fun e w' => e = .returned (.bool true) ∧ Below w.heap.size w w' := by
  obtain ⟨s1, s2, s3, e1, f1, e2, f2, e3, t3, x3, e4, l1, l2, g1, g2, g3⟩ := Tx.awake_txn
  have b0 : Tx.LogB (Tx.fresh 9) := Tx.logB_of (Lg.LInv.newN 9) (by omega)
  have gb : ∀ s, Tx.Good 9 s → Tx.LogB s ∧ s.disk.left = -1 := fun s hg => by
    obtain ⟨r1, r2, h1, _, h3, _⟩ := hg
    exact ⟨Tx.logB_of h1 (by omega), h3⟩
  have b1 := gb s1 g1
  have b2 := gb s2 g2
  have b3 := gb s3 g3
  have HFR := Lib.hid (fun W => show Calls Tryz.prog 7 #[.int .i64 9] W (FreshOut (Tx.fresh 9) W) from tfresh_any 9 (by omega) W)
  have HBE := Lib.hid (fun p W (h : StoreR W (Tx.fresh 9) p) => show Calls Tryz.prog 21 #[storeV (Tx.fresh 9) p] W (BegOut (s1, 1, 0) p W) from by
    have h9 := tbegin_any (Tx.fresh 9) p b0 (by show 0 ≤ _; omega) (by show (0 : Int) ≤ 1; decide) (by show (1 : Int) ≤ _; decide) W h
    rw [e1] at h9
    exact h9)
  have HF1 := Lib.hid (fun p W (h : StoreR W s1 p) => show Calls Tryz.prog 10 #[storeV s1 p, .int .i64 1] W fun e w' => e = .returned (.tuple #[.agg #[.int .i64 1, .int .i64 1, .int .i64 1, .bool false], .bool true]) ∧ Below W.heap.size W w' from by
    have h9 := tfind_any s1 p 1 (by omega) W h
    rw [f1] at h9
    exact h9)
  have HNE := Lib.hid (fun p W (h : StoreR W s1 p) => show Calls Tryz.prog 22 #[storeV s1 p, .int .i64 1, .int .i64 0] W (StOut (s2, 0) p W) from by
    have h9 := tnest_any s1 p b1.1 (by omega) 1 0 W h
    rw [e2] at h9
    exact h9)
  have HF2 := Lib.hid (fun p W (h : StoreR W s2 p) => show Calls Tryz.prog 10 #[storeV s2 p, .int .i64 1] W fun e w' => e = .returned (.tuple #[.agg #[.int .i64 1, .int .i64 28, .int .i64 0, .bool false], .bool true]) ∧ Below W.heap.size W w' from by
    have h9 := tfind_any s2 p 1 (by omega) W h
    rw [f2] at h9
    exact h9)
  have HCO := Lib.hid (fun p W (h : StoreR W s2 p) => show Calls Tryz.prog 23 #[storeV s2 p, .int .i64 1] W (StOut (s3, 0) p W) from by
    have h9 := tcommit_any s2 p b2.1 (by omega) (by rw [b2.2]; omega) 1 W h
    rw [e3] at h9
    exact h9)
  have hz3 : s3.txns.length = 0 := by rw [t3]; rfl
  have HAB := Lib.hid (fun p W (h : StoreR W s3 p) => show Calls Tryz.prog 24 #[.agg #[.int .i64 s3.zlog, .int .i64 s3.zpages, .int .i64 s3.zframes, .slice p.A s3.disk.sectors.length p.c, .int .i64 s3.disk.left, .bool s3.disk.down, .int .i64 s3.log.from_, .int .i64 s3.log.n, .int .i64 s3.log.end_, .int .i64 s3.log.safe, .string s3.log.tail, .slice p.F p.fn p.fc, .int .i64 s3.hand, .slice p.T 0 p.tc, .int .i64 2], .int .i64 1] W (StOut (s3, 21) p W) from by
    have h9 := tabort_any s3 p b3.1 (by rw [t3]; show 0 ≤ _; omega) 1 W h
    rw [e4] at h9
    dsimp only [storeV] at h9
    rw [hz3, x3] at h9
    exact h9)
  have HMA := Lib.hid (fun p W (h : StoreR W s2 p) => show Calls Tryz.prog 13 #[storeV s2 p, .int .i64 1] W fun e w' => e = .returned (.int .i64 28) ∧ Below W.heap.size W w' from by
    have h9 := tmark_any s2 p 1 (by omega) W h
    unfold Tx.markS at h9
    rw [f2] at h9
    exact h9)
  clear e1 f1 e2 f2 e3 t3 e4 g1 g2 g3 b0 gb b1 b2 b3 l1 l2
  obtain ⟨s0, hs0⟩ : ∃ s, s = Tx.fresh 9 := ⟨_, rfl⟩
  rw [← hs0] at HFR HBE
  clear hs0
  dsimp only [storeV] at HBE HF1 HNE HF2 HCO HAB HMA
  go_enter Tryz.func6, Tryz.ntmps6
  go_upto_region 2 with (first
    | (go_at_call 7; (with_reducible refine (HFR.out _).mono ?_); rintro e w1 ⟨p0, rfl, hs0, -, hb1⟩)
    | (go_at_call 21; (with_reducible refine (HBE.out p0 _ hs0).mono ?_); rintro e w2 ⟨p1, rfl, hs1, -, hb2⟩; (try dsimp only [storeV]))
    | (with_reducible refine wpList_store_new rfl 37 (.tmp 1) (.tmp 17) rfl #[.int .i64 s1.zlog, .int .i64 s1.zpages, .int .i64 s1.zframes, .slice p1.A s1.disk.sectors.length p1.c, .int .i64 s1.disk.left, .bool s1.disk.down, .int .i64 s1.log.from_, .int .i64 s1.log.n, .int .i64 s1.log.end_, .int .i64 s1.log.safe, .string s1.log.tail, .slice p1.F p1.fn p1.fc, .int .i64 s1.hand, .slice p1.T s1.txns.length p1.tc, .int .i64 s1.next] _ _ rfl (by kernel_rfl) (by kernel_rfl) (by kernel_rfl) (by kernel_rfl) ?_))
  have B1 := Lib.hid (joinB hb1 (pastAlloc (o := .cells #[.int .i64 s1.zlog, .int .i64 s1.zpages, .int .i64 s1.zframes, .slice p1.A s1.disk.sectors.length p1.c, .int .i64 s1.disk.left, .bool s1.disk.down, .int .i64 s1.log.from_, .int .i64 s1.log.n, .int .i64 s1.log.end_, .int .i64 s1.log.safe, .string s1.log.tail, .slice p1.F p1.fn p1.fc, .int .i64 s1.hand, .slice p1.T s1.txns.length p1.tc, .int .i64 s1.next] 37) hb2))
  have X1 := Lib.hid (heap_alloc_new w2 (.cells #[.int .i64 s1.zlog, .int .i64 s1.zpages, .int .i64 s1.zframes, .slice p1.A s1.disk.sectors.length p1.c, .int .i64 s1.disk.left, .bool s1.disk.down, .int .i64 s1.log.from_, .int .i64 s1.log.n, .int .i64 s1.log.end_, .int .i64 s1.log.safe, .string s1.log.tail, .slice p1.F p1.fn p1.fc, .int .i64 s1.hand, .slice p1.T s1.txns.length p1.tc, .int .i64 s1.next] 37))
  have S1 := Lib.hid (hs1.below (allocB w2 (.cells #[.int .i64 s1.zlog, .int .i64 s1.zpages, .int .i64 s1.zframes, .slice p1.A s1.disk.sectors.length p1.c, .int .i64 s1.disk.left, .bool s1.disk.down, .int .i64 s1.log.from_, .int .i64 s1.log.n, .int .i64 s1.log.end_, .int .i64 s1.log.safe, .string s1.log.tail, .slice p1.F p1.fn p1.fc, .int .i64 s1.hand, .slice p1.T s1.txns.length p1.tc, .int .i64 s1.next] 37)))
  obtain ⟨g1, hg1⟩ : ∃ g, g = w2.heap.size := ⟨_, rfl⟩
  obtain ⟨W1, hW1⟩ : ∃ W, W = w2.alloc (.cells #[.int .i64 s1.zlog, .int .i64 s1.zpages, .int .i64 s1.zframes, .slice p1.A s1.disk.sectors.length p1.c, .int .i64 s1.disk.left, .bool s1.disk.down, .int .i64 s1.log.from_, .int .i64 s1.log.n, .int .i64 s1.log.end_, .int .i64 s1.log.safe, .string s1.log.tail, .slice p1.F p1.fn p1.fc, .int .i64 s1.hand, .slice p1.T s1.txns.length p1.tc, .int .i64 s1.next] 37) := ⟨_, rfl⟩
  rw [← hg1] at X1
  rw [← hW1] at B1 X1 S1
  rw [← hW1, ← hg1]
  clear hg1 hW1 hb1 hb2 hs0 hs1 HFR HBE
  go_upto_region 3 with (first
    | (with_reducible refine listLoad (by kernel_rfl) 37 (.tmp 1) rfl g1 rfl #[.int .i64 s1.zlog, .int .i64 s1.zpages, .int .i64 s1.zframes, .slice p1.A s1.disk.sectors.length p1.c, .int .i64 s1.disk.left, .bool s1.disk.down, .int .i64 s1.log.from_, .int .i64 s1.log.n, .int .i64 s1.log.end_, .int .i64 s1.log.safe, .string s1.log.tail, .slice p1.F p1.fn p1.fc, .int .i64 s1.hand, .slice p1.T s1.txns.length p1.tc, .int .i64 s1.next] _ X1.out _ Tryz.underlying37 (by kernel_rfl) (by kernel_rfl) ?_)
    | (go_at_call 10; (with_reducible refine (HF1.out p1 _ S1.out).mono ?_); rintro e w3 ⟨rfl, hb3⟩)
    | (with_reducible refine wpList_store_new rfl 45 (.tmp 4) (.tmp 23) rfl #[.int .i64 1, .int .i64 1, .int .i64 1, .bool false] _ _ rfl (by kernel_rfl) (by kernel_rfl) (by kernel_rfl) (by kernel_rfl) ?_))
  have hbn := pastAlloc (o := .cells #[.int .i64 1, .int .i64 1, .int .i64 1, .bool false] 45) hb3
  have B3 := Lib.hid (B1.out.trans (hbn.mono B1.out.size))
  have X3 := Lib.hid (heap_alloc_new w3 (.cells #[.int .i64 1, .int .i64 1, .int .i64 1, .bool false] 45))
  have Y1 := Lib.hid (blkOld X1.out hbn)
  have R1 := Lib.hid (S1.out.below hbn)
  obtain ⟨g3, hg3⟩ : ∃ g, g = w3.heap.size := ⟨_, rfl⟩
  obtain ⟨W3, hW3⟩ : ∃ W, W = w3.alloc (.cells #[.int .i64 1, .int .i64 1, .int .i64 1, .bool false] 45) := ⟨_, rfl⟩
  rw [← hg3] at X3
  rw [← hW3] at B3 X3 Y1 R1
  rw [← hW3, ← hg3]
  clear hbn hb3 hg3 hW3 B1 X1 S1 HF1
  have X1 := Y1
  clear Y1
  have S1 := R1
  clear R1
  go_upto_region 4 with (first
    | (with_reducible refine listLoad (by kernel_rfl) 37 (.tmp 1) rfl g1 rfl #[.int .i64 s1.zlog, .int .i64 s1.zpages, .int .i64 s1.zframes, .slice p1.A s1.disk.sectors.length p1.c, .int .i64 s1.disk.left, .bool s1.disk.down, .int .i64 s1.log.from_, .int .i64 s1.log.n, .int .i64 s1.log.end_, .int .i64 s1.log.safe, .string s1.log.tail, .slice p1.F p1.fn p1.fc, .int .i64 s1.hand, .slice p1.T s1.txns.length p1.tc, .int .i64 s1.next] _ X1.out _ Tryz.underlying37 (by kernel_rfl) (by kernel_rfl) ?_)
    | (go_at_call 22; (with_reducible refine (HNE.out p1 _ S1.out).mono ?_); rintro e w4 ⟨p2, rfl, hs2, -, hb4⟩; (try dsimp only [storeV]))
    | (with_reducible refine wpList_store_new rfl 37 (.tmp 6) (.tmp 28) rfl #[.int .i64 s2.zlog, .int .i64 s2.zpages, .int .i64 s2.zframes, .slice p2.A s2.disk.sectors.length p2.c, .int .i64 s2.disk.left, .bool s2.disk.down, .int .i64 s2.log.from_, .int .i64 s2.log.n, .int .i64 s2.log.end_, .int .i64 s2.log.safe, .string s2.log.tail, .slice p2.F p2.fn p2.fc, .int .i64 s2.hand, .slice p2.T s2.txns.length p2.tc, .int .i64 s2.next] _ _ rfl (by kernel_rfl) (by kernel_rfl) (by kernel_rfl) (by kernel_rfl) ?_))
  have hbn := pastAlloc (o := .cells #[.int .i64 s2.zlog, .int .i64 s2.zpages, .int .i64 s2.zframes, .slice p2.A s2.disk.sectors.length p2.c, .int .i64 s2.disk.left, .bool s2.disk.down, .int .i64 s2.log.from_, .int .i64 s2.log.n, .int .i64 s2.log.end_, .int .i64 s2.log.safe, .string s2.log.tail, .slice p2.F p2.fn p2.fc, .int .i64 s2.hand, .slice p2.T s2.txns.length p2.tc, .int .i64 s2.next] 37) hb4
  have B4 := Lib.hid (B3.out.trans (hbn.mono B3.out.size))
  have X4 := Lib.hid (heap_alloc_new w4 (.cells #[.int .i64 s2.zlog, .int .i64 s2.zpages, .int .i64 s2.zframes, .slice p2.A s2.disk.sectors.length p2.c, .int .i64 s2.disk.left, .bool s2.disk.down, .int .i64 s2.log.from_, .int .i64 s2.log.n, .int .i64 s2.log.end_, .int .i64 s2.log.safe, .string s2.log.tail, .slice p2.F p2.fn p2.fc, .int .i64 s2.hand, .slice p2.T s2.txns.length p2.tc, .int .i64 s2.next] 37))
  have Y1 := Lib.hid (blkOld X1.out hbn)
  have Y3 := Lib.hid (blkOld X3.out hbn)
  have R1 := Lib.hid (S1.out.below hbn)
  have S2 := Lib.hid (hs2.below (allocB w4 (.cells #[.int .i64 s2.zlog, .int .i64 s2.zpages, .int .i64 s2.zframes, .slice p2.A s2.disk.sectors.length p2.c, .int .i64 s2.disk.left, .bool s2.disk.down, .int .i64 s2.log.from_, .int .i64 s2.log.n, .int .i64 s2.log.end_, .int .i64 s2.log.safe, .string s2.log.tail, .slice p2.F p2.fn p2.fc, .int .i64 s2.hand, .slice p2.T s2.txns.length p2.tc, .int .i64 s2.next] 37)))
  obtain ⟨g4, hg4⟩ : ∃ g, g = w4.heap.size := ⟨_, rfl⟩
  obtain ⟨W4, hW4⟩ : ∃ W, W = w4.alloc (.cells #[.int .i64 s2.zlog, .int .i64 s2.zpages, .int .i64 s2.zframes, .slice p2.A s2.disk.sectors.length p2.c, .int .i64 s2.disk.left, .bool s2.disk.down, .int .i64 s2.log.from_, .int .i64 s2.log.n, .int .i64 s2.log.end_, .int .i64 s2.log.safe, .string s2.log.tail, .slice p2.F p2.fn p2.fc, .int .i64 s2.hand, .slice p2.T s2.txns.length p2.tc, .int .i64 s2.next] 37) := ⟨_, rfl⟩
  rw [← hg4] at X4
  rw [← hW4] at B4 X4 Y1 Y3 R1 S2
  rw [← hW4, ← hg4]
  clear hbn hb4 hg4 hW4 B3 X1 X3 S1 hs2 HNE
  have X1 := Y1
  clear Y1
  have X3 := Y3
  clear Y3
  have S1 := R1
  clear R1
  go_upto_region 5 with (first
    | (with_reducible refine listLoad (by kernel_rfl) 37 (.tmp 6) rfl g4 rfl #[.int .i64 s2.zlog, .int .i64 s2.zpages, .int .i64 s2.zframes, .slice p2.A s2.disk.sectors.length p2.c, .int .i64 s2.disk.left, .bool s2.disk.down, .int .i64 s2.log.from_, .int .i64 s2.log.n, .int .i64 s2.log.end_, .int .i64 s2.log.safe, .string s2.log.tail, .slice p2.F p2.fn p2.fc, .int .i64 s2.hand, .slice p2.T s2.txns.length p2.tc, .int .i64 s2.next] _ X4.out _ Tryz.underlying37 (by kernel_rfl) (by kernel_rfl) ?_)
    | (go_at_call 10; (with_reducible refine (HF2.out p2 _ S2.out).mono ?_); rintro e w5 ⟨rfl, hb5⟩)
    | (with_reducible refine wpList_store_new rfl 45 (.tmp 8) (.tmp 33) rfl #[.int .i64 1, .int .i64 28, .int .i64 0, .bool false] _ _ rfl (by kernel_rfl) (by kernel_rfl) (by kernel_rfl) (by kernel_rfl) ?_))
  have hbn := pastAlloc (o := .cells #[.int .i64 1, .int .i64 28, .int .i64 0, .bool false] 45) hb5
  have B5 := Lib.hid (B4.out.trans (hbn.mono B4.out.size))
  have X5 := Lib.hid (heap_alloc_new w5 (.cells #[.int .i64 1, .int .i64 28, .int .i64 0, .bool false] 45))
  have Y3 := Lib.hid (blkOld X3.out hbn)
  have Y4 := Lib.hid (blkOld X4.out hbn)
  have R2 := Lib.hid (S2.out.below hbn)
  obtain ⟨g5, hg5⟩ : ∃ g, g = w5.heap.size := ⟨_, rfl⟩
  obtain ⟨W5, hW5⟩ : ∃ W, W = w5.alloc (.cells #[.int .i64 1, .int .i64 28, .int .i64 0, .bool false] 45) := ⟨_, rfl⟩
  rw [← hg5] at X5
  rw [← hW5] at B5 X5 Y3 Y4 R2
  rw [← hW5, ← hg5]
  clear hbn hb5 hg5 hW5 B4 X3 X4 S2 HF2 X1 S1
  have X3 := Y3
  clear Y3
  have X4 := Y4
  clear Y4
  have S2 := R2
  clear R2
  go_upto_region 6 with (first
    | (with_reducible refine listLoad (by kernel_rfl) 37 (.tmp 6) rfl g4 rfl #[.int .i64 s2.zlog, .int .i64 s2.zpages, .int .i64 s2.zframes, .slice p2.A s2.disk.sectors.length p2.c, .int .i64 s2.disk.left, .bool s2.disk.down, .int .i64 s2.log.from_, .int .i64 s2.log.n, .int .i64 s2.log.end_, .int .i64 s2.log.safe, .string s2.log.tail, .slice p2.F p2.fn p2.fc, .int .i64 s2.hand, .slice p2.T s2.txns.length p2.tc, .int .i64 s2.next] _ X4.out _ Tryz.underlying37 (by kernel_rfl) (by kernel_rfl) ?_)
    | (go_at_call 23; (with_reducible refine (HCO.out p2 _ S2.out).mono ?_); rintro e w6 ⟨p3, rfl, hs3, -, hb6⟩; (try dsimp only [storeV]))
    | (with_reducible refine wpList_store_new rfl 37 (.tmp 10) (.tmp 38) rfl #[.int .i64 s3.zlog, .int .i64 s3.zpages, .int .i64 s3.zframes, .slice p3.A s3.disk.sectors.length p3.c, .int .i64 s3.disk.left, .bool s3.disk.down, .int .i64 s3.log.from_, .int .i64 s3.log.n, .int .i64 s3.log.end_, .int .i64 s3.log.safe, .string s3.log.tail, .slice p3.F p3.fn p3.fc, .int .i64 s3.hand, .slice p3.T 0 p3.tc, .int .i64 2] _ _ rfl (by kernel_rfl) (by kernel_rfl) (by kernel_rfl) (by kernel_rfl) ?_))
  have hbn := pastAlloc (o := .cells #[.int .i64 s3.zlog, .int .i64 s3.zpages, .int .i64 s3.zframes, .slice p3.A s3.disk.sectors.length p3.c, .int .i64 s3.disk.left, .bool s3.disk.down, .int .i64 s3.log.from_, .int .i64 s3.log.n, .int .i64 s3.log.end_, .int .i64 s3.log.safe, .string s3.log.tail, .slice p3.F p3.fn p3.fc, .int .i64 s3.hand, .slice p3.T 0 p3.tc, .int .i64 2] 37) hb6
  have B6 := Lib.hid (B5.out.trans (hbn.mono B5.out.size))
  have X6 := Lib.hid (heap_alloc_new w6 (.cells #[.int .i64 s3.zlog, .int .i64 s3.zpages, .int .i64 s3.zframes, .slice p3.A s3.disk.sectors.length p3.c, .int .i64 s3.disk.left, .bool s3.disk.down, .int .i64 s3.log.from_, .int .i64 s3.log.n, .int .i64 s3.log.end_, .int .i64 s3.log.safe, .string s3.log.tail, .slice p3.F p3.fn p3.fc, .int .i64 s3.hand, .slice p3.T 0 p3.tc, .int .i64 2] 37))
  have Y3 := Lib.hid (blkOld X3.out hbn)
  have Y4 := Lib.hid (blkOld X4.out hbn)
  have Y5 := Lib.hid (blkOld X5.out hbn)
  have R2 := Lib.hid (S2.out.below hbn)
  have S3 := Lib.hid (hs3.below (allocB w6 (.cells #[.int .i64 s3.zlog, .int .i64 s3.zpages, .int .i64 s3.zframes, .slice p3.A s3.disk.sectors.length p3.c, .int .i64 s3.disk.left, .bool s3.disk.down, .int .i64 s3.log.from_, .int .i64 s3.log.n, .int .i64 s3.log.end_, .int .i64 s3.log.safe, .string s3.log.tail, .slice p3.F p3.fn p3.fc, .int .i64 s3.hand, .slice p3.T 0 p3.tc, .int .i64 2] 37)))
  obtain ⟨g6, hg6⟩ : ∃ g, g = w6.heap.size := ⟨_, rfl⟩
  obtain ⟨W6, hW6⟩ : ∃ W, W = w6.alloc (.cells #[.int .i64 s3.zlog, .int .i64 s3.zpages, .int .i64 s3.zframes, .slice p3.A s3.disk.sectors.length p3.c, .int .i64 s3.disk.left, .bool s3.disk.down, .int .i64 s3.log.from_, .int .i64 s3.log.n, .int .i64 s3.log.end_, .int .i64 s3.log.safe, .string s3.log.tail, .slice p3.F p3.fn p3.fc, .int .i64 s3.hand, .slice p3.T 0 p3.tc, .int .i64 2] 37) := ⟨_, rfl⟩
  rw [← hg6] at X6
  rw [← hW6] at B6 X6 Y3 Y4 Y5 R2 S3
  rw [← hW6, ← hg6]
  clear hbn hb6 hg6 hW6 B5 X3 X4 X5 S2 hs3 HCO
  have X3 := Y3
  clear Y3
  have X4 := Y4
  clear Y4
  have X5 := Y5
  clear Y5
  have S2 := R2
  clear R2
  go_upto_region 7 with (first
    | (with_reducible refine listLoad (by kernel_rfl) 37 (.tmp 10) rfl g6 rfl #[.int .i64 s3.zlog, .int .i64 s3.zpages, .int .i64 s3.zframes, .slice p3.A s3.disk.sectors.length p3.c, .int .i64 s3.disk.left, .bool s3.disk.down, .int .i64 s3.log.from_, .int .i64 s3.log.n, .int .i64 s3.log.end_, .int .i64 s3.log.safe, .string s3.log.tail, .slice p3.F p3.fn p3.fc, .int .i64 s3.hand, .slice p3.T 0 p3.tc, .int .i64 2] _ X6.out _ Tryz.underlying37 (by kernel_rfl) (by kernel_rfl) ?_)
    | (go_at_call 24; (with_reducible refine (HAB.out p3 _ S3.out).mono ?_); rintro e w7 ⟨p4, rfl, hs4, -, hb7⟩; clear hs4; (try dsimp only [storeV]))
    | (with_reducible refine wpList_store_new rfl 37 (.tmp 12) (.tmp 43) rfl #[.int .i64 s3.zlog, .int .i64 s3.zpages, .int .i64 s3.zframes, .slice p4.A s3.disk.sectors.length p4.c, .int .i64 s3.disk.left, .bool s3.disk.down, .int .i64 s3.log.from_, .int .i64 s3.log.n, .int .i64 s3.log.end_, .int .i64 s3.log.safe, .string s3.log.tail, .slice p4.F p4.fn p4.fc, .int .i64 s3.hand, .slice p4.T 0 p4.tc, .int .i64 2] _ _ rfl (by kernel_rfl) (by kernel_rfl) (by kernel_rfl) (by kernel_rfl) ?_))
  have hbn := pastAlloc (o := .cells #[.int .i64 s3.zlog, .int .i64 s3.zpages, .int .i64 s3.zframes, .slice p4.A s3.disk.sectors.length p4.c, .int .i64 s3.disk.left, .bool s3.disk.down, .int .i64 s3.log.from_, .int .i64 s3.log.n, .int .i64 s3.log.end_, .int .i64 s3.log.safe, .string s3.log.tail, .slice p4.F p4.fn p4.fc, .int .i64 s3.hand, .slice p4.T 0 p4.tc, .int .i64 2] 37) hb7
  have B7 := Lib.hid (B6.out.trans (hbn.mono B6.out.size))
  have X7 := Lib.hid (heap_alloc_new w7 (.cells #[.int .i64 s3.zlog, .int .i64 s3.zpages, .int .i64 s3.zframes, .slice p4.A s3.disk.sectors.length p4.c, .int .i64 s3.disk.left, .bool s3.disk.down, .int .i64 s3.log.from_, .int .i64 s3.log.n, .int .i64 s3.log.end_, .int .i64 s3.log.safe, .string s3.log.tail, .slice p4.F p4.fn p4.fc, .int .i64 s3.hand, .slice p4.T 0 p4.tc, .int .i64 2] 37))
  have Y3 := Lib.hid (blkOld X3.out hbn)
  have Y4 := Lib.hid (blkOld X4.out hbn)
  have Y5 := Lib.hid (blkOld X5.out hbn)
  have Y6 := Lib.hid (blkOld X6.out hbn)
  have R2 := Lib.hid (S2.out.below hbn)
  obtain ⟨g7, hg7⟩ : ∃ g, g = w7.heap.size := ⟨_, rfl⟩
  obtain ⟨W7, hW7⟩ : ∃ W, W = w7.alloc (.cells #[.int .i64 s3.zlog, .int .i64 s3.zpages, .int .i64 s3.zframes, .slice p4.A s3.disk.sectors.length p4.c, .int .i64 s3.disk.left, .bool s3.disk.down, .int .i64 s3.log.from_, .int .i64 s3.log.n, .int .i64 s3.log.end_, .int .i64 s3.log.safe, .string s3.log.tail, .slice p4.F p4.fn p4.fc, .int .i64 s3.hand, .slice p4.T 0 p4.tc, .int .i64 2] 37) := ⟨_, rfl⟩
  rw [← hg7] at X7
  rw [← hW7] at B7 X7 Y3 Y4 Y5 Y6 R2
  rw [← hW7, ← hg7]
  clear hbn hb7 hg7 hW7 B6 X3 X4 X5 X6 S2 HAB S3
  have X3 := Y3
  clear Y3
  have X4 := Y4
  clear Y4
  have X5 := Y5
  clear Y5
  have X6 := Y6
  clear Y6
  have S2 := R2
  clear R2
  have V3 := blkOld X3.out (Below.refl _ W7).drew
  have V4 := blkOld X4.out (Below.refl _ W7).drew
  have V5 := blkOld X5.out (Below.refl _ W7).drew
  have V6 := blkOld X6.out (Below.refl _ W7).drew
  have R0 := S2.out.below (Below.refl _ W7).drew
  refine wp_region_held_drew (S := (fun u => u.heap[g3]? = some (.cells #[.int .i64 1, .int .i64 1, .int .i64 1, .bool false] 45 (0, 0)) ∧ u.heap[g4]? = some (.cells #[.int .i64 s2.zlog, .int .i64 s2.zpages, .int .i64 s2.zframes, .slice p2.A s2.disk.sectors.length p2.c, .int .i64 s2.disk.left, .bool s2.disk.down, .int .i64 s2.log.from_, .int .i64 s2.log.n, .int .i64 s2.log.end_, .int .i64 s2.log.safe, .string s2.log.tail, .slice p2.F p2.fn p2.fc, .int .i64 s2.hand, .slice p2.T s2.txns.length p2.tc, .int .i64 s2.next] 37 (0, 0)) ∧ u.heap[g5]? = some (.cells #[.int .i64 1, .int .i64 28, .int .i64 0, .bool false] 45 (0, 0)) ∧ u.heap[g6]? = some (.cells #[.int .i64 s3.zlog, .int .i64 s3.zpages, .int .i64 s3.zframes, .slice p3.A s3.disk.sectors.length p3.c, .int .i64 s3.disk.left, .bool s3.disk.down, .int .i64 s3.log.from_, .int .i64 s3.log.n, .int .i64 s3.log.end_, .int .i64 s3.log.safe, .string s3.log.tail, .slice p3.F p3.fn p3.fc, .int .i64 s3.hand, .slice p3.T 0 p3.tc, .int .i64 2] 37 (0, 0)))) (by kernel_rfl) ?_ (fun hHeld => ?_)
  · first | exact hSn | exact ⟨V3, V4, V5, V6⟩
  refine tkW 0 (some 45) (v := ?_) rfl ?_ ?_
  rotate_left
  · intro u hSu; have hS1 := blkCell hSu.1; have hS2 := blkCell hSu.2.2.1; have hS3 := blkCell hSu.2.2.2; clear hSu; go_simp; (try with_reducible rfl)
  try simp only [Act.put, List.setIfInBounds_toArray, List.set_cons_zero, List.set_cons_succ]
  refine tkW 1 (some 46) (v := ?_) rfl ?_ ?_
  rotate_left
  · intro u hSu; have hS1 := blkCell hSu.1; have hS2 := blkCell hSu.2.2.1; have hS3 := blkCell hSu.2.2.2; clear hSu; go_simp; (try with_reducible rfl)
  try simp only [Act.put, List.setIfInBounds_toArray, List.set_cons_zero, List.set_cons_succ]
  refine tkW 2 (some 47) (v := ?_) rfl ?_ ?_
  rotate_left
  · intro u hSu; have hS1 := blkCell hSu.1; have hS2 := blkCell hSu.2.2.1; have hS3 := blkCell hSu.2.2.2; clear hSu; go_simp; (try with_reducible rfl)
  try simp only [Act.put, List.setIfInBounds_toArray, List.set_cons_zero, List.set_cons_succ]
  refine tkW 3 (some 48) (v := ?_) rfl ?_ ?_
  rotate_left
  · intro u hSu; have hS1 := blkCell hSu.1; have hS2 := blkCell hSu.2.2.1; have hS3 := blkCell hSu.2.2.2; clear hSu; go_simp; (try with_reducible rfl)
  try simp only [Act.put, List.setIfInBounds_toArray, List.set_cons_zero, List.set_cons_succ]
  refine tkW 4 (some 49) (v := ?_) rfl ?_ ?_
  rotate_left
  · intro u hSu; have hS1 := blkCell hSu.1; have hS2 := blkCell hSu.2.2.1; have hS3 := blkCell hSu.2.2.2; clear hSu; go_simp; (try with_reducible rfl)
  try simp only [Act.put, List.setIfInBounds_toArray, List.set_cons_zero, List.set_cons_succ]
  refine tkW 5 (some 50) (v := ?_) rfl ?_ ?_
  rotate_left
  · intro u hSu; have hS1 := blkCell hSu.1; have hS2 := blkCell hSu.2.2.1; have hS3 := blkCell hSu.2.2.2; clear hSu; go_simp; (try with_reducible rfl)
  try simp only [Act.put, List.setIfInBounds_toArray, List.set_cons_zero, List.set_cons_succ]
  refine tkW 6 (some 51) (v := ?_) rfl ?_ ?_
  rotate_left
  · intro u hSu; have hS1 := blkCell hSu.1; have hS2 := blkCell hSu.2.2.1; have hS3 := blkCell hSu.2.2.2; clear hSu; go_simp; (try with_reducible rfl)
  try simp only [Act.put, List.setIfInBounds_toArray, List.set_cons_zero, List.set_cons_succ]
  refine tkW 7 (some 52) (v := ?_) rfl ?_ ?_
  rotate_left
  · intro u hSu; have hS1 := blkCell hSu.1; have hS2 := blkCell hSu.2.2.1; have hS3 := blkCell hSu.2.2.2; clear hSu; go_simp; (try with_reducible rfl)
  try simp only [Act.put, List.setIfInBounds_toArray, List.set_cons_zero, List.set_cons_succ]
  refine tkW 8 (some 53) (v := ?_) rfl ?_ ?_
  rotate_left
  · intro u hSu; have hS1 := blkCell hSu.1; have hS2 := blkCell hSu.2.2.1; have hS3 := blkCell hSu.2.2.2; clear hSu; go_simp; (try with_reducible rfl)
  try simp only [Act.put, List.setIfInBounds_toArray, List.set_cons_zero, List.set_cons_succ]
  refine tkW 9 (some 54) (v := ?_) rfl ?_ ?_
  rotate_left
  · intro u hSu; have hS1 := blkCell hSu.1; have hS2 := blkCell hSu.2.2.1; have hS3 := blkCell hSu.2.2.2; clear hSu; go_simp; (try with_reducible rfl)
  try simp only [Act.put, List.setIfInBounds_toArray, List.set_cons_zero, List.set_cons_succ]
  refine tkW 10 (some 55) (v := ?_) rfl ?_ ?_
  rotate_left
  · intro u hSu; have hS1 := blkCell hSu.1; have hS2 := blkCell hSu.2.2.1; have hS3 := blkCell hSu.2.2.2; clear hSu; go_simp; (try with_reducible rfl)
  try simp only [Act.put, List.setIfInBounds_toArray, List.set_cons_zero, List.set_cons_succ]
  refine tkW 11 (some 56) (v := ?_) rfl ?_ ?_
  rotate_left
  · intro u hSu; have hS1 := blkCell hSu.1; have hS2 := blkCell hSu.2.2.1; have hS3 := blkCell hSu.2.2.2; clear hSu; go_simp; (try with_reducible rfl)
  try simp only [Act.put, List.setIfInBounds_toArray, List.set_cons_zero, List.set_cons_succ]
  refine tkW 12 (some 57) (v := ?_) rfl ?_ ?_
  rotate_left
  · intro u hSu; have hS1 := blkCell hSu.1; have hS2 := blkCell hSu.2.2.1; have hS3 := blkCell hSu.2.2.2; clear hSu; go_simp; (try with_reducible rfl)
  try simp only [Act.put, List.setIfInBounds_toArray, List.set_cons_zero, List.set_cons_succ]
  refine tkW 13 (some 58) (v := ?_) rfl ?_ ?_
  rotate_left
  · intro u hSu; have hS1 := blkCell hSu.1; have hS2 := blkCell hSu.2.2.1; have hS3 := blkCell hSu.2.2.2; clear hSu; go_simp; (try with_reducible rfl)
  try simp only [Act.put, List.setIfInBounds_toArray, List.set_cons_zero, List.set_cons_succ]
  refine tkW 14 (some 59) (v := ?_) rfl ?_ ?_
  rotate_left
  · intro u hSu; have hS1 := blkCell hSu.1; have hS2 := blkCell hSu.2.2.1; have hS3 := blkCell hSu.2.2.2; clear hSu; go_simp; (try with_reducible rfl)
  try simp only [Act.put, List.setIfInBounds_toArray, List.set_cons_zero, List.set_cons_succ]
  refine tkW 15 (some 60) (v := ?_) rfl ?_ ?_
  rotate_left
  · intro u hSu; have hS1 := blkCell hSu.1; have hS2 := blkCell hSu.2.2.1; have hS3 := blkCell hSu.2.2.2; clear hSu; go_simp; (try with_reducible rfl)
  try simp only [Act.put, List.setIfInBounds_toArray, List.set_cons_zero, List.set_cons_succ]
  refine tkW 16 (some 61) (v := ?_) rfl ?_ ?_
  rotate_left
  · intro u hSu; have hS1 := blkCell hSu.1; have hS2 := blkCell hSu.2.2.1; have hS3 := blkCell hSu.2.2.2; clear hSu; go_simp; (try with_reducible rfl)
  try simp only [Act.put, List.setIfInBounds_toArray, List.set_cons_zero, List.set_cons_succ]
  refine tkW 17 (some 62) (v := ?_) rfl ?_ ?_
  rotate_left
  · intro u hSu; have hS1 := blkCell hSu.1; have hS2 := blkCell hSu.2.2.1; have hS3 := blkCell hSu.2.2.2; clear hSu; go_simp; (try with_reducible rfl)
  try simp only [Act.put, List.setIfInBounds_toArray, List.set_cons_zero, List.set_cons_succ]
  refine tkW 18 (some 63) (v := ?_) rfl ?_ ?_
  rotate_left
  · intro u hSu; have hS1 := blkCell hSu.1; have hS2 := blkCell hSu.2.2.1; have hS3 := blkCell hSu.2.2.2; clear hSu; go_simp; (try with_reducible rfl)
  try simp only [Act.put, List.setIfInBounds_toArray, List.set_cons_zero, List.set_cons_succ]
  refine tkW 19 (some 64) (v := ?_) rfl ?_ ?_
  rotate_left
  · intro u hSu; have hS1 := blkCell hSu.1; have hS2 := blkCell hSu.2.2.1; have hS3 := blkCell hSu.2.2.2; clear hSu; go_simp; (try with_reducible rfl)
  try simp only [Act.put, List.setIfInBounds_toArray, List.set_cons_zero, List.set_cons_succ]
  refine tkW 20 (some 65) (v := ?_) rfl ?_ ?_
  rotate_left
  · intro u hSu; have hS1 := blkCell hSu.1; have hS2 := blkCell hSu.2.2.1; have hS3 := blkCell hSu.2.2.2; clear hSu; go_simp; (try with_reducible rfl)
  try simp only [Act.put, List.setIfInBounds_toArray, List.set_cons_zero, List.set_cons_succ]
  refine tkW 21 (some 66) (v := ?_) rfl ?_ ?_
  rotate_left
  · intro u hSu; have hS1 := blkCell hSu.1; have hS2 := blkCell hSu.2.2.1; have hS3 := blkCell hSu.2.2.2; clear hSu; go_simp; (try with_reducible rfl)
  try simp only [Act.put, List.setIfInBounds_toArray, List.set_cons_zero, List.set_cons_succ]
  refine tkW 22 (some 67) (v := ?_) rfl ?_ ?_
  rotate_left
  · intro u hSu; have hS1 := blkCell hSu.1; have hS2 := blkCell hSu.2.2.1; have hS3 := blkCell hSu.2.2.2; clear hSu; go_simp; (try with_reducible rfl)
  try simp only [Act.put, List.setIfInBounds_toArray, List.set_cons_zero, List.set_cons_succ]
  refine tkW 23 (some 68) (v := ?_) rfl ?_ ?_
  rotate_left
  · intro u hSu; have hS1 := blkCell hSu.1; have hS2 := blkCell hSu.2.2.1; have hS3 := blkCell hSu.2.2.2; clear hSu; go_simp; (try with_reducible rfl)
  try simp only [Act.put, List.setIfInBounds_toArray, List.set_cons_zero, List.set_cons_succ]
  refine tkW 24 (some 69) (v := ?_) rfl ?_ ?_
  rotate_left
  · intro u hSu; have hS1 := blkCell hSu.1; have hS2 := blkCell hSu.2.2.1; have hS3 := blkCell hSu.2.2.2; clear hSu; go_simp; (try with_reducible rfl)
  try simp only [Act.put, List.setIfInBounds_toArray, List.set_cons_zero, List.set_cons_succ]
  refine tkW 25 (some 70) (v := ?_) rfl ?_ ?_
  rotate_left
  · intro u hSu; have hS1 := blkCell hSu.1; have hS2 := blkCell hSu.2.2.1; have hS3 := blkCell hSu.2.2.2; clear hSu; go_simp; (try with_reducible rfl)
  try simp only [Act.put, List.setIfInBounds_toArray, List.set_cons_zero, List.set_cons_succ]
  refine tkW 26 (some 71) (v := ?_) rfl ?_ ?_
  rotate_left
  · intro u hSu; have hS1 := blkCell hSu.1; have hS2 := blkCell hSu.2.2.1; have hS3 := blkCell hSu.2.2.2; clear hSu; go_simp; (try with_reducible rfl)
  try simp only [Act.put, List.setIfInBounds_toArray, List.set_cons_zero, List.set_cons_succ]
  refine tkW 27 (some 72) (v := ?_) rfl ?_ ?_
  rotate_left
  · intro u hSu; have hS1 := blkCell hSu.1; have hS2 := blkCell hSu.2.2.1; have hS3 := blkCell hSu.2.2.2; clear hSu; go_simp; (try with_reducible rfl)
  try simp only [Act.put, List.setIfInBounds_toArray, List.set_cons_zero, List.set_cons_succ]
  refine tkW 28 (some 73) (v := ?_) rfl ?_ ?_
  rotate_left
  · intro u hSu; have hS1 := blkCell hSu.1; have hS2 := blkCell hSu.2.2.1; have hS3 := blkCell hSu.2.2.2; clear hSu; go_simp; (try with_reducible rfl)
  try simp only [Act.put, List.setIfInBounds_toArray, List.set_cons_zero, List.set_cons_succ]
  refine tkW 29 (some 74) (v := ?_) rfl ?_ ?_
  rotate_left
  · intro u hSu; have hS1 := blkCell hSu.1; have hS2 := blkCell hSu.2.2.1; have hS3 := blkCell hSu.2.2.2; clear hSu; go_simp; (try with_reducible rfl)
  try simp only [Act.put, List.setIfInBounds_toArray, List.set_cons_zero, List.set_cons_succ]
  refine tkW 30 (some 75) (v := ?_) rfl ?_ ?_
  rotate_left
  · intro u hSu; have hS1 := blkCell hSu.1; have hS2 := blkCell hSu.2.2.1; have hS3 := blkCell hSu.2.2.2; clear hSu; go_simp; (try with_reducible rfl)
  try simp only [Act.put, List.setIfInBounds_toArray, List.set_cons_zero, List.set_cons_succ]
  refine tkV 31 (some 76) (v := .agg #[.int .i64 s2.zlog, .int .i64 s2.zpages, .int .i64 s2.zframes, .slice p2.A s2.disk.sectors.length p2.c, .int .i64 s2.disk.left, .bool s2.disk.down, .int .i64 s2.log.from_, .int .i64 s2.log.n, .int .i64 s2.log.end_, .int .i64 s2.log.safe, .string s2.log.tail, .slice p2.F p2.fn p2.fc, .int .i64 s2.hand, .slice p2.T s2.txns.length p2.tc, .int .i64 s2.next]) rfl (yieldsIf_load_mid (by rfl) 37 (.tmp 6) rfl g4 0 (by rfl) #[.int .i64 s2.zlog, .int .i64 s2.zpages, .int .i64 s2.zframes, .slice p2.A s2.disk.sectors.length p2.c, .int .i64 s2.disk.left, .bool s2.disk.down, .int .i64 s2.log.from_, .int .i64 s2.log.n, .int .i64 s2.log.end_, .int .i64 s2.log.safe, .string s2.log.tail, .slice p2.F p2.fn p2.fc, .int .i64 s2.hand, .slice p2.T s2.txns.length p2.tc, .int .i64 s2.next].toList _ (fun u hu => (by intro j v hj; rw [Nat.zero_add, blkCell hu.2.1]; simpa using hj)) Tryz.underlying37 (by kernel_rfl) (by kernel_rfl)) ?_
  try simp only [Act.put, List.setIfInBounds_toArray, List.set_cons_zero, List.set_cons_succ]
  refine rdH 32 (some 77) rfl (fun K hK => ?_)
  go_simp
  refine (HMA.out p2 _ R0).mono ?_; rintro e w8 ⟨rfl, hb8⟩; have hSn := And.intro (blkOld V3 hb8) (And.intro (blkOld V4 hb8) (And.intro (blkOld V5 hb8) (blkOld V6 hb8))); try go_simp
  refine hK.out _ _ ?_ (fun hHeld => ?_)
  · first | exact hSn | exact ⟨V3, V4, V5, V6⟩
  clear hK K
  try simp only [Act.put, List.setIfInBounds_toArray, List.set_cons_zero, List.set_cons_succ]
  refine tkW 33 (some 78) (v := ?_) rfl ?_ ?_
  rotate_left
  · intro u hSu; have hS1 := blkCell hSu.1; have hS2 := blkCell hSu.2.2.1; have hS3 := blkCell hSu.2.2.2; clear hSu; go_simp; (try with_reducible rfl)
  try simp only [Act.put, List.setIfInBounds_toArray, List.set_cons_zero, List.set_cons_succ]
  refine tkW 34 (some 79) (v := ?_) rfl ?_ ?_
  rotate_left
  · intro u hSu; have hS1 := blkCell hSu.1; have hS2 := blkCell hSu.2.2.1; have hS3 := blkCell hSu.2.2.2; clear hSu; go_simp; (try with_reducible rfl)
  try simp only [Act.put, List.setIfInBounds_toArray, List.set_cons_zero, List.set_cons_succ]
  refine tkW 35 (some 80) (v := ?_) rfl ?_ ?_
  rotate_left
  · intro u hSu; have hS1 := blkCell hSu.1; have hS2 := blkCell hSu.2.2.1; have hS3 := blkCell hSu.2.2.2; clear hSu; go_simp; (try with_reducible rfl)
  try simp only [Act.put, List.setIfInBounds_toArray, List.set_cons_zero, List.set_cons_succ]
  refine tkW 36 (some 81) (v := ?_) rfl ?_ ?_
  rotate_left
  · intro u hSu; have hS1 := blkCell hSu.1; have hS2 := blkCell hSu.2.2.1; have hS3 := blkCell hSu.2.2.2; clear hSu; go_simp; (try with_reducible rfl)
  try simp only [Act.put, List.setIfInBounds_toArray, List.set_cons_zero, List.set_cons_succ]
  refine tkW 37 (some 82) (v := ?_) rfl ?_ ?_
  rotate_left
  · intro u hSu; have hS1 := blkCell hSu.1; have hS2 := blkCell hSu.2.2.1; have hS3 := blkCell hSu.2.2.2; clear hSu; go_simp; (try with_reducible rfl)
  try simp only [Act.put, List.setIfInBounds_toArray, List.set_cons_zero, List.set_cons_succ]
  refine tkW 38 (some 83) (v := ?_) rfl ?_ ?_
  rotate_left
  · intro u hSu; have hS1 := blkCell hSu.1; have hS2 := blkCell hSu.2.2.1; have hS3 := blkCell hSu.2.2.2; clear hSu; go_simp; (try with_reducible rfl)
  try simp only [Act.put, List.setIfInBounds_toArray, List.set_cons_zero, List.set_cons_succ]
  refine tkW 39 (some 84) (v := ?_) rfl ?_ ?_
  rotate_left
  · intro u hSu; have hS1 := blkCell hSu.1; have hS2 := blkCell hSu.2.2.1; have hS3 := blkCell hSu.2.2.2; clear hSu; go_simp; (try with_reducible rfl)
  try simp only [Act.put, List.setIfInBounds_toArray, List.set_cons_zero, List.set_cons_succ]
  refine tkW 40 (some 85) (v := ?_) rfl ?_ ?_
  rotate_left
  · intro u hSu; have hS1 := blkCell hSu.1; have hS2 := blkCell hSu.2.2.1; have hS3 := blkCell hSu.2.2.2; clear hSu; go_simp; (try with_reducible rfl)
  try simp only [Act.put, List.setIfInBounds_toArray, List.set_cons_zero, List.set_cons_succ]
  refine tkW 41 (some 86) (v := ?_) rfl ?_ ?_
  rotate_left
  · intro u hSu; have hS1 := blkCell hSu.1; have hS2 := blkCell hSu.2.2.1; have hS3 := blkCell hSu.2.2.2; clear hSu; go_simp; (try with_reducible rfl)
  try simp only [Act.put, List.setIfInBounds_toArray, List.set_cons_zero, List.set_cons_succ]
  refine tkW 42 (some 87) (v := ?_) rfl ?_ ?_
  rotate_left
  · intro u hSu; have hS1 := blkCell hSu.1; have hS2 := blkCell hSu.2.2.1; have hS3 := blkCell hSu.2.2.2; clear hSu; go_simp; (try with_reducible rfl)
  try simp only [Act.put, List.setIfInBounds_toArray, List.set_cons_zero, List.set_cons_succ]
  refine tkW 43 (some 88) (v := ?_) rfl ?_ ?_
  rotate_left
  · intro u hSu; have hS1 := blkCell hSu.1; have hS2 := blkCell hSu.2.2.1; have hS3 := blkCell hSu.2.2.2; clear hSu; go_simp; (try with_reducible rfl)
  try simp only [Act.put, List.setIfInBounds_toArray, List.set_cons_zero, List.set_cons_succ]
  refine tkW 44 (some 89) (v := ?_) rfl ?_ ?_
  rotate_left
  · intro u hSu; have hS1 := blkCell hSu.1; have hS2 := blkCell hSu.2.2.1; have hS3 := blkCell hSu.2.2.2; clear hSu; go_simp; (try with_reducible rfl)
  try simp only [Act.put, List.setIfInBounds_toArray, List.set_cons_zero, List.set_cons_succ]
  refine tkW 45 (some 90) (v := ?_) rfl ?_ ?_
  rotate_left
  · intro u hSu; have hS1 := blkCell hSu.1; have hS2 := blkCell hSu.2.2.1; have hS3 := blkCell hSu.2.2.2; clear hSu; go_simp; (try with_reducible rfl)
  try simp only [Act.put, List.setIfInBounds_toArray, List.set_cons_zero, List.set_cons_succ]
  refine tkW 46 (some 91) (v := ?_) rfl ?_ ?_
  rotate_left
  · intro u hSu; have hS1 := blkCell hSu.1; have hS2 := blkCell hSu.2.2.1; have hS3 := blkCell hSu.2.2.2; clear hSu; go_simp; (try with_reducible rfl)
  try simp only [Act.put, List.setIfInBounds_toArray, List.set_cons_zero, List.set_cons_succ]
  refine tkW 47 (some 92) (v := ?_) rfl ?_ ?_
  rotate_left
  · intro u hSu; have hS1 := blkCell hSu.1; have hS2 := blkCell hSu.2.2.1; have hS3 := blkCell hSu.2.2.2; clear hSu; go_simp; (try with_reducible rfl)
  try simp only [Act.put, List.setIfInBounds_toArray, List.set_cons_zero, List.set_cons_succ]
  refine tkW 48 (some 93) (v := ?_) rfl ?_ ?_
  rotate_left
  · intro u hSu; have hS1 := blkCell hSu.1; have hS2 := blkCell hSu.2.2.1; have hS3 := blkCell hSu.2.2.2; clear hSu; go_simp; (try with_reducible rfl)
  try simp only [Act.put, List.setIfInBounds_toArray, List.set_cons_zero, List.set_cons_succ]
  refine tkW 49 (some 94) (v := ?_) rfl ?_ ?_
  rotate_left
  · intro u hSu; have hS1 := blkCell hSu.1; have hS2 := blkCell hSu.2.2.1; have hS3 := blkCell hSu.2.2.2; clear hSu; go_simp; (try with_reducible rfl)
  try simp only [Act.put, List.setIfInBounds_toArray, List.set_cons_zero, List.set_cons_succ]
  refine tkW 50 (some 95) (v := ?_) rfl ?_ ?_
  rotate_left
  · intro u hSu; have hS1 := blkCell hSu.1; have hS2 := blkCell hSu.2.2.1; have hS3 := blkCell hSu.2.2.2; clear hSu; go_simp; (try with_reducible rfl)
  try simp only [Act.put, List.setIfInBounds_toArray, List.set_cons_zero, List.set_cons_succ]
  refine tkW 51 (some 96) (v := ?_) rfl ?_ ?_
  rotate_left
  · intro u hSu; have hS1 := blkCell hSu.1; have hS2 := blkCell hSu.2.2.1; have hS3 := blkCell hSu.2.2.2; clear hSu; go_simp; (try with_reducible rfl)
  try simp only [Act.put, List.setIfInBounds_toArray, List.set_cons_zero, List.set_cons_succ]
  refine tkW 52 (some 97) (v := ?_) rfl ?_ ?_
  rotate_left
  · intro u hSu; have hS1 := blkCell hSu.1; have hS2 := blkCell hSu.2.2.1; have hS3 := blkCell hSu.2.2.2; clear hSu; go_simp; (try with_reducible rfl)
  try simp only [Act.put, List.setIfInBounds_toArray, List.set_cons_zero, List.set_cons_succ]
  refine tkW 53 (some 98) (v := ?_) rfl ?_ ?_
  rotate_left
  · intro u hSu; have hS1 := blkCell hSu.1; have hS2 := blkCell hSu.2.2.1; have hS3 := blkCell hSu.2.2.2; clear hSu; go_simp; (try with_reducible rfl)
  try simp only [Act.put, List.setIfInBounds_toArray, List.set_cons_zero, List.set_cons_succ]
  refine tkW 54 (some 99) (v := ?_) rfl ?_ ?_
  rotate_left
  · intro u hSu; have hS1 := blkCell hSu.1; have hS2 := blkCell hSu.2.2.1; have hS3 := blkCell hSu.2.2.2; clear hSu; go_simp; (try with_reducible rfl)
  try simp only [Act.put, List.setIfInBounds_toArray, List.set_cons_zero, List.set_cons_succ]
  refine tkW 55 (some 100) (v := ?_) rfl ?_ ?_
  rotate_left
  · intro u hSu; have hS1 := blkCell hSu.1; have hS2 := blkCell hSu.2.2.1; have hS3 := blkCell hSu.2.2.2; clear hSu; go_simp; (try with_reducible rfl)
  try simp only [Act.put, List.setIfInBounds_toArray, List.set_cons_zero, List.set_cons_succ]
  refine tkW 56 (some 101) (v := ?_) rfl ?_ ?_
  rotate_left
  · intro u hSu; have hS1 := blkCell hSu.1; have hS2 := blkCell hSu.2.2.1; have hS3 := blkCell hSu.2.2.2; clear hSu; go_simp; (try with_reducible rfl)
  try simp only [Act.put, List.setIfInBounds_toArray, List.set_cons_zero, List.set_cons_succ]
  refine tkW 57 (some 102) (v := ?_) rfl ?_ ?_
  rotate_left
  · intro u hSu; have hS1 := blkCell hSu.1; have hS2 := blkCell hSu.2.2.1; have hS3 := blkCell hSu.2.2.2; clear hSu; go_simp; (try with_reducible rfl)
  try simp only [Act.put, List.setIfInBounds_toArray, List.set_cons_zero, List.set_cons_succ]
  refine tkW 58 (some 103) (v := ?_) rfl ?_ ?_
  rotate_left
  · intro u hSu; have hS1 := blkCell hSu.1; have hS2 := blkCell hSu.2.2.1; have hS3 := blkCell hSu.2.2.2; clear hSu; go_simp; (try with_reducible rfl)
  try simp only [Act.put, List.setIfInBounds_toArray, List.set_cons_zero, List.set_cons_succ]
  refine tkW 59 (some 0) (v := ?_) rfl ?_ ?_
  rotate_left
  · intro u hSu; have hS1 := blkCell hSu.1; have hS2 := blkCell hSu.2.2.1; have hS3 := blkCell hSu.2.2.2; clear hSu; go_simp; (try with_reducible rfl)
  try simp only [Act.put, List.setIfInBounds_toArray, List.set_cons_zero]
  refine wpAnyH_done (by kernel_rfl) ?_ _
  clear hHeld hSn
  go_wp2_with fail
  go_ret
  exact ⟨rfl, joinB B7.out (((Below.refl _ W7).drew).trans hb8)⟩
end Go.Proofs.YthfglhafphfhiaaGreat
/- The walk over package log: Open. -/
namespace Go.Proofs.YthfglhafphfhiaaGreat
open Go.RowKit
end Go.Proofs.YthfglhafphfhiaaGreat
/- Stores of deeds: bounds; deeds in a slice. -/
namespace Tx
open Rc Lg
theorem do_len (s : St) (d : Deed) : (doS s d).1.txns.length ≤ s.txns.length + 2 := by
  have o := fun n b r => ownS_len s n b r
  unfold doS
  split
  · unfold beginS
    split
    · exact Nat.le_trans (putS_len _ _) (by omega)
    · exact Nat.le_add_right _ 2
  split
  · exact Nat.le_trans (o _ _ _) (by omega)
  split
  · have h1 := o d.txn true (bare 5 0 0 0)
    unfold commitS
    split
    · have h2 : (forceS (ownS s d.txn true (bare 5 0 0 0)).1).1.txns.length ≤ s.txns.length + 1 := h1
      split
      · unfold closeS
        split
        · exact Nat.le_trans (putS_len _ _) (by omega)
        · exact Nat.le_trans (noteT_len _ _) (by omega)
      · exact Nat.le_trans h2 (by omega)
    · exact Nat.le_trans h1 (by omega)
  split
  · exact Nat.le_trans (o _ _ _) (by omega)
  split
  · exact Nat.le_trans (o _ _ _) (by omega)
  split
  · exact Nat.le_add_right _ 2
  · exact Nat.le_add_right _ 2
theorem ownS_next (s : St) (n : Int) (b : Bool) (r : Rec) : (ownS s n b r).1.next = s.next := by
  unfold ownS
  split
  · rfl
  · split
    · rfl
    · exact putS_next _ _
theorem do_next (s : St) (d : Deed) : s.next ≤ (doS s d).1.next ∧ (doS s d).1.next ≤ s.next + 1 := by
  have key : ∀ x : Int, x = s.next → s.next ≤ x ∧ x ≤ s.next + 1 := fun x h => by omega
  unfold doS
  split
  · unfold beginS
    split
    · exact ⟨by show s.next ≤ s.next + 1; omega, by show s.next + 1 ≤ s.next + 1; omega⟩
    · exact key _ rfl
  split
  · exact key _ (ownS_next _ _ _ _)
  split
  · refine key _ ?_
    unfold commitS
    split
    · have h2 : (forceS (ownS s d.txn true (bare 5 0 0 0)).1).1.next = s.next := ownS_next _ _ _ _
      split
      · unfold closeS
        split
        · exact (putS_next _ _).trans h2
        · exact h2
      · exact h2
    · exact ownS_next _ _ _ _
  split
  · exact key _ (ownS_next _ _ _ _)
  split
  · exact key _ (ownS_next _ _ _ _)
  split
  · exact key _ rfl
  · exact key _ rfl
end Tx
namespace Go.Proofs.YthfglhafphfhiaaGreat
open Go.RowKit
def deC (d : Tx.Deed) : List Value := [.int .i64 d.kind, .int .i64 d.txn, .int .i64 d.n]
theorem deC_len (d : Tx.Deed) : (deC d).length = 3 := rfl
end Go.Proofs.YthfglhafphfhiaaGreat
/- Arguments that are rows of deeds: opened. -/
namespace Go.Proofs.YthfglhafphfhiaaGreat
open Go.ChangeShapes Go.WideShapes Go.ChangeAt Go.RowKit
theorem cellsDe : Tryz.prog.cellsOf 43 = 3 := by kernel_rfl
theorem bytesDe : 1 ≤ Tryz.prog.bytesOf 43 := by decide +kernel
theorem deFields : ∃ f0 f1 f2 : Field, Tryz.prog.underlying 43 = some (.struct #[f0, f1, f2]) ∧ (f0.offset = 0 ∧ f1.offset = 1 ∧ f2.offset = 2) ∧ f0.type = 3 ∧ f1.type = 3 ∧ f2.type = 3 := ⟨_, _, _, Tryz.underlying43, ⟨rfl, rfl, rfl⟩, rfl, rfl, rfl⟩
instance : Inhabited Tx.Deed := ⟨⟨0, 0, 0⟩⟩
section
variable {H : Type} {enc : TypeId × Value → H} {w : World} {base : Nat} {spare : Nat → Bool} {held : Bool}
theorem trod_de (fuel : Nat) (cs : List Value) (x : DataW H × List MemPlace) (h : DataW.trod enc Tryz.prog w base spare held fuel 43 cs = some x) (_ : Light 43 x.1) : ∃ o : Tx.Deed, cs = deC o ∧ o.n ≤ 9223372036854775807 := by
  obtain ⟨f0, f1, f2, hu, ⟨o0, o1, o2⟩, t0, t1, t2⟩ := deFields
  obtain ⟨n, hl, hf⟩ := trod_field hu h
  rw [cellsDe] at hl
  obtain ⟨c0, c1, c2, rfl⟩ := list3' hl
  obtain ⟨y0, h0, gh0⟩ := hf 0 f0 rfl
  obtain ⟨y1, h1, gh1⟩ := hf 1 f1 rfl
  obtain ⟨y2, h2, gh2⟩ := hf 2 f2 rfl
  rw [o0, t0, cellsI] at h0
  rw [o1, t1, cellsI] at h1
  rw [o2, t2, cellsI] at h2
  obtain ⟨i0, e0, _, _⟩ := DataW.trod_int Tryz.underlying3 h0
  obtain ⟨i1, e1, _, _⟩ := DataW.trod_int Tryz.underlying3 h1
  obtain ⟨i2, e2, _, w2⟩ := DataW.trod_int Tryz.underlying3 h2
  simp at e0 e1 e2
  exact ⟨⟨i0, i1, i2⟩, by rw [e0, e1, e2]; rfl, (bnd w2).2⟩
set_option maxRecDepth 100000 in
/-- A row of deeds, opened. -/
theorem open_deeds {r : Reach} {b0 : Nat} {v : Value} {d : DataW H} {ps : List MemPlace} (hval : Value.okWide Tryz.prog w r b0 22 v) (hd : DataW.Trod enc Tryz.prog w base spare held 22 v d ps) (hL : Light 22 d) :
    ∃ (A : Option Addr) (c : Nat) (l : List Tx.Deed), v = .slice A l.length c ∧ Reads w A c l.length (l.flatMap deC) ∧ (∀ d ∈ l, d.n ≤ 9223372036854775807) ∧ l.length ≤ 140737488355328 := by
  obtain ⟨a, len, cap, rfl⟩ := okWide_slice Tryz.underlying22 hval
  obtain ⟨fuel, hf⟩ := hd
  obtain ⟨A, c, l, h1, h2, h3, h4⟩ := trod_row (en := deC) (k := 3) deC_len (by omega) Tryz.underlying22 cellsDe bytesDe (Q := fun d => d.n ≤ 9223372036854775807) trod_de hL hf
  exact ⟨A, c, l, by simpa [Value.cells] using h1, h2, h3, h4⟩
end
end Go.Proofs.YthfglhafphfhiaaGreat
/- Append, Clone, Delete, Note of transactions, at any length. -/
namespace Go.Proofs.YthfglhafphfhiaaGreat
open Go.RowKit
theorem wp_appRw {P : Program} {o : Oper} {a : Act} {K : Act → World → Prop} {Q : Exit → Act → World → Prop} (w : World) (s x : Operand) (t e : TypeId) (i0 : TypeInfo) (z : Value) (size bytes : Nat)
    (ht : P.underlying t = some (.slice e)) (hi : P.info? e = some i0) (hz : i0.zero = some z) (hsz : i0.size = size) (hby : i0.bytes = bytes) (hzc : z.cells.size = size) (hpos : 0 < size)
    (ho : o.op = .call { callee := .builtin .append, args := #[s, x], argTypes := #[t, t] })
    (B : Nat) (v : Value) (n : Nat) (xs : List Value) (hs : a.eval s = v) (hown : w.ownsRow B e size v n xs) (A : Option Addr) (m c : Nat) (ys : List Value) (hx : a.eval x = .slice A m c) (hy : Reads w A c m ys) (hyl : ys.length = m * size) (h1 : ∀ u ∈ ys, u.oneCell' = true)
    (hlen : n + m ≤ 4398046511104) (hbs : bytes ≤ 32) (hbase : B ≤ w.heap.size)
    (h : ∀ v' w', w'.ownsRow B e size v' (n + m) (xs ++ ys) → w.grownBy w' v.ownBlock → Below B w w' → K (a.put o.dst v') w') : o.wp P a w K Q := by
  rcases A with _ | ad
  · have hn : m = 0 := by
      rcases Nat.eq_zero_or_pos m with h0 | h0
      · exact h0
      · obtain ⟨b, off, e, _⟩ := hy h0
        cases e
    subst hn
    have hys : ys = [] := List.eq_nil_of_length_eq_zero (by simpa using hyl)
    subst hys
    have hrun := run_app_nil (ty := o.type) ht hi hown c
    unfold Oper.wp execOp
    simp only [ho, resolve, invoke, builtin, Sem.run_bind, Sem.run_pure, Result.andThen_ok, List.map_toArray, List.map_cons, List.map_nil, hs, hx, hrun]
    exact h v w (by simpa using hown) (World.grownBy.refl w _) (Below.refl _ _)
  · refine wp_append_own w s x _ ho B e i0 z size bytes ht hi hz hsz hby hzc hpos v n xs hs hown ad m c ys hx hyl ?_ h1 (by simp only [maxLen]; omega) ?_ hbase ?_
    · intro j u hu
      have hpos : 0 < m := by
        have := (List.getElem?_eq_some_iff.1 hu).1
        rcases Nat.eq_zero_or_pos m with h0 | h0
        · subst h0; rw [Nat.zero_mul] at hyl; omega
        · exact h0
      obtain ⟨b, off, e, _, _, hE⟩ := hy hpos
      injection e with e
      subst e
      rw [show (⟨b, off, none⟩ : Addr).add j = ⟨b, off + j, none⟩ from Addr.add_mid b off j]
      exact hE j u hu
    · have : (n + m) * bytes ≤ 4398046511104 * 32 := Nat.mul_le_mul hlen hbs
      omega
    · intro v' w' h1 h2 _
      exact h v' w' h1 h2 ((Below.refl _ _).grown h2 hbase (fun k hk => (hown.lt k hk).1))
theorem wp_pushW {P : Program} {o : Oper} {a : Act} {K : Act → World → Prop} {Q : Exit → Act → World → Prop} (w : World) (s x : Operand) (t e : TypeId) {z : Value} {size bytes : Nat}
    (ht : P.underlying t = some (.slice e)) (hi : (P.info? e).map (fun i => (i.zero, i.size, i.bytes)) = some (some z, size, bytes)) (hzc : z.cells.size = size) (hpos : 0 < size) (hby : bytes ≤ 32)
    (ho : o.op = .call { callee := .builtin .append, args := #[s, x], argTypes := #[t, t] })
    (B : Nat) (v : Value) (n : Nat) (xs : List Value) (hs : a.eval s = v) (hown : w.ownsRow B e size v n xs) (g : Nat) (cs : List Value) (T : TypeId) (hx : a.eval x = .slice (some ⟨g, 0, none⟩) 1 1) (hg : w.heap[g]? = some (.cells cs.toArray T (0, 0)))
    (hcl : cs.length = size) (h1 : ∀ u ∈ cs, u.oneCell' = true) (hlen : n + 1 ≤ 4398046511104) (hbase : B ≤ w.heap.size)
    (h : ∀ v' w', w'.ownsRow B e size v' (n + 1) (xs ++ cs) → w.grownBy w' v.ownBlock → Below B w w' → K (a.put o.dst v') w') : o.wp P a w K Q := by
  obtain ⟨i0, hi, hz0, hz1, hz2⟩ := info_parts hi
  exact wp_appRw w s x t e i0 _ size bytes ht hi hz0 hz1 hz2 hzc hpos ho B v n xs hs hown _ 1 1 cs hx (reads_blk (cs := cs) hg (Nat.le_refl _)) (by omega) h1 hlen hby hbase h
theorem wpList_pushW {P : Program} {ops : Array Oper} {rest : List Oper} {o : Oper} {a : Act} {Q : Exit → Act → World → Prop} {w : World} (hw : Region.wanted o (yielded ops a.tmps) = true) (s x : Operand) (t e : TypeId) {z : Value} {size bytes : Nat}
    (ht : P.underlying t = some (.slice e)) (hi : (P.info? e).map (fun i => (i.zero, i.size, i.bytes)) = some (some z, size, bytes)) (hzc : z.cells.size = size) (hpos : 0 < size) (hby : bytes ≤ 32)
    (ho : o.op = .call { callee := .builtin .append, args := #[s, x], argTypes := #[t, t] })
    (B : Nat) (v : Value) (n : Nat) (xs : List Value) (hs : a.eval s = v) (hown : w.ownsRow B e size v n xs) (g : Nat) (cs : List Value) (T : TypeId) (hx : a.eval x = .slice (some ⟨g, 0, none⟩) 1 1) (hg : w.heap[g]? = some (.cells cs.toArray T (0, 0)))
    (hcl : cs.length = size) (h1 : ∀ u ∈ cs, u.oneCell' = true) (hlen : n + 1 ≤ 4398046511104) (hbase : B ≤ w.heap.size)
    (h : ∀ v' w', w'.ownsRow B e size v' (n + 1) (xs ++ cs) → w.grownBy w' v.ownBlock → Below B w w' → wpList P ops Q rest (a.put o.dst v') w') : wpList P ops Q (o :: rest) a w :=
  listWants hw fun _ hK => wp_pushW w s x t e ht hi hzc hpos hby ho B v n xs hs hown g cs T hx hg hcl h1 hlen hbase (fun v' w' a b c => hK _ _ (h v' w' a b c))
end Go.Proofs.YthfglhafphfhiaaGreat
