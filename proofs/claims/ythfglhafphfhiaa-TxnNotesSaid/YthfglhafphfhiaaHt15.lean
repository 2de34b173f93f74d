/- The walk over the statements of transactions: the page's example. -/
import Derived.Test.YthfglhafphfhiaaHt14
import Derived.Test.YthfglhafphfhiaaHt10
import Derived.BigRegion
import Derived.Maps.AppendAt
namespace Go.Proofs.Ythfglhafphfhiaa
open Go.RowKit
set_option maxRecDepth 100000 in
set_option maxHeartbeats 8000000 in
theorem tawake_any (w : World) : Calls Try.prog 6 #[] w fun e w' => e = .returned (.bool true) ∧ Below w.heap.size w w' := by
  obtain ⟨s1, s2, s3, e1, f1, e2, f2, e3, t3, x3, e4, l1, l2, g1, g2, g3⟩ := Tx.awake_txn
  have b0 : Tx.LogB (Tx.fresh 9) := Tx.logB_of (Lg.LInv.newN 9) (by omega)
  have gb : ∀ s, Tx.Good 9 s → Tx.LogB s ∧ s.disk.left = -1 := fun s hg => by
    obtain ⟨r1, r2, h1, _, h3, _⟩ := hg
    exact ⟨Tx.logB_of h1 (by omega), h3⟩
  have b1 := gb s1 g1
  have b2 := gb s2 g2
  have b3 := gb s3 g3
  have HFR := Lib.hid (fun W => show Calls Try.prog 11 #[.int .i64 9] W (FreshOut (Tx.fresh 9) W) from tfresh_any 9 (by omega) W)
  have HBE := Lib.hid (fun p W (h : StoreR W (Tx.fresh 9) p) => show Calls Try.prog 17 #[storeV (Tx.fresh 9) p] W (BegOut (s1, 1, 0) p W) from by
    have h9 := tbegin_any (Tx.fresh 9) p b0 (by show 0 ≤ _; omega) (by show (0 : Int) ≤ 1; decide) (by show (1 : Int) ≤ _; decide) W h
    rw [e1] at h9
    exact h9)
  have HF1 := Lib.hid (fun p W (h : StoreR W s1 p) => show Calls Try.prog 18 #[storeV s1 p, .int .i64 1] W fun e w' => e = .returned (.tuple #[.agg #[.int .i64 1, .int .i64 1, .int .i64 1, .bool false], .bool true]) ∧ Below W.heap.size W w' from by
    have h9 := tfind_any s1 p 1 (by omega) W h
    rw [f1] at h9
    exact h9)
  have HNE := Lib.hid (fun p W (h : StoreR W s1 p) => show Calls Try.prog 19 #[storeV s1 p, .int .i64 1, .int .i64 0] W (StOut (s2, 0) p W) from by
    have h9 := tnest_any s1 p b1.1 (by omega) 1 0 W h
    rw [e2] at h9
    exact h9)
  have HF2 := Lib.hid (fun p W (h : StoreR W s2 p) => show Calls Try.prog 18 #[storeV s2 p, .int .i64 1] W fun e w' => e = .returned (.tuple #[.agg #[.int .i64 1, .int .i64 28, .int .i64 0, .bool false], .bool true]) ∧ Below W.heap.size W w' from by
    have h9 := tfind_any s2 p 1 (by omega) W h
    rw [f2] at h9
    exact h9)
  have HCO := Lib.hid (fun p W (h : StoreR W s2 p) => show Calls Try.prog 20 #[storeV s2 p, .int .i64 1] W (StOut (s3, 0) p W) from by
    have h9 := tcommit_any s2 p b2.1 (by omega) (by rw [b2.2]; omega) 1 W h
    rw [e3] at h9
    exact h9)
  have hz3 : s3.txns.length = 0 := by rw [t3]; rfl
  have HAB := Lib.hid (fun p W (h : StoreR W s3 p) => show Calls Try.prog 21 #[.agg #[.int .i64 s3.zlog, .int .i64 s3.zpages, .int .i64 s3.zframes, .slice p.A s3.disk.sectors.length p.c, .int .i64 s3.disk.left, .bool s3.disk.down, .int .i64 s3.log.from_, .int .i64 s3.log.n, .int .i64 s3.log.end_, .int .i64 s3.log.safe, .string s3.log.tail, .slice p.F p.fn p.fc, .int .i64 s3.hand, .slice p.T 0 p.tc, .int .i64 2], .int .i64 1] W (StOut (s3, 21) p W) from by
    have h9 := tabort_any s3 p b3.1 (by rw [t3]; show 0 ≤ _; omega) 1 W h
    rw [e4] at h9
    dsimp only [storeV] at h9
    rw [hz3, x3] at h9
    exact h9)
  have HMA := Lib.hid (fun p W (h : StoreR W s2 p) => show Calls Try.prog 22 #[storeV s2 p, .int .i64 1] W fun e w' => e = .returned (.int .i64 28) ∧ Below W.heap.size W w' from by
    have h9 := tmark_any s2 p 1 (by omega) W h
    unfold Tx.markS at h9
    rw [f2] at h9
    exact h9)
  clear e1 f1 e2 f2 e3 t3 e4 g1 g2 g3 b0 gb b1 b2 b3 l1 l2
  obtain ⟨s0, hs0⟩ : ∃ s, s = Tx.fresh 9 := ⟨_, rfl⟩
  rw [← hs0] at HFR HBE
  clear hs0
  dsimp only [storeV] at HBE HF1 HNE HF2 HCO HAB HMA
  go_enter Try.func6, Try.ntmps6
  go_upto_region 2 with (first
    | (go_at_call 11; (with_reducible refine (HFR.out _).mono ?_); rintro e w1 ⟨p0, rfl, hs0, -, hb1⟩)
    | (go_at_call 17; (with_reducible refine (HBE.out p0 _ hs0).mono ?_); rintro e w2 ⟨p1, rfl, hs1, -, hb2⟩; (try dsimp only [storeV]))
    | (with_reducible refine wpList_store_new rfl 49 (.tmp 1) (.tmp 17) rfl #[.int .i64 s1.zlog, .int .i64 s1.zpages, .int .i64 s1.zframes, .slice p1.A s1.disk.sectors.length p1.c, .int .i64 s1.disk.left, .bool s1.disk.down, .int .i64 s1.log.from_, .int .i64 s1.log.n, .int .i64 s1.log.end_, .int .i64 s1.log.safe, .string s1.log.tail, .slice p1.F p1.fn p1.fc, .int .i64 s1.hand, .slice p1.T s1.txns.length p1.tc, .int .i64 s1.next] _ _ rfl (by kernel_rfl) (by kernel_rfl) (by kernel_rfl) (by kernel_rfl) ?_))
  have B1 := Lib.hid (joinB hb1 (pastAlloc (o := .cells #[.int .i64 s1.zlog, .int .i64 s1.zpages, .int .i64 s1.zframes, .slice p1.A s1.disk.sectors.length p1.c, .int .i64 s1.disk.left, .bool s1.disk.down, .int .i64 s1.log.from_, .int .i64 s1.log.n, .int .i64 s1.log.end_, .int .i64 s1.log.safe, .string s1.log.tail, .slice p1.F p1.fn p1.fc, .int .i64 s1.hand, .slice p1.T s1.txns.length p1.tc, .int .i64 s1.next] 49) hb2))
  have X1 := Lib.hid (heap_alloc_new w2 (.cells #[.int .i64 s1.zlog, .int .i64 s1.zpages, .int .i64 s1.zframes, .slice p1.A s1.disk.sectors.length p1.c, .int .i64 s1.disk.left, .bool s1.disk.down, .int .i64 s1.log.from_, .int .i64 s1.log.n, .int .i64 s1.log.end_, .int .i64 s1.log.safe, .string s1.log.tail, .slice p1.F p1.fn p1.fc, .int .i64 s1.hand, .slice p1.T s1.txns.length p1.tc, .int .i64 s1.next] 49))
  have S1 := Lib.hid (hs1.below (allocB w2 (.cells #[.int .i64 s1.zlog, .int .i64 s1.zpages, .int .i64 s1.zframes, .slice p1.A s1.disk.sectors.length p1.c, .int .i64 s1.disk.left, .bool s1.disk.down, .int .i64 s1.log.from_, .int .i64 s1.log.n, .int .i64 s1.log.end_, .int .i64 s1.log.safe, .string s1.log.tail, .slice p1.F p1.fn p1.fc, .int .i64 s1.hand, .slice p1.T s1.txns.length p1.tc, .int .i64 s1.next] 49)))
  obtain ⟨g1, hg1⟩ : ∃ g, g = w2.heap.size := ⟨_, rfl⟩
  obtain ⟨W1, hW1⟩ : ∃ W, W = w2.alloc (.cells #[.int .i64 s1.zlog, .int .i64 s1.zpages, .int .i64 s1.zframes, .slice p1.A s1.disk.sectors.length p1.c, .int .i64 s1.disk.left, .bool s1.disk.down, .int .i64 s1.log.from_, .int .i64 s1.log.n, .int .i64 s1.log.end_, .int .i64 s1.log.safe, .string s1.log.tail, .slice p1.F p1.fn p1.fc, .int .i64 s1.hand, .slice p1.T s1.txns.length p1.tc, .int .i64 s1.next] 49) := ⟨_, rfl⟩
  rw [← hg1] at X1
  rw [← hW1] at B1 X1 S1
  rw [← hW1, ← hg1]
  clear hg1 hW1 hb1 hb2 hs0 hs1 HFR HBE
  go_upto_region 3 with (first
    | (with_reducible refine listLoad (by kernel_rfl) 49 (.tmp 1) rfl g1 rfl #[.int .i64 s1.zlog, .int .i64 s1.zpages, .int .i64 s1.zframes, .slice p1.A s1.disk.sectors.length p1.c, .int .i64 s1.disk.left, .bool s1.disk.down, .int .i64 s1.log.from_, .int .i64 s1.log.n, .int .i64 s1.log.end_, .int .i64 s1.log.safe, .string s1.log.tail, .slice p1.F p1.fn p1.fc, .int .i64 s1.hand, .slice p1.T s1.txns.length p1.tc, .int .i64 s1.next] _ X1.out _ Try.underlying49 (by kernel_rfl) (by kernel_rfl) ?_)
    | (go_at_call 18; (with_reducible refine (HF1.out p1 _ S1.out).mono ?_); rintro e w3 ⟨rfl, hb3⟩)
    | (with_reducible refine wpList_store_new rfl 66 (.tmp 4) (.tmp 23) rfl #[.int .i64 1, .int .i64 1, .int .i64 1, .bool false] _ _ rfl (by kernel_rfl) (by kernel_rfl) (by kernel_rfl) (by kernel_rfl) ?_))
  have hbn := pastAlloc (o := .cells #[.int .i64 1, .int .i64 1, .int .i64 1, .bool false] 66) hb3
  have B3 := Lib.hid (B1.out.trans (hbn.mono B1.out.size))
  have X3 := Lib.hid (heap_alloc_new w3 (.cells #[.int .i64 1, .int .i64 1, .int .i64 1, .bool false] 66))
  have Y1 := Lib.hid (blkOld X1.out hbn)
  have R1 := Lib.hid (S1.out.below hbn)
  obtain ⟨g3, hg3⟩ : ∃ g, g = w3.heap.size := ⟨_, rfl⟩
  obtain ⟨W3, hW3⟩ : ∃ W, W = w3.alloc (.cells #[.int .i64 1, .int .i64 1, .int .i64 1, .bool false] 66) := ⟨_, rfl⟩
  rw [← hg3] at X3
  rw [← hW3] at B3 X3 Y1 R1
  rw [← hW3, ← hg3]
  clear hbn hb3 hg3 hW3 B1 X1 S1 HF1
  have X1 := Y1
  clear Y1
  have S1 := R1
  clear R1
  go_upto_region 4 with (first
    | (with_reducible refine listLoad (by kernel_rfl) 49 (.tmp 1) rfl g1 rfl #[.int .i64 s1.zlog, .int .i64 s1.zpages, .int .i64 s1.zframes, .slice p1.A s1.disk.sectors.length p1.c, .int .i64 s1.disk.left, .bool s1.disk.down, .int .i64 s1.log.from_, .int .i64 s1.log.n, .int .i64 s1.log.end_, .int .i64 s1.log.safe, .string s1.log.tail, .slice p1.F p1.fn p1.fc, .int .i64 s1.hand, .slice p1.T s1.txns.length p1.tc, .int .i64 s1.next] _ X1.out _ Try.underlying49 (by kernel_rfl) (by kernel_rfl) ?_)
    | (go_at_call 19; (with_reducible refine (HNE.out p1 _ S1.out).mono ?_); rintro e w4 ⟨p2, rfl, hs2, -, hb4⟩; (try dsimp only [storeV]))
    | (with_reducible refine wpList_store_new rfl 49 (.tmp 6) (.tmp 28) rfl #[.int .i64 s2.zlog, .int .i64 s2.zpages, .int .i64 s2.zframes, .slice p2.A s2.disk.sectors.length p2.c, .int .i64 s2.disk.left, .bool s2.disk.down, .int .i64 s2.log.from_, .int .i64 s2.log.n, .int .i64 s2.log.end_, .int .i64 s2.log.safe, .string s2.log.tail, .slice p2.F p2.fn p2.fc, .int .i64 s2.hand, .slice p2.T s2.txns.length p2.tc, .int .i64 s2.next] _ _ rfl (by kernel_rfl) (by kernel_rfl) (by kernel_rfl) (by kernel_rfl) ?_))
  have hbn := pastAlloc (o := .cells #[.int .i64 s2.zlog, .int .i64 s2.zpages, .int .i64 s2.zframes, .slice p2.A s2.disk.sectors.length p2.c, .int .i64 s2.disk.left, .bool s2.disk.down, .int .i64 s2.log.from_, .int .i64 s2.log.n, .int .i64 s2.log.end_, .int .i64 s2.log.safe, .string s2.log.tail, .slice p2.F p2.fn p2.fc, .int .i64 s2.hand, .slice p2.T s2.txns.length p2.tc, .int .i64 s2.next] 49) hb4
  have B4 := Lib.hid (B3.out.trans (hbn.mono B3.out.size))
  have X4 := Lib.hid (heap_alloc_new w4 (.cells #[.int .i64 s2.zlog, .int .i64 s2.zpages, .int .i64 s2.zframes, .slice p2.A s2.disk.sectors.length p2.c, .int .i64 s2.disk.left, .bool s2.disk.down, .int .i64 s2.log.from_, .int .i64 s2.log.n, .int .i64 s2.log.end_, .int .i64 s2.log.safe, .string s2.log.tail, .slice p2.F p2.fn p2.fc, .int .i64 s2.hand, .slice p2.T s2.txns.length p2.tc, .int .i64 s2.next] 49))
  have Y1 := Lib.hid (blkOld X1.out hbn)
  have Y3 := Lib.hid (blkOld X3.out hbn)
  have R1 := Lib.hid (S1.out.below hbn)
  have S2 := Lib.hid (hs2.below (allocB w4 (.cells #[.int .i64 s2.zlog, .int .i64 s2.zpages, .int .i64 s2.zframes, .slice p2.A s2.disk.sectors.length p2.c, .int .i64 s2.disk.left, .bool s2.disk.down, .int .i64 s2.log.from_, .int .i64 s2.log.n, .int .i64 s2.log.end_, .int .i64 s2.log.safe, .string s2.log.tail, .slice p2.F p2.fn p2.fc, .int .i64 s2.hand, .slice p2.T s2.txns.length p2.tc, .int .i64 s2.next] 49)))
  obtain ⟨g4, hg4⟩ : ∃ g, g = w4.heap.size := ⟨_, rfl⟩
  obtain ⟨W4, hW4⟩ : ∃ W, W = w4.alloc (.cells #[.int .i64 s2.zlog, .int .i64 s2.zpages, .int .i64 s2.zframes, .slice p2.A s2.disk.sectors.length p2.c, .int .i64 s2.disk.left, .bool s2.disk.down, .int .i64 s2.log.from_, .int .i64 s2.log.n, .int .i64 s2.log.end_, .int .i64 s2.log.safe, .string s2.log.tail, .slice p2.F p2.fn p2.fc, .int .i64 s2.hand, .slice p2.T s2.txns.length p2.tc, .int .i64 s2.next] 49) := ⟨_, rfl⟩
  rw [← hg4] at X4
  rw [← hW4] at B4 X4 Y1 Y3 R1 S2
  rw [← hW4, ← hg4]
  clear hbn hb4 hg4 hW4 B3 X1 X3 S1 hs2 HNE
  have X1 := Y1
  clear Y1
  have X3 := Y3
  clear Y3
  have S1 := R1
  clear R1
  go_upto_region 5 with (first
    | (with_reducible refine listLoad (by kernel_rfl) 49 (.tmp 6) rfl g4 rfl #[.int .i64 s2.zlog, .int .i64 s2.zpages, .int .i64 s2.zframes, .slice p2.A s2.disk.sectors.length p2.c, .int .i64 s2.disk.left, .bool s2.disk.down, .int .i64 s2.log.from_, .int .i64 s2.log.n, .int .i64 s2.log.end_, .int .i64 s2.log.safe, .string s2.log.tail, .slice p2.F p2.fn p2.fc, .int .i64 s2.hand, .slice p2.T s2.txns.length p2.tc, .int .i64 s2.next] _ X4.out _ Try.underlying49 (by kernel_rfl) (by kernel_rfl) ?_)
    | (go_at_call 18; (with_reducible refine (HF2.out p2 _ S2.out).mono ?_); rintro e w5 ⟨rfl, hb5⟩)
    | (with_reducible refine wpList_store_new rfl 66 (.tmp 8) (.tmp 33) rfl #[.int .i64 1, .int .i64 28, .int .i64 0, .bool false] _ _ rfl (by kernel_rfl) (by kernel_rfl) (by kernel_rfl) (by kernel_rfl) ?_))
  have hbn := pastAlloc (o := .cells #[.int .i64 1, .int .i64 28, .int .i64 0, .bool false] 66) hb5
  have B5 := Lib.hid (B4.out.trans (hbn.mono B4.out.size))
  have X5 := Lib.hid (heap_alloc_new w5 (.cells #[.int .i64 1, .int .i64 28, .int .i64 0, .bool false] 66))
  have Y3 := Lib.hid (blkOld X3.out hbn)
  have Y4 := Lib.hid (blkOld X4.out hbn)
  have R2 := Lib.hid (S2.out.below hbn)
  obtain ⟨g5, hg5⟩ : ∃ g, g = w5.heap.size := ⟨_, rfl⟩
  obtain ⟨W5, hW5⟩ : ∃ W, W = w5.alloc (.cells #[.int .i64 1, .int .i64 28, .int .i64 0, .bool false] 66) := ⟨_, rfl⟩
  rw [← hg5] at X5
  rw [← hW5] at B5 X5 Y3 Y4 R2
  rw [← hW5, ← hg5]
  clear hbn hb5 hg5 hW5 B4 X3 X4 S2 HF2 X1 S1
  have X3 := Y3
  clear Y3
  have X4 := Y4
  clear Y4
  have S2 := R2
  clear R2
  go_upto_region 6 with (first
    | (with_reducible refine listLoad (by kernel_rfl) 49 (.tmp 6) rfl g4 rfl #[.int .i64 s2.zlog, .int .i64 s2.zpages, .int .i64 s2.zframes, .slice p2.A s2.disk.sectors.length p2.c, .int .i64 s2.disk.left, .bool s2.disk.down, .int .i64 s2.log.from_, .int .i64 s2.log.n, .int .i64 s2.log.end_, .int .i64 s2.log.safe, .string s2.log.tail, .slice p2.F p2.fn p2.fc, .int .i64 s2.hand, .slice p2.T s2.txns.length p2.tc, .int .i64 s2.next] _ X4.out _ Try.underlying49 (by kernel_rfl) (by kernel_rfl) ?_)
    | (go_at_call 20; (with_reducible refine (HCO.out p2 _ S2.out).mono ?_); rintro e w6 ⟨p3, rfl, hs3, -, hb6⟩; (try dsimp only [storeV]))
    | (with_reducible refine wpList_store_new rfl 49 (.tmp 10) (.tmp 38) rfl #[.int .i64 s3.zlog, .int .i64 s3.zpages, .int .i64 s3.zframes, .slice p3.A s3.disk.sectors.length p3.c, .int .i64 s3.disk.left, .bool s3.disk.down, .int .i64 s3.log.from_, .int .i64 s3.log.n, .int .i64 s3.log.end_, .int .i64 s3.log.safe, .string s3.log.tail, .slice p3.F p3.fn p3.fc, .int .i64 s3.hand, .slice p3.T 0 p3.tc, .int .i64 2] _ _ rfl (by kernel_rfl) (by kernel_rfl) (by kernel_rfl) (by kernel_rfl) ?_))
  have hbn := pastAlloc (o := .cells #[.int .i64 s3.zlog, .int .i64 s3.zpages, .int .i64 s3.zframes, .slice p3.A s3.disk.sectors.length p3.c, .int .i64 s3.disk.left, .bool s3.disk.down, .int .i64 s3.log.from_, .int .i64 s3.log.n, .int .i64 s3.log.end_, .int .i64 s3.log.safe, .string s3.log.tail, .slice p3.F p3.fn p3.fc, .int .i64 s3.hand, .slice p3.T 0 p3.tc, .int .i64 2] 49) hb6
  have B6 := Lib.hid (B5.out.trans (hbn.mono B5.out.size))
  have X6 := Lib.hid (heap_alloc_new w6 (.cells #[.int .i64 s3.zlog, .int .i64 s3.zpages, .int .i64 s3.zframes, .slice p3.A s3.disk.sectors.length p3.c, .int .i64 s3.disk.left, .bool s3.disk.down, .int .i64 s3.log.from_, .int .i64 s3.log.n, .int .i64 s3.log.end_, .int .i64 s3.log.safe, .string s3.log.tail, .slice p3.F p3.fn p3.fc, .int .i64 s3.hand, .slice p3.T 0 p3.tc, .int .i64 2] 49))
  have Y3 := Lib.hid (blkOld X3.out hbn)
  have Y4 := Lib.hid (blkOld X4.out hbn)
  have Y5 := Lib.hid (blkOld X5.out hbn)
  have R2 := Lib.hid (S2.out.below hbn)
  have S3 := Lib.hid (hs3.below (allocB w6 (.cells #[.int .i64 s3.zlog, .int .i64 s3.zpages, .int .i64 s3.zframes, .slice p3.A s3.disk.sectors.length p3.c, .int .i64 s3.disk.left, .bool s3.disk.down, .int .i64 s3.log.from_, .int .i64 s3.log.n, .int .i64 s3.log.end_, .int .i64 s3.log.safe, .string s3.log.tail, .slice p3.F p3.fn p3.fc, .int .i64 s3.hand, .slice p3.T 0 p3.tc, .int .i64 2] 49)))
  obtain ⟨g6, hg6⟩ : ∃ g, g = w6.heap.size := ⟨_, rfl⟩
  obtain ⟨W6, hW6⟩ : ∃ W, W = w6.alloc (.cells #[.int .i64 s3.zlog, .int .i64 s3.zpages, .int .i64 s3.zframes, .slice p3.A s3.disk.sectors.length p3.c, .int .i64 s3.disk.left, .bool s3.disk.down, .int .i64 s3.log.from_, .int .i64 s3.log.n, .int .i64 s3.log.end_, .int .i64 s3.log.safe, .string s3.log.tail, .slice p3.F p3.fn p3.fc, .int .i64 s3.hand, .slice p3.T 0 p3.tc, .int .i64 2] 49) := ⟨_, rfl⟩
  rw [← hg6] at X6
  rw [← hW6] at B6 X6 Y3 Y4 Y5 R2 S3
  rw [← hW6, ← hg6]
  clear hbn hb6 hg6 hW6 B5 X3 X4 X5 S2 hs3 HCO
  have X3 := Y3
  clear Y3
  have X4 := Y4
  clear Y4
  have X5 := Y5
  clear Y5
  have S2 := R2
  clear R2
  go_upto_region 7 with (first
    | (with_reducible refine listLoad (by kernel_rfl) 49 (.tmp 10) rfl g6 rfl #[.int .i64 s3.zlog, .int .i64 s3.zpages, .int .i64 s3.zframes, .slice p3.A s3.disk.sectors.length p3.c, .int .i64 s3.disk.left, .bool s3.disk.down, .int .i64 s3.log.from_, .int .i64 s3.log.n, .int .i64 s3.log.end_, .int .i64 s3.log.safe, .string s3.log.tail, .slice p3.F p3.fn p3.fc, .int .i64 s3.hand, .slice p3.T 0 p3.tc, .int .i64 2] _ X6.out _ Try.underlying49 (by kernel_rfl) (by kernel_rfl) ?_)
    | (go_at_call 21; (with_reducible refine (HAB.out p3 _ S3.out).mono ?_); rintro e w7 ⟨p4, rfl, hs4, -, hb7⟩; clear hs4; (try dsimp only [storeV]))
    | (with_reducible refine wpList_store_new rfl 49 (.tmp 12) (.tmp 43) rfl #[.int .i64 s3.zlog, .int .i64 s3.zpages, .int .i64 s3.zframes, .slice p4.A s3.disk.sectors.length p4.c, .int .i64 s3.disk.left, .bool s3.disk.down, .int .i64 s3.log.from_, .int .i64 s3.log.n, .int .i64 s3.log.end_, .int .i64 s3.log.safe, .string s3.log.tail, .slice p4.F p4.fn p4.fc, .int .i64 s3.hand, .slice p4.T 0 p4.tc, .int .i64 2] _ _ rfl (by kernel_rfl) (by kernel_rfl) (by kernel_rfl) (by kernel_rfl) ?_))
  have hbn := pastAlloc (o := .cells #[.int .i64 s3.zlog, .int .i64 s3.zpages, .int .i64 s3.zframes, .slice p4.A s3.disk.sectors.length p4.c, .int .i64 s3.disk.left, .bool s3.disk.down, .int .i64 s3.log.from_, .int .i64 s3.log.n, .int .i64 s3.log.end_, .int .i64 s3.log.safe, .string s3.log.tail, .slice p4.F p4.fn p4.fc, .int .i64 s3.hand, .slice p4.T 0 p4.tc, .int .i64 2] 49) hb7
  have B7 := Lib.hid (B6.out.trans (hbn.mono B6.out.size))
  have X7 := Lib.hid (heap_alloc_new w7 (.cells #[.int .i64 s3.zlog, .int .i64 s3.zpages, .int .i64 s3.zframes, .slice p4.A s3.disk.sectors.length p4.c, .int .i64 s3.disk.left, .bool s3.disk.down, .int .i64 s3.log.from_, .int .i64 s3.log.n, .int .i64 s3.log.end_, .int .i64 s3.log.safe, .string s3.log.tail, .slice p4.F p4.fn p4.fc, .int .i64 s3.hand, .slice p4.T 0 p4.tc, .int .i64 2] 49))
  have Y3 := Lib.hid (blkOld X3.out hbn)
  have Y4 := Lib.hid (blkOld X4.out hbn)
  have Y5 := Lib.hid (blkOld X5.out hbn)
  have Y6 := Lib.hid (blkOld X6.out hbn)
  have R2 := Lib.hid (S2.out.below hbn)
  obtain ⟨g7, hg7⟩ : ∃ g, g = w7.heap.size := ⟨_, rfl⟩
  obtain ⟨W7, hW7⟩ : ∃ W, W = w7.alloc (.cells #[.int .i64 s3.zlog, .int .i64 s3.zpages, .int .i64 s3.zframes, .slice p4.A s3.disk.sectors.length p4.c, .int .i64 s3.disk.left, .bool s3.disk.down, .int .i64 s3.log.from_, .int .i64 s3.log.n, .int .i64 s3.log.end_, .int .i64 s3.log.safe, .string s3.log.tail, .slice p4.F p4.fn p4.fc, .int .i64 s3.hand, .slice p4.T 0 p4.tc, .int .i64 2] 49) := ⟨_, rfl⟩
  rw [← hg7] at X7
  rw [← hW7] at B7 X7 Y3 Y4 Y5 Y6 R2
  rw [← hW7, ← hg7]
  clear hbn hb7 hg7 hW7 B6 X3 X4 X5 X6 S2 HAB S3
  have X3 := Y3
  clear Y3
  have X4 := Y4
  clear Y4
  have X5 := Y5
  clear Y5
  have X6 := Y6
  clear Y6
  have S2 := R2
  clear R2
  have V3 := blkOld X3.out (Below.refl _ W7).drew
  have V4 := blkOld X4.out (Below.refl _ W7).drew
  have V5 := blkOld X5.out (Below.refl _ W7).drew
  have V6 := blkOld X6.out (Below.refl _ W7).drew
  have R0 := S2.out.below (Below.refl _ W7).drew
  refine wp_region_held_drew (S := (fun u => u.heap[g3]? = some (.cells #[.int .i64 1, .int .i64 1, .int .i64 1, .bool false] 66 (0, 0)) ∧ u.heap[g4]? = some (.cells #[.int .i64 s2.zlog, .int .i64 s2.zpages, .int .i64 s2.zframes, .slice p2.A s2.disk.sectors.length p2.c, .int .i64 s2.disk.left, .bool s2.disk.down, .int .i64 s2.log.from_, .int .i64 s2.log.n, .int .i64 s2.log.end_, .int .i64 s2.log.safe, .string s2.log.tail, .slice p2.F p2.fn p2.fc, .int .i64 s2.hand, .slice p2.T s2.txns.length p2.tc, .int .i64 s2.next] 49 (0, 0)) ∧ u.heap[g5]? = some (.cells #[.int .i64 1, .int .i64 28, .int .i64 0, .bool false] 66 (0, 0)) ∧ u.heap[g6]? = some (.cells #[.int .i64 s3.zlog, .int .i64 s3.zpages, .int .i64 s3.zframes, .slice p3.A s3.disk.sectors.length p3.c, .int .i64 s3.disk.left, .bool s3.disk.down, .int .i64 s3.log.from_, .int .i64 s3.log.n, .int .i64 s3.log.end_, .int .i64 s3.log.safe, .string s3.log.tail, .slice p3.F p3.fn p3.fc, .int .i64 s3.hand, .slice p3.T 0 p3.tc, .int .i64 2] 49 (0, 0)))) (by kernel_rfl) ?_ (fun hHeld => ?_)
  · first | exact hSn | exact ⟨V3, V4, V5, V6⟩
  refine tkW 0 (some 45) (v := ?_) rfl ?_ ?_
  rotate_left
  · intro u hSu; have hS1 := blkCell hSu.1; have hS2 := blkCell hSu.2.2.1; have hS3 := blkCell hSu.2.2.2; clear hSu; go_simp; (try with_reducible rfl)
  try simp only [Act.put, List.setIfInBounds_toArray, List.set_cons_zero, List.set_cons_succ]
  refine tkW 1 (some 46) (v := ?_) rfl ?_ ?_
  rotate_left
  · intro u hSu; have hS1 := blkCell hSu.1; have hS2 := blkCell hSu.2.2.1; have hS3 := blkCell hSu.2.2.2; clear hSu; go_simp; (try with_reducible rfl)
  try simp only [Act.put, List.setIfInBounds_toArray, List.set_cons_zero, List.set_cons_succ]
  refine tkW 2 (some 47) (v := ?_) rfl ?_ ?_
  rotate_left
  · intro u hSu; have hS1 := blkCell hSu.1; have hS2 := blkCell hSu.2.2.1; have hS3 := blkCell hSu.2.2.2; clear hSu; go_simp; (try with_reducible rfl)
  try simp only [Act.put, List.setIfInBounds_toArray, List.set_cons_zero, List.set_cons_succ]
  refine tkW 3 (some 48) (v := ?_) rfl ?_ ?_
  rotate_left
  · intro u hSu; have hS1 := blkCell hSu.1; have hS2 := blkCell hSu.2.2.1; have hS3 := blkCell hSu.2.2.2; clear hSu; go_simp; (try with_reducible rfl)
  try simp only [Act.put, List.setIfInBounds_toArray, List.set_cons_zero, List.set_cons_succ]
  refine tkW 4 (some 49) (v := ?_) rfl ?_ ?_
  rotate_left
  · intro u hSu; have hS1 := blkCell hSu.1; have hS2 := blkCell hSu.2.2.1; have hS3 := blkCell hSu.2.2.2; clear hSu; go_simp; (try with_reducible rfl)
  try simp only [Act.put, List.setIfInBounds_toArray, List.set_cons_zero, List.set_cons_succ]
  refine tkW 5 (some 50) (v := ?_) rfl ?_ ?_
  rotate_left
  · intro u hSu; have hS1 := blkCell hSu.1; have hS2 := blkCell hSu.2.2.1; have hS3 := blkCell hSu.2.2.2; clear hSu; go_simp; (try with_reducible rfl)
  try simp only [Act.put, List.setIfInBounds_toArray, List.set_cons_zero, List.set_cons_succ]
  refine tkW 6 (some 51) (v := ?_) rfl ?_ ?_
  rotate_left
  · intro u hSu; have hS1 := blkCell hSu.1; have hS2 := blkCell hSu.2.2.1; have hS3 := blkCell hSu.2.2.2; clear hSu; go_simp; (try with_reducible rfl)
  try simp only [Act.put, List.setIfInBounds_toArray, List.set_cons_zero, List.set_cons_succ]
  refine tkW 7 (some 52) (v := ?_) rfl ?_ ?_
  rotate_left
  · intro u hSu; have hS1 := blkCell hSu.1; have hS2 := blkCell hSu.2.2.1; have hS3 := blkCell hSu.2.2.2; clear hSu; go_simp; (try with_reducible rfl)
  try simp only [Act.put, List.setIfInBounds_toArray, List.set_cons_zero, List.set_cons_succ]
  refine tkW 8 (some 53) (v := ?_) rfl ?_ ?_
  rotate_left
  · intro u hSu; have hS1 := blkCell hSu.1; have hS2 := blkCell hSu.2.2.1; have hS3 := blkCell hSu.2.2.2; clear hSu; go_simp; (try with_reducible rfl)
  try simp only [Act.put, List.setIfInBounds_toArray, List.set_cons_zero, List.set_cons_succ]
  refine tkW 9 (some 54) (v := ?_) rfl ?_ ?_
  rotate_left
  · intro u hSu; have hS1 := blkCell hSu.1; have hS2 := blkCell hSu.2.2.1; have hS3 := blkCell hSu.2.2.2; clear hSu; go_simp; (try with_reducible rfl)
  try simp only [Act.put, List.setIfInBounds_toArray, List.set_cons_zero, List.set_cons_succ]
  refine tkW 10 (some 55) (v := ?_) rfl ?_ ?_
  rotate_left
  · intro u hSu; have hS1 := blkCell hSu.1; have hS2 := blkCell hSu.2.2.1; have hS3 := blkCell hSu.2.2.2; clear hSu; go_simp; (try with_reducible rfl)
  try simp only [Act.put, List.setIfInBounds_toArray, List.set_cons_zero, List.set_cons_succ]
  refine tkW 11 (some 56) (v := ?_) rfl ?_ ?_
  rotate_left
  · intro u hSu; have hS1 := blkCell hSu.1; have hS2 := blkCell hSu.2.2.1; have hS3 := blkCell hSu.2.2.2; clear hSu; go_simp; (try with_reducible rfl)
  try simp only [Act.put, List.setIfInBounds_toArray, List.set_cons_zero, List.set_cons_succ]
  refine tkW 12 (some 57) (v := ?_) rfl ?_ ?_
  rotate_left
  · intro u hSu; have hS1 := blkCell hSu.1; have hS2 := blkCell hSu.2.2.1; have hS3 := blkCell hSu.2.2.2; clear hSu; go_simp; (try with_reducible rfl)
  try simp only [Act.put, List.setIfInBounds_toArray, List.set_cons_zero, List.set_cons_succ]
  refine tkW 13 (some 58) (v := ?_) rfl ?_ ?_
  rotate_left
  · intro u hSu; have hS1 := blkCell hSu.1; have hS2 := blkCell hSu.2.2.1; have hS3 := blkCell hSu.2.2.2; clear hSu; go_simp; (try with_reducible rfl)
  try simp only [Act.put, List.setIfInBounds_toArray, List.set_cons_zero, List.set_cons_succ]
  refine tkW 14 (some 59) (v := ?_) rfl ?_ ?_
  rotate_left
  · intro u hSu; have hS1 := blkCell hSu.1; have hS2 := blkCell hSu.2.2.1; have hS3 := blkCell hSu.2.2.2; clear hSu; go_simp; (try with_reducible rfl)
  try simp only [Act.put, List.setIfInBounds_toArray, List.set_cons_zero, List.set_cons_succ]
  refine tkW 15 (some 60) (v := ?_) rfl ?_ ?_
  rotate_left
  · intro u hSu; have hS1 := blkCell hSu.1; have hS2 := blkCell hSu.2.2.1; have hS3 := blkCell hSu.2.2.2; clear hSu; go_simp; (try with_reducible rfl)
  try simp only [Act.put, List.setIfInBounds_toArray, List.set_cons_zero, List.set_cons_succ]
  refine tkW 16 (some 61) (v := ?_) rfl ?_ ?_
  rotate_left
  · intro u hSu; have hS1 := blkCell hSu.1; have hS2 := blkCell hSu.2.2.1; have hS3 := blkCell hSu.2.2.2; clear hSu; go_simp; (try with_reducible rfl)
  try simp only [Act.put, List.setIfInBounds_toArray, List.set_cons_zero, List.set_cons_succ]
  refine tkW 17 (some 62) (v := ?_) rfl ?_ ?_
  rotate_left
  · intro u hSu; have hS1 := blkCell hSu.1; have hS2 := blkCell hSu.2.2.1; have hS3 := blkCell hSu.2.2.2; clear hSu; go_simp; (try with_reducible rfl)
  try simp only [Act.put, List.setIfInBounds_toArray, List.set_cons_zero, List.set_cons_succ]
  refine tkW 18 (some 63) (v := ?_) rfl ?_ ?_
  rotate_left
  · intro u hSu; have hS1 := blkCell hSu.1; have hS2 := blkCell hSu.2.2.1; have hS3 := blkCell hSu.2.2.2; clear hSu; go_simp; (try with_reducible rfl)
  try simp only [Act.put, List.setIfInBounds_toArray, List.set_cons_zero, List.set_cons_succ]
  refine tkW 19 (some 64) (v := ?_) rfl ?_ ?_
  rotate_left
  · intro u hSu; have hS1 := blkCell hSu.1; have hS2 := blkCell hSu.2.2.1; have hS3 := blkCell hSu.2.2.2; clear hSu; go_simp; (try with_reducible rfl)
  try simp only [Act.put, List.setIfInBounds_toArray, List.set_cons_zero, List.set_cons_succ]
  refine tkW 20 (some 65) (v := ?_) rfl ?_ ?_
  rotate_left
  · intro u hSu; have hS1 := blkCell hSu.1; have hS2 := blkCell hSu.2.2.1; have hS3 := blkCell hSu.2.2.2; clear hSu; go_simp; (try with_reducible rfl)
  try simp only [Act.put, List.setIfInBounds_toArray, List.set_cons_zero, List.set_cons_succ]
  refine tkW 21 (some 66) (v := ?_) rfl ?_ ?_
  rotate_left
  · intro u hSu; have hS1 := blkCell hSu.1; have hS2 := blkCell hSu.2.2.1; have hS3 := blkCell hSu.2.2.2; clear hSu; go_simp; (try with_reducible rfl)
  try simp only [Act.put, List.setIfInBounds_toArray, List.set_cons_zero, List.set_cons_succ]
  refine tkW 22 (some 67) (v := ?_) rfl ?_ ?_
  rotate_left
  · intro u hSu; have hS1 := blkCell hSu.1; have hS2 := blkCell hSu.2.2.1; have hS3 := blkCell hSu.2.2.2; clear hSu; go_simp; (try with_reducible rfl)
  try simp only [Act.put, List.setIfInBounds_toArray, List.set_cons_zero, List.set_cons_succ]
  refine tkW 23 (some 68) (v := ?_) rfl ?_ ?_
  rotate_left
  · intro u hSu; have hS1 := blkCell hSu.1; have hS2 := blkCell hSu.2.2.1; have hS3 := blkCell hSu.2.2.2; clear hSu; go_simp; (try with_reducible rfl)
  try simp only [Act.put, List.setIfInBounds_toArray, List.set_cons_zero, List.set_cons_succ]
  refine tkW 24 (some 69) (v := ?_) rfl ?_ ?_
  rotate_left
  · intro u hSu; have hS1 := blkCell hSu.1; have hS2 := blkCell hSu.2.2.1; have hS3 := blkCell hSu.2.2.2; clear hSu; go_simp; (try with_reducible rfl)
  try simp only [Act.put, List.setIfInBounds_toArray, List.set_cons_zero, List.set_cons_succ]
  refine tkW 25 (some 70) (v := ?_) rfl ?_ ?_
  rotate_left
  · intro u hSu; have hS1 := blkCell hSu.1; have hS2 := blkCell hSu.2.2.1; have hS3 := blkCell hSu.2.2.2; clear hSu; go_simp; (try with_reducible rfl)
  try simp only [Act.put, List.setIfInBounds_toArray, List.set_cons_zero, List.set_cons_succ]
  refine tkW 26 (some 71) (v := ?_) rfl ?_ ?_
  rotate_left
  · intro u hSu; have hS1 := blkCell hSu.1; have hS2 := blkCell hSu.2.2.1; have hS3 := blkCell hSu.2.2.2; clear hSu; go_simp; (try with_reducible rfl)
  try simp only [Act.put, List.setIfInBounds_toArray, List.set_cons_zero, List.set_cons_succ]
  refine tkW 27 (some 72) (v := ?_) rfl ?_ ?_
  rotate_left
  · intro u hSu; have hS1 := blkCell hSu.1; have hS2 := blkCell hSu.2.2.1; have hS3 := blkCell hSu.2.2.2; clear hSu; go_simp; (try with_reducible rfl)
  try simp only [Act.put, List.setIfInBounds_toArray, List.set_cons_zero, List.set_cons_succ]
  refine tkW 28 (some 73) (v := ?_) rfl ?_ ?_
  rotate_left
  · intro u hSu; have hS1 := blkCell hSu.1; have hS2 := blkCell hSu.2.2.1; have hS3 := blkCell hSu.2.2.2; clear hSu; go_simp; (try with_reducible rfl)
  try simp only [Act.put, List.setIfInBounds_toArray, List.set_cons_zero, List.set_cons_succ]
  refine tkW 29 (some 74) (v := ?_) rfl ?_ ?_
  rotate_left
  · intro u hSu; have hS1 := blkCell hSu.1; have hS2 := blkCell hSu.2.2.1; have hS3 := blkCell hSu.2.2.2; clear hSu; go_simp; (try with_reducible rfl)
  try simp only [Act.put, List.setIfInBounds_toArray, List.set_cons_zero, List.set_cons_succ]
  refine tkW 30 (some 75) (v := ?_) rfl ?_ ?_
  rotate_left
  · intro u hSu; have hS1 := blkCell hSu.1; have hS2 := blkCell hSu.2.2.1; have hS3 := blkCell hSu.2.2.2; clear hSu; go_simp; (try with_reducible rfl)
  try simp only [Act.put, List.setIfInBounds_toArray, List.set_cons_zero, List.set_cons_succ]
  refine tkV 31 (some 76) (v := .agg #[.int .i64 s2.zlog, .int .i64 s2.zpages, .int .i64 s2.zframes, .slice p2.A s2.disk.sectors.length p2.c, .int .i64 s2.disk.left, .bool s2.disk.down, .int .i64 s2.log.from_, .int .i64 s2.log.n, .int .i64 s2.log.end_, .int .i64 s2.log.safe, .string s2.log.tail, .slice p2.F p2.fn p2.fc, .int .i64 s2.hand, .slice p2.T s2.txns.length p2.tc, .int .i64 s2.next]) rfl (yieldsIf_load_mid (by rfl) 49 (.tmp 6) rfl g4 0 (by rfl) #[.int .i64 s2.zlog, .int .i64 s2.zpages, .int .i64 s2.zframes, .slice p2.A s2.disk.sectors.length p2.c, .int .i64 s2.disk.left, .bool s2.disk.down, .int .i64 s2.log.from_, .int .i64 s2.log.n, .int .i64 s2.log.end_, .int .i64 s2.log.safe, .string s2.log.tail, .slice p2.F p2.fn p2.fc, .int .i64 s2.hand, .slice p2.T s2.txns.length p2.tc, .int .i64 s2.next].toList _ (fun u hu => (by intro j v hj; rw [Nat.zero_add, blkCell hu.2.1]; simpa using hj)) Try.underlying49 (by kernel_rfl) (by kernel_rfl)) ?_
  try simp only [Act.put, List.setIfInBounds_toArray, List.set_cons_zero, List.set_cons_succ]
  refine rdH 32 (some 77) rfl (fun K hK => ?_)
  go_simp
  refine (HMA.out p2 _ R0).mono ?_; rintro e w8 ⟨rfl, hb8⟩; have hSn := And.intro (blkOld V3 hb8) (And.intro (blkOld V4 hb8) (And.intro (blkOld V5 hb8) (blkOld V6 hb8))); try go_simp
  refine hK.out _ _ ?_ (fun hHeld => ?_)
  · first | exact hSn | exact ⟨V3, V4, V5, V6⟩
  clear hK K
  try simp only [Act.put, List.setIfInBounds_toArray, List.set_cons_zero, List.set_cons_succ]
  refine tkW 33 (some 78) (v := ?_) rfl ?_ ?_
  rotate_left
  · intro u hSu; have hS1 := blkCell hSu.1; have hS2 := blkCell hSu.2.2.1; have hS3 := blkCell hSu.2.2.2; clear hSu; go_simp; (try with_reducible rfl)
  try simp only [Act.put, List.setIfInBounds_toArray, List.set_cons_zero, List.set_cons_succ]
  refine tkW 34 (some 79) (v := ?_) rfl ?_ ?_
  rotate_left
  · intro u hSu; have hS1 := blkCell hSu.1; have hS2 := blkCell hSu.2.2.1; have hS3 := blkCell hSu.2.2.2; clear hSu; go_simp; (try with_reducible rfl)
  try simp only [Act.put, List.setIfInBounds_toArray, List.set_cons_zero, List.set_cons_succ]
  refine tkW 35 (some 80) (v := ?_) rfl ?_ ?_
  rotate_left
  · intro u hSu; have hS1 := blkCell hSu.1; have hS2 := blkCell hSu.2.2.1; have hS3 := blkCell hSu.2.2.2; clear hSu; go_simp; (try with_reducible rfl)
  try simp only [Act.put, List.setIfInBounds_toArray, List.set_cons_zero, List.set_cons_succ]
  refine tkW 36 (some 81) (v := ?_) rfl ?_ ?_
  rotate_left
  · intro u hSu; have hS1 := blkCell hSu.1; have hS2 := blkCell hSu.2.2.1; have hS3 := blkCell hSu.2.2.2; clear hSu; go_simp; (try with_reducible rfl)
  try simp only [Act.put, List.setIfInBounds_toArray, List.set_cons_zero, List.set_cons_succ]
  refine tkW 37 (some 82) (v := ?_) rfl ?_ ?_
  rotate_left
  · intro u hSu; have hS1 := blkCell hSu.1; have hS2 := blkCell hSu.2.2.1; have hS3 := blkCell hSu.2.2.2; clear hSu; go_simp; (try with_reducible rfl)
  try simp only [Act.put, List.setIfInBounds_toArray, List.set_cons_zero, List.set_cons_succ]
  refine tkW 38 (some 83) (v := ?_) rfl ?_ ?_
  rotate_left
  · intro u hSu; have hS1 := blkCell hSu.1; have hS2 := blkCell hSu.2.2.1; have hS3 := blkCell hSu.2.2.2; clear hSu; go_simp; (try with_reducible rfl)
  try simp only [Act.put, List.setIfInBounds_toArray, List.set_cons_zero, List.set_cons_succ]
  refine tkW 39 (some 84) (v := ?_) rfl ?_ ?_
  rotate_left
  · intro u hSu; have hS1 := blkCell hSu.1; have hS2 := blkCell hSu.2.2.1; have hS3 := blkCell hSu.2.2.2; clear hSu; go_simp; (try with_reducible rfl)
  try simp only [Act.put, List.setIfInBounds_toArray, List.set_cons_zero, List.set_cons_succ]
  refine tkW 40 (some 85) (v := ?_) rfl ?_ ?_
  rotate_left
  · intro u hSu; have hS1 := blkCell hSu.1; have hS2 := blkCell hSu.2.2.1; have hS3 := blkCell hSu.2.2.2; clear hSu; go_simp; (try with_reducible rfl)
  try simp only [Act.put, List.setIfInBounds_toArray, List.set_cons_zero, List.set_cons_succ]
  refine tkW 41 (some 86) (v := ?_) rfl ?_ ?_
  rotate_left
  · intro u hSu; have hS1 := blkCell hSu.1; have hS2 := blkCell hSu.2.2.1; have hS3 := blkCell hSu.2.2.2; clear hSu; go_simp; (try with_reducible rfl)
  try simp only [Act.put, List.setIfInBounds_toArray, List.set_cons_zero, List.set_cons_succ]
  refine tkW 42 (some 87) (v := ?_) rfl ?_ ?_
  rotate_left
  · intro u hSu; have hS1 := blkCell hSu.1; have hS2 := blkCell hSu.2.2.1; have hS3 := blkCell hSu.2.2.2; clear hSu; go_simp; (try with_reducible rfl)
  try simp only [Act.put, List.setIfInBounds_toArray, List.set_cons_zero, List.set_cons_succ]
  refine tkW 43 (some 88) (v := ?_) rfl ?_ ?_
  rotate_left
  · intro u hSu; have hS1 := blkCell hSu.1; have hS2 := blkCell hSu.2.2.1; have hS3 := blkCell hSu.2.2.2; clear hSu; go_simp; (try with_reducible rfl)
  try simp only [Act.put, List.setIfInBounds_toArray, List.set_cons_zero, List.set_cons_succ]
  refine tkW 44 (some 89) (v := ?_) rfl ?_ ?_
  rotate_left
  · intro u hSu; have hS1 := blkCell hSu.1; have hS2 := blkCell hSu.2.2.1; have hS3 := blkCell hSu.2.2.2; clear hSu; go_simp; (try with_reducible rfl)
  try simp only [Act.put, List.setIfInBounds_toArray, List.set_cons_zero, List.set_cons_succ]
  refine tkW 45 (some 90) (v := ?_) rfl ?_ ?_
  rotate_left
  · intro u hSu; have hS1 := blkCell hSu.1; have hS2 := blkCell hSu.2.2.1; have hS3 := blkCell hSu.2.2.2; clear hSu; go_simp; (try with_reducible rfl)
  try simp only [Act.put, List.setIfInBounds_toArray, List.set_cons_zero, List.set_cons_succ]
  refine tkW 46 (some 91) (v := ?_) rfl ?_ ?_
  rotate_left
  · intro u hSu; have hS1 := blkCell hSu.1; have hS2 := blkCell hSu.2.2.1; have hS3 := blkCell hSu.2.2.2; clear hSu; go_simp; (try with_reducible rfl)
  try simp only [Act.put, List.setIfInBounds_toArray, List.set_cons_zero, List.set_cons_succ]
  refine tkW 47 (some 92) (v := ?_) rfl ?_ ?_
  rotate_left
  · intro u hSu; have hS1 := blkCell hSu.1; have hS2 := blkCell hSu.2.2.1; have hS3 := blkCell hSu.2.2.2; clear hSu; go_simp; (try with_reducible rfl)
  try simp only [Act.put, List.setIfInBounds_toArray, List.set_cons_zero, List.set_cons_succ]
  refine tkW 48 (some 93) (v := ?_) rfl ?_ ?_
  rotate_left
  · intro u hSu; have hS1 := blkCell hSu.1; have hS2 := blkCell hSu.2.2.1; have hS3 := blkCell hSu.2.2.2; clear hSu; go_simp; (try with_reducible rfl)
  try simp only [Act.put, List.setIfInBounds_toArray, List.set_cons_zero, List.set_cons_succ]
  refine tkW 49 (some 94) (v := ?_) rfl ?_ ?_
  rotate_left
  · intro u hSu; have hS1 := blkCell hSu.1; have hS2 := blkCell hSu.2.2.1; have hS3 := blkCell hSu.2.2.2; clear hSu; go_simp; (try with_reducible rfl)
  try simp only [Act.put, List.setIfInBounds_toArray, List.set_cons_zero, List.set_cons_succ]
  refine tkW 50 (some 95) (v := ?_) rfl ?_ ?_
  rotate_left
  · intro u hSu; have hS1 := blkCell hSu.1; have hS2 := blkCell hSu.2.2.1; have hS3 := blkCell hSu.2.2.2; clear hSu; go_simp; (try with_reducible rfl)
  try simp only [Act.put, List.setIfInBounds_toArray, List.set_cons_zero, List.set_cons_succ]
  refine tkW 51 (some 96) (v := ?_) rfl ?_ ?_
  rotate_left
  · intro u hSu; have hS1 := blkCell hSu.1; have hS2 := blkCell hSu.2.2.1; have hS3 := blkCell hSu.2.2.2; clear hSu; go_simp; (try with_reducible rfl)
  try simp only [Act.put, List.setIfInBounds_toArray, List.set_cons_zero, List.set_cons_succ]
  refine tkW 52 (some 97) (v := ?_) rfl ?_ ?_
  rotate_left
  · intro u hSu; have hS1 := blkCell hSu.1; have hS2 := blkCell hSu.2.2.1; have hS3 := blkCell hSu.2.2.2; clear hSu; go_simp; (try with_reducible rfl)
  try simp only [Act.put, List.setIfInBounds_toArray, List.set_cons_zero, List.set_cons_succ]
  refine tkW 53 (some 98) (v := ?_) rfl ?_ ?_
  rotate_left
  · intro u hSu; have hS1 := blkCell hSu.1; have hS2 := blkCell hSu.2.2.1; have hS3 := blkCell hSu.2.2.2; clear hSu; go_simp; (try with_reducible rfl)
  try simp only [Act.put, List.setIfInBounds_toArray, List.set_cons_zero, List.set_cons_succ]
  refine tkW 54 (some 99) (v := ?_) rfl ?_ ?_
  rotate_left
  · intro u hSu; have hS1 := blkCell hSu.1; have hS2 := blkCell hSu.2.2.1; have hS3 := blkCell hSu.2.2.2; clear hSu; go_simp; (try with_reducible rfl)
  try simp only [Act.put, List.setIfInBounds_toArray, List.set_cons_zero, List.set_cons_succ]
  refine tkW 55 (some 100) (v := ?_) rfl ?_ ?_
  rotate_left
  · intro u hSu; have hS1 := blkCell hSu.1; have hS2 := blkCell hSu.2.2.1; have hS3 := blkCell hSu.2.2.2; clear hSu; go_simp; (try with_reducible rfl)
  try simp only [Act.put, List.setIfInBounds_toArray, List.set_cons_zero, List.set_cons_succ]
  refine tkW 56 (some 101) (v := ?_) rfl ?_ ?_
  rotate_left
  · intro u hSu; have hS1 := blkCell hSu.1; have hS2 := blkCell hSu.2.2.1; have hS3 := blkCell hSu.2.2.2; clear hSu; go_simp; (try with_reducible rfl)
  try simp only [Act.put, List.setIfInBounds_toArray, List.set_cons_zero, List.set_cons_succ]
  refine tkW 57 (some 102) (v := ?_) rfl ?_ ?_
  rotate_left
  · intro u hSu; have hS1 := blkCell hSu.1; have hS2 := blkCell hSu.2.2.1; have hS3 := blkCell hSu.2.2.2; clear hSu; go_simp; (try with_reducible rfl)
  try simp only [Act.put, List.setIfInBounds_toArray, List.set_cons_zero, List.set_cons_succ]
  refine tkW 58 (some 103) (v := ?_) rfl ?_ ?_
  rotate_left
  · intro u hSu; have hS1 := blkCell hSu.1; have hS2 := blkCell hSu.2.2.1; have hS3 := blkCell hSu.2.2.2; clear hSu; go_simp; (try with_reducible rfl)
  try simp only [Act.put, List.setIfInBounds_toArray, List.set_cons_zero, List.set_cons_succ]
  refine tkW 59 (some 0) (v := ?_) rfl ?_ ?_
  rotate_left
  · intro u hSu; have hS1 := blkCell hSu.1; have hS2 := blkCell hSu.2.2.1; have hS3 := blkCell hSu.2.2.2; clear hSu; go_simp; (try with_reducible rfl)
  try simp only [Act.put, List.setIfInBounds_toArray, List.set_cons_zero]
  refine wpAnyH_done (by kernel_rfl) ?_ _
  clear hHeld hSn
  go_wp2_with fail
  go_ret
  exact ⟨rfl, joinB B7.out (((Below.refl _ W7).drew).trans hb8)⟩
end Go.Proofs.Ythfglhafphfhiaa
/- The walk over package log: Open. -/
namespace Go.Proofs.Ythfglhafphfhiaa
open Go.RowKit
set_option maxRecDepth 100000 in
set_option maxHeartbeats 8000000 in
theorem open_any (d : Lg.Dk) (hw : ∀ b ∈ d.sectors, b.size ≤ 128) (hdl : d.sectors.length ≤ 7000) (A : Option Addr) (c : Nat) (f0 n0 : Int) (hf1 : -9223372036854775808 ≤ f0) (hf2 : f0 ≤ 9223372036854775807) (hn : n0 ≤ 100000) (w : World) (h : DiskR w d A c) :
    Calls Try.prog 14 #[diskV d A c, .int .i64 f0, .int .i64 n0] w (OpenOut (Lg.openD d f0 n0) w) := by
  have HS := Lib.hid (fun W (hb : Below w.heap.size w W) => sectors_any d (fun b hb => Nat.le_trans (hw b hb) (by omega)) A c f0 n0 hf1 hf2 hn W (h.below hb))
  have hlen := @Lg.secs_len d hw n0.toNat f0
  have HO := Lib.hid (fun ps v w' x (hx : Lg.openD d f0 n0 = x) (h1 : ps.map (·.r) = x.2.1) (h2 : OwnL recC 18 31 w.heap.size w' v ps) (h3 : RecsN w.heap.size w' ps) (h4 : Below w.heap.size w w') => show OpenOut (Lg.openD d f0 n0) w (.returned (.tuple #[logV x.1, v, .int .i64 x.2.2])) w' from ⟨ps, v, by rw [hx]; exact h1, by rw [hx], h2, h3, h4⟩)
  have hdef : Lg.openD d f0 n0 = Lg.openD d f0 n0 := rfl
  conv at hdef => rhs; unfold Lg.openD
  have hne := @Lg.secs_fault d n0.toNat f0
  generalize Lg.openD d f0 n0 = o at HO hdef ⊢
  generalize OpenOut o w = Q at HO ⊢
  clear h hw
  cases hs : Lg.secsD d f0 n0.toNat with
  | error e =>
    rw [hs] at HS hdef
    have he := hne hs
    simp only at hdef
    have HDEF := Lib.hid hdef
    have he1 : (e == 0) = false := by simpa using he
    have he2 : (e != 0) = true := by simpa using he
    clear hdef hne hlen hs he hn hf1 hf2 hdl
    go_enter Try.func14, Try.ntmps14
    go_upto_region 1 with fail
    have H0 := Lib.hid (show BxL w.heap.size w [(#[.slice A d.sectors.length c, .int .i64 d.left, .bool d.down], 42), (#[.int .i64 0, .int .i64 0, .int .i64 0, .int .i64 0, .string ⟨#[]⟩], 44)] ((w.alloc (.cells #[.slice A d.sectors.length c, .int .i64 d.left, .bool d.down] 42)).alloc (.cells #[.int .i64 0, .int .i64 0, .int .i64 0, .int .i64 0, .string ⟨#[]⟩] 44)) from ((BxL.nil (Below.refl w.heap.size w)).new (by simp) #[.slice A d.sectors.length c, .int .i64 d.left, .bool d.down] 42).new (by simp) #[.int .i64 0, .int .i64 0, .int .i64 0, .int .i64 0, .string ⟨#[]⟩] 44)
    obtain ⟨W0, hW0⟩ : ∃ W, W = ((w.alloc (.cells #[.slice A d.sectors.length c, .int .i64 d.left, .bool d.down] 42)).alloc (.cells #[.int .i64 0, .int .i64 0, .int .i64 0, .int .i64 0, .string ⟨#[]⟩] 44)) := ⟨_, rfl⟩
    rw [← hW0] at H0 ⊢
    clear hW0
    dsimp only [diskV] at HS
    go_wp2_with (first
      | (with_reducible refine listLoad (by kernel_rfl) 42 (.tmp 3) rfl w.heap.size rfl #[.slice A d.sectors.length c, .int .i64 d.left, .bool d.down] _ H0.out.get0 _ Try.underlying42 (by kernel_rfl) (by kernel_rfl) ?_)
      | (go_at_call 35; (with_reducible refine (HS.out _ H0.out.below).mono ?_); rintro e1 w1 ⟨hb1, rfl⟩; (try dsimp only [secV]); have H1 := Lib.hid (H0.out.step hb1); clear hb1)
      | (with_reducible refine listStore (by kernel_rfl) 44 (.tmp 6) (.tmp 26) rfl (w.heap.size + 1) #[.int .i64 0, .int .i64 0, .int .i64 0, .int .i64 0, .string ⟨#[]⟩] _ _ rfl rfl H1.out.get1 (by kernel_rfl) (by kernel_rfl) (by kernel_rfl) ?_))
    refine bodyPost_ret (v := .tuple #[.agg #[.int .i64 0, .int .i64 0, .int .i64 0, .int .i64 0, .string ⟨#[]⟩], .slice none 0 0, .int .i64 e]) (results_cell3 rfl _ _ rfl (load_whole (setRow_heap _ _ _ _ _ _ H1.out.get1) Try.underlying44 (by kernel_rfl) (by kernel_rfl)) rfl rfl) rfl ?_
    exact HO.out [] _ _ (Lg.noLog, [], e) HDEF.out rfl (ownNil _ _ _ _) (RecsN.nil _ _) ((H1.out.row 1 _ _ rfl).below)
  | ok L =>
    rw [hs] at HS hdef
    simp only at hdef
    have hl2 := hlen hs
    have hLl : L.length ≤ 1000000 := by
      rcases hl2.2 with h0 | h0
      · have := hl2.1; rw [h0] at this; omega
      · have := hl2.1
        have h3 : n0.toNat ≤ 7000 := by omega
        omega
    have HDEF := Lib.hid hdef
    clear hdef hne hlen hs hn hf1 hf2 hdl hl2
    obtain ⟨S, hS⟩ : ∃ S : ByteArray, S = ⟨L.toArray⟩ := ⟨_, rfl⟩
    have hSl : S.data.toList = L := by rw [hS]
    have hSs : S.size = L.length := by rw [← hSl]; simp
    have hSm : S.size ≤ 1000000 := by omega
    have HG := Lib.hid (fun a W => get_rec S a hSm W)
    rw [hSl] at HG
    have HSV : Hid (secV (.ok L) = .tuple #[.string S, .int .i64 0]) := Lib.hid (by rw [hS]; rfl)
    have HSL := Lib.hid hSl
    have HTL := Lib.hid (fun k m (hk : k ≤ S.size) (hm : m ≤ k) => show (⟨((L.take k).drop (k - m)).toArray⟩ : ByteArray) = S.extract (k - m) k from by
      rw [← HSL.out]
      apply ByteArray.ext
      rw [ByteArray.data_extract]
      apply Array.toList_inj.1
      rw [Array.toList_extract, List.extract_eq_take_drop, List.drop_take])
    rw [← hSs] at HDEF
    clear hS hSl hLl hSs
    go_enter Try.func14, Try.ntmps14
    go_upto_region 1 with fail
    have H0 := Lib.hid (show BxL w.heap.size w [(#[.slice A d.sectors.length c, .int .i64 d.left, .bool d.down], 42), (#[.int .i64 0, .int .i64 0, .int .i64 0, .int .i64 0, .string ⟨#[]⟩], 44)] ((w.alloc (.cells #[.slice A d.sectors.length c, .int .i64 d.left, .bool d.down] 42)).alloc (.cells #[.int .i64 0, .int .i64 0, .int .i64 0, .int .i64 0, .string ⟨#[]⟩] 44)) from ((BxL.nil (Below.refl w.heap.size w)).new (by simp) #[.slice A d.sectors.length c, .int .i64 d.left, .bool d.down] 42).new (by simp) #[.int .i64 0, .int .i64 0, .int .i64 0, .int .i64 0, .string ⟨#[]⟩] 44)
    obtain ⟨W0, hW0⟩ : ∃ W, W = ((w.alloc (.cells #[.slice A d.sectors.length c, .int .i64 d.left, .bool d.down] 42)).alloc (.cells #[.int .i64 0, .int .i64 0, .int .i64 0, .int .i64 0, .string ⟨#[]⟩] 44)) := ⟨_, rfl⟩
    rw [← hW0] at H0 ⊢
    clear hW0
    dsimp only [diskV] at HS
    go_upto_block 0 with (first
      | (with_reducible refine listLoad (by kernel_rfl) 42 (.tmp 3) rfl w.heap.size rfl #[.slice A d.sectors.length c, .int .i64 d.left, .bool d.down] _ H0.out.get0 _ Try.underlying42 (by kernel_rfl) (by kernel_rfl) ?_)
      | (go_at_call 35; (with_reducible refine (HS.out _ H0.out.below).mono ?_); rintro e1 w1 ⟨hb1, rfl⟩; rw [HSV.out]; have H1 := Lib.hid (H0.out.step hb1); clear hb1))
    clear H0 HS HSV
    go_cut [11, 12] (fun v a wc => ∃ (ps : List PRec) (k : Nat), a = .int .i64 (k : Int) ∧ k ≤ S.size ∧ Lg.openL L (S.size + 1) 0 = (ps.map (·.r), k) ∧ BxL w.heap.size w [(#[.slice A d.sectors.length c, .int .i64 d.left, .bool d.down], 42), (#[.int .i64 0, .int .i64 0, .int .i64 0, .int .i64 0, .string ⟨#[]⟩], 44)] wc ∧ OwnL recC 18 31 (w.heap.size + 2) wc v ps ∧ RecsN (w.heap.size + 2) wc ps)
    case first =>
      go_wp2_with fail
      go_loopw [11, 12] (fun v a wr => ∃ (ps : List PRec) (k f : Nat), a = .int .i64 (k : Int) ∧ k ≤ S.size ∧ S.size + 1 ≤ f + k ∧ ps.length ≤ k ∧ Lg.openL L (S.size + 1) 0 = (ps.map (·.r) ++ (Lg.openL L f k).1, (Lg.openL L f k).2) ∧ BxL w.heap.size w [(#[.slice A d.sectors.length c, .int .i64 d.left, .bool d.down], 42), (#[.int .i64 0, .int .i64 0, .int .i64 0, .int .i64 0, .string ⟨#[]⟩], 44)] wr ∧ OwnL recC 18 31 (w.heap.size + 2) wr v ps ∧ RecsN (w.heap.size + 2) wr ps) (fun _ a _ => S.size - (intOf a).toNat)
      case atStart => exact ⟨[], 0, S.size + 1, rfl, Nat.zero_le _, Nat.le_refl _, Nat.le_refl _, rfl, H1.out, ownNil _ _ _ _, RecsN.nil _ _⟩
      case round =>
        obtain ⟨ps, k, f, rfl, hk, hf, hpk, hop, hbx, hown, hrs⟩ := hrel
        obtain ⟨f, rfl⟩ : ∃ g, f = g + 1 := ⟨f - 1, by omega⟩
        have HOP := Lib.hid hop
        have HB := Lib.hid hbx
        have HRS := Lib.hid hrs
        obtain ⟨A8, c8, rfl⟩ := ownLen hown
        have HOW := Lib.hid hown
        clear hop hbx hrs hown H1
        have hGk := HG.out k
        have hGN := @Lg.openL_none L f k
        have hGS := @Lg.openL_stop L f k
        have hGG := @Lg.openL_go L f k
        have hGI := @Lg.getO_some L k
        rw [show L.length = S.size by rw [← HSL.out]; simp] at hGI
        cases hg : Lg.getO L k with
        | none =>
          rw [hg] at hGk
          have HGk := Lib.hid hGk
          have HX := Lib.hid (HOP.out.trans (by rw [hGN hg, List.append_nil]))
          clear hGk hGN hGS hGG hGI hg
          go_wp2_with (first
            | (go_at_call 36; (with_reducible refine (HGk.out _).mono ?_); rintro e w2 ⟨hb2, kk, hkk, rfl⟩; have he1 : (kk == 0) = false := (by simpa using hkk); have he2 : (kk != 0) = true := (by simpa using hkk); clear hkk)
            | (with_reducible refine wpList_store_new rfl 31 (.tmp 13) (.tmp 32) rfl #[.int .i64 0, .int .i64 0, .int .i64 0, .int .i64 0, .int .i64 0, .int .i64 0, .int .i64 0, .int .i64 0, .int .i64 0, .string ⟨#[]⟩, .string ⟨#[]⟩, .int .i64 0, .int .i64 0, .string ⟨#[]⟩, .int .i64 0, .int .i64 0, .slice none 0 0, .slice none 0 0] _ _ rfl (by kernel_rfl) (by kernel_rfl) (by kernel_rfl) (by kernel_rfl) ?_))
          go_meet
          case rel => exact ⟨ps, k, rfl, hk, HX.out, HB.out.step (pastAlloc hb2), ownBelow HOW.out (pastAlloc hb2), HRS.out.below (pastAlloc hb2)⟩
        | some rb =>
          obtain ⟨r, b⟩ := rb
          rw [hg] at hGk
          have HGk := Lib.hid hGk
          obtain ⟨_, hb8, hbs⟩ := hGI hg
          by_cases hl : r.lsn = (k : Int) + 1
          · have HX := Lib.hid (HOP.out.trans (by rw [hGG hg hl]))
            clear hGk hGN hGS hGG hGI hg
            obtain ⟨lsn, prev, txn, kind, page, next, nu, ⟨ok, os, oo, on⟩, how, root, ⟨ek, ep, es⟩, ts, ds⟩ := r
            simp only at hl
            subst hl
            have hwk : IntKind.i64.wrap ((k : Int) + 1) = (k : Int) + 1 := IntWalk.i64_in _ (by omega)
            have hself : (((k : Int) + 1) != ((k : Int) + 1)) = false := by simp
            go_upto_region 8 with (first
              | (go_at_call 36; (with_reducible refine (HGk.out _).mono ?_); rintro e w2 ⟨hb2, A1, c1, D1, d1, rfl, hrr⟩; (try dsimp only [recV, recA]); have hx2 := blkCell (heap_alloc_new w2 (.cells #[.int .i64 ((k : Int) + 1), .int .i64 prev, .int .i64 txn, .int .i64 kind, .int .i64 page, .int .i64 next, .int .i64 nu, .int .i64 ok, .int .i64 os, .string oo, .string on, .int .i64 how, .int .i64 root, .string ek, .int .i64 ep, .int .i64 es, .slice A1 ts.length c1, .slice D1 ds.length d1] 31)); simp at hx2)
              | (with_reducible refine wpList_store_new rfl 31 (.tmp 13) (.tmp 32) rfl #[.int .i64 ((k : Int) + 1), .int .i64 prev, .int .i64 txn, .int .i64 kind, .int .i64 page, .int .i64 next, .int .i64 nu, .int .i64 ok, .int .i64 os, .string oo, .string on, .int .i64 how, .int .i64 root, .string ek, .int .i64 ep, .int .i64 es, .slice A1 ts.length c1, .slice D1 ds.length d1] _ _ rfl (by kernel_rfl) (by kernel_rfl) (by kernel_rfl) (by kernel_rfl) ?_))
            have HX2 := Lib.hid (heap_alloc_new w2 (.cells #[.int .i64 ((k : Int) + 1), .int .i64 prev, .int .i64 txn, .int .i64 kind, .int .i64 page, .int .i64 next, .int .i64 nu, .int .i64 ok, .int .i64 os, .string oo, .string on, .int .i64 how, .int .i64 root, .string ek, .int .i64 ep, .int .i64 es, .slice A1 ts.length c1, .slice D1 ds.length d1] 31))
            have HB2 := Lib.hid (HB.out.step (pastAlloc (o := .cells #[.int .i64 ((k : Int) + 1), .int .i64 prev, .int .i64 txn, .int .i64 kind, .int .i64 page, .int .i64 next, .int .i64 nu, .int .i64 ok, .int .i64 os, .string oo, .string on, .int .i64 how, .int .i64 root, .string ek, .int .i64 ep, .int .i64 es, .slice A1 ts.length c1, .slice D1 ds.length d1] 31) hb2))
            have HO2 := Lib.hid (ownBelow HOW.out (pastAlloc (o := .cells #[.int .i64 ((k : Int) + 1), .int .i64 prev, .int .i64 txn, .int .i64 kind, .int .i64 page, .int .i64 next, .int .i64 nu, .int .i64 ok, .int .i64 os, .string oo, .string on, .int .i64 how, .int .i64 root, .string ek, .int .i64 ep, .int .i64 es, .slice A1 ts.length c1, .slice D1 ds.length d1] 31) hb2))
            have HR2 := Lib.hid ((HRS.out.below (pastAlloc (o := .cells #[.int .i64 ((k : Int) + 1), .int .i64 prev, .int .i64 txn, .int .i64 kind, .int .i64 page, .int .i64 next, .int .i64 nu, .int .i64 ok, .int .i64 os, .string oo, .string on, .int .i64 how, .int .i64 root, .string ek, .int .i64 ep, .int .i64 es, .slice A1 ts.length c1, .slice D1 ds.length d1] 31) hb2)).push (p := ⟨⟨(k : Int) + 1, prev, txn, kind, page, next, nu, ⟨ok, os, oo, on⟩, how, root, ⟨ek, ep, es⟩, ts, ds⟩, A1, c1, D1, d1⟩) ((hrr.mono (by have h1 := HB.out.lt (i := 1) (by simp); omega)).below (allocB w2 _)))
            obtain ⟨g, hge⟩ : ∃ g, g = w2.heap.size := ⟨_, rfl⟩
            obtain ⟨w3, hw3⟩ : ∃ W, W = w2.alloc (.cells #[.int .i64 ((k : Int) + 1), .int .i64 prev, .int .i64 txn, .int .i64 kind, .int .i64 page, .int .i64 next, .int .i64 nu, .int .i64 ok, .int .i64 os, .string oo, .string on, .int .i64 how, .int .i64 root, .string ek, .int .i64 ep, .int .i64 es, .slice A1 ts.length c1, .slice D1 ds.length d1] 31) := ⟨_, rfl⟩
            rw [← hge, ← hw3] at HX2
            rw [← hw3] at HB2 HO2 HR2
            try rw [← hge]
            try rw [← hw3]
            clear hge hw3 hx2 hb2 hrr HOW HRS HB HGk hself
            have hll : ps.length + 1 ≤ 1048576 := by omega
            go_wp2_with (first
              | (with_reducible refine listLoad (by kernel_rfl) 31 (.tmp 13) rfl g rfl #[.int .i64 ((k : Int) + 1), .int .i64 prev, .int .i64 txn, .int .i64 kind, .int .i64 page, .int .i64 next, .int .i64 nu, .int .i64 ok, .int .i64 os, .string oo, .string on, .int .i64 how, .int .i64 root, .string ek, .int .i64 ep, .int .i64 es, .slice A1 ts.length c1, .slice D1 ds.length d1] _ HX2.out _ Try.underlying31 (by kernel_rfl) (by kernel_rfl) ?_)
              | (at_builtin; refine wpList_push (by kernel_rfl) (.tmp 44) (.tmp 46) 58 31 Try.underlying58 info_rec2 rfl (by omega) (by omega) rfl (w.heap.size + 2) _ ps.length (ps.flatMap recC) rfl (ownBelow HO2.out (allocB _ _)) w3.heap.size (recC ⟨⟨(k : Int) + 1, prev, txn, kind, page, next, nu, ⟨ok, os, oo, on⟩, how, root, ⟨ek, ep, es⟩, ts, ds⟩, A1, c1, D1, d1⟩) 31 rfl (heap_alloc_new w3 _) rfl (recC_one _) hll (by have := HB2.out.lt (i := 1) (by simp); simp; omega) ?_; intro v7 w7 ho hg hb; have hR7 := fun q hq => ((HR2.out.below (allocB w3 (.cells #[.int .i64 ((k : Int) + 1), .int .i64 prev, .int .i64 txn, .int .i64 kind, .int .i64 page, .int .i64 next, .int .i64 nu, .int .i64 ok, .int .i64 os, .string oo, .string on, .int .i64 how, .int .i64 root, .string ek, .int .i64 ep, .int .i64 es, .slice A1 ts.length c1, .slice D1 ds.length d1] 31))) q hq).grown (ownBelow HO2.out (allocB w3 (.cells #[.int .i64 ((k : Int) + 1), .int .i64 prev, .int .i64 txn, .int .i64 kind, .int .i64 page, .int .i64 next, .int .i64 nu, .int .i64 ok, .int .i64 os, .string oo, .string on, .int .i64 how, .int .i64 root, .string ek, .int .i64 ep, .int .i64 es, .slice A1 ts.length c1, .slice D1 ds.length d1] 31))) (by decide) (by decide) hg; have HB7 := Lib.hid ((HB2.out.step (allocB w3 (.cells #[.int .i64 ((k : Int) + 1), .int .i64 prev, .int .i64 txn, .int .i64 kind, .int .i64 page, .int .i64 next, .int .i64 nu, .int .i64 ok, .int .i64 os, .string oo, .string on, .int .i64 how, .int .i64 root, .string ek, .int .i64 ep, .int .i64 es, .slice A1 ts.length c1, .slice D1 ds.length d1] 31))).under (M := w.heap.size + 2) (Nat.le_refl _) hb); have HO7 := Lib.hid (OwnL.push (enc := recC) ho); have HR7 := Lib.hid hR7; clear ho hg hb hR7))
            go_roundw
            case rel => exact ⟨_, b, f, rfl, hbs, by omega, by rw [List.length_append, List.length_singleton]; omega, by rw [HX.out, List.map_append, List.append_assoc]; rfl, HB7.out, HO7.out, HR7.out⟩
            case measure => simp [intOf]; omega
          · have HX := Lib.hid (HOP.out.trans (by rw [hGS hg hl, List.append_nil]))
            clear hGk hGN hGS hGG hGI hg
            obtain ⟨lsn, prev, txn, kind, page, next, nu, ⟨ok, os, oo, on⟩, how, root, ⟨ek, ep, es⟩, ts, ds⟩ := r
            simp only at hl
            have hwk : IntKind.i64.wrap ((k : Int) + 1) = (k : Int) + 1 := IntWalk.i64_in _ (by omega)
            have hl1 : (lsn == ((k : Int) + 1)) = false := by simpa using hl
            have hl2 : (lsn != ((k : Int) + 1)) = true := by simpa using hl
            clear hl
            go_wp2_with (first
              | (go_at_call 36; (with_reducible refine (HGk.out _).mono ?_); rintro e w2 ⟨hb2, A1, c1, D1, d1, rfl, hrr⟩; (try dsimp only [recV, recA]); have hx2 := blkCell (heap_alloc_new w2 (.cells #[.int .i64 lsn, .int .i64 prev, .int .i64 txn, .int .i64 kind, .int .i64 page, .int .i64 next, .int .i64 nu, .int .i64 ok, .int .i64 os, .string oo, .string on, .int .i64 how, .int .i64 root, .string ek, .int .i64 ep, .int .i64 es, .slice A1 ts.length c1, .slice D1 ds.length d1] 31)); simp at hx2)
              | (with_reducible refine wpList_store_new rfl 31 (.tmp 13) (.tmp 32) rfl #[.int .i64 lsn, .int .i64 prev, .int .i64 txn, .int .i64 kind, .int .i64 page, .int .i64 next, .int .i64 nu, .int .i64 ok, .int .i64 os, .string oo, .string on, .int .i64 how, .int .i64 root, .string ek, .int .i64 ep, .int .i64 es, .slice A1 ts.length c1, .slice D1 ds.length d1] _ _ rfl (by kernel_rfl) (by kernel_rfl) (by kernel_rfl) (by kernel_rfl) ?_))
            go_meet
            case rel => exact ⟨ps, k, rfl, hk, HX.out, HB.out.step (pastAlloc hb2), ownBelow HOW.out (pastAlloc hb2), HRS.out.below (pastAlloc hb2)⟩
    case rest =>
      obtain ⟨ps, k, rfl, hk, hop, hbx, hown, hrs⟩ := hcut
      obtain ⟨wb, rfl⟩ : ∃ wm : World, wm = wc := ⟨_, rfl⟩
      obtain ⟨A8, c8, rfl⟩ := ownLen hown
      have HB2 := Lib.hid hbx
      have HO2 := Lib.hid hown
      have HR2 := Lib.hid hrs
      obtain ⟨m, hm⟩ : ∃ m : Nat, m = k % 128 := ⟨_, rfl⟩
      have hmI : (k : Int) % 128 = (m : Int) := by omega
      have hwm : IntKind.i64.wrap ((k : Int) - (m : Int)) = (k : Int) - (m : Int) := IntWalk.i64_in _ (by omega)
      have hm1 : (0 : Int) ≤ (k : Int) - (m : Int) := by omega
      have hm2 : (k : Int) - (m : Int) ≤ (k : Int) := by omega
      have hm3 : (k : Int) ≤ (S.size : Int) := by omega
      have hm4 : ((k : Int) - (m : Int)).toNat = k - m := by omega
      have HFIN := Lib.hid (show o = (⟨f0, n0, (k : Int), (k : Int), S.extract (k - m) k⟩, ps.map (·.r), 0) from by
        rw [HDEF.out, hop]
        simp only
        rw [← hm, HTL.out k m hk (by omega)])
      clear hop hbx hown hrs H1 HDEF HTL HG HSL hm
      have HNW := Lib.hid (fun W => lnew_any f0 n0 W)
      dsimp only [logV] at HNW
      go_upto_region 11 with (first
        | (go_at_call 29; (with_reducible refine (HNW.out _).mono ?_); rintro e w4 ⟨rfl, hb4⟩)
        | (with_reducible refine wpList_store_new rfl 44 (.tmp 16) (.tmp 51) rfl #[.int .i64 f0, .int .i64 n0, .int .i64 0, .int .i64 0, .string ⟨#[]⟩] _ _ rfl (by kernel_rfl) (by kernel_rfl) (by kernel_rfl) (by kernel_rfl) ?_))
      have HL5 := Lib.hid (heap_alloc_new w4 (.cells #[.int .i64 f0, .int .i64 n0, .int .i64 0, .int .i64 0, .string ⟨#[]⟩] 44))
      have HB5 := Lib.hid (HB2.out.step (pastAlloc (o := .cells #[.int .i64 f0, .int .i64 n0, .int .i64 0, .int .i64 0, .string ⟨#[]⟩] 44) hb4))
      have HO5 := Lib.hid (ownBelow HO2.out (pastAlloc (o := .cells #[.int .i64 f0, .int .i64 n0, .int .i64 0, .int .i64 0, .string ⟨#[]⟩] 44) hb4))
      have HR5 := Lib.hid (HR2.out.below (pastAlloc (o := .cells #[.int .i64 f0, .int .i64 n0, .int .i64 0, .int .i64 0, .string ⟨#[]⟩] 44) hb4))
      have hg4 : w.heap.size + 2 ≤ w4.heap.size := by have h1 := HB2.out.lt (i := 1) (by simp); have := hb4.size; omega
      obtain ⟨g, hge⟩ : ∃ g, g = w4.heap.size := ⟨_, rfl⟩
      obtain ⟨w5, hw5⟩ : ∃ W, W = w4.alloc (.cells #[.int .i64 f0, .int .i64 n0, .int .i64 0, .int .i64 0, .string ⟨#[]⟩] 44) := ⟨_, rfl⟩
      rw [← hge, ← hw5] at HL5
      rw [← hw5] at HB5 HO5 HR5 ⊢
      rw [← hge] at hg4 ⊢
      clear hge hw5 hb4 HB2 HO2 HR2 HNW
      have hcl := blkCell HL5.out
      have hzl := blkFrozen HL5.out
      go_upto_region 12 with fail
      have HL6 := Lib.hid (show ((w5.setCell ⟨g, 2, none⟩ (.int .i64 (k : Int))).setCell ⟨g, 3, none⟩ (.int .i64 (k : Int))).heap[g]? = some (.cells #[.int .i64 f0, .int .i64 n0, .int .i64 (k : Int), .int .i64 (k : Int), .string ⟨#[]⟩] 44 (0, 0)) from by have h := blkSet 3 (blkSet 2 HL5.out (.int .i64 (k : Int))) (.int .i64 (k : Int)); simpa using h)
      have hcl6 := blkCell HL6.out
      have hzl6 := blkFrozen HL6.out
      clear hcl hzl
      go_upto_region 13 with fail
      have HL7 := Lib.hid (show (((w5.setCell ⟨g, 2, none⟩ (.int .i64 (k : Int))).setCell ⟨g, 3, none⟩ (.int .i64 (k : Int))).setCell ⟨g, 4, none⟩ (.string (S.extract (k - m) k))).heap[g]? = some (.cells #[.int .i64 f0, .int .i64 n0, .int .i64 (k : Int), .int .i64 (k : Int), .string (S.extract (k - m) k)] 44 (0, 0)) from by have h := blkSet 4 HL6.out (.string (S.extract (k - m) k)); simpa using h)
      have HAP := Lib.hid ((((Apart.refl g (g + 1) w5).cell g 2 (.int .i64 (k : Int)) (Nat.le_refl _) (Nat.lt_succ_self _)).cell g 3 (.int .i64 (k : Int)) (Nat.le_refl _) (Nat.lt_succ_self _)).cell g 4 (.string (S.extract (k - m) k)) (Nat.le_refl _) (Nat.lt_succ_self _))
      have HBE := Lib.hid (show Below g w5 (((w5.setCell ⟨g, 2, none⟩ (.int .i64 (k : Int))).setCell ⟨g, 3, none⟩ (.int .i64 (k : Int))).setCell ⟨g, 4, none⟩ (.string (S.extract (k - m) k))) from (((Below.refl g w5).setCell (p := ⟨g, 2, none⟩) (Nat.le_refl _) _).setCell (p := ⟨g, 3, none⟩) (Nat.le_refl _) _).setCell (p := ⟨g, 4, none⟩) (Nat.le_refl _) _)
      have HB7 := Lib.hid (HB5.out.under (M := g) (by show w.heap.size + 2 ≤ g; exact hg4) HBE.out)
      have HO7 := Lib.hid (ownSetOther HO5.out HL5.out (by decide) HAP.out)
      have HR7 := Lib.hid (show RecsN (w.heap.size + 2) _ ps from fun p hp => (HR5.out p hp).turn HAP.out.size (fun j cs T fr hj hjc hT => HAP.out.block j (heapLt hjc) (by
        rcases Nat.lt_trichotomy j g with h1 | h1 | h1
        · exact .inl h1
        · exfalso
          subst h1
          rw [HL5.out] at hjc
          injection hjc with hjc
          injection hjc with _ hjc
          rcases hT with h3 | h3
          · rw [h3] at hjc; exact absurd hjc (by decide)
          · rw [h3] at hjc; exact absurd hjc (by decide)
        · exact .inr h1)))
      generalize (((w5.setCell ⟨g, 2, none⟩ (.int .i64 (k : Int))).setCell ⟨g, 3, none⟩ (.int .i64 (k : Int))).setCell ⟨g, 4, none⟩ (.string (S.extract (k - m) k))) = w7 at HL7 HB7 HO7 HR7 ⊢
      clear HL5 HL6 HAP HBE HB5 HO5 HR5 hcl6 hzl6
      go_wp2_with (first
        | (with_reducible refine listLoad (by kernel_rfl) 44 (.tmp 16) rfl g rfl #[.int .i64 f0, .int .i64 n0, .int .i64 (k : Int), .int .i64 (k : Int), .string (S.extract (k - m) k)] _ HL7.out _ Try.underlying44 (by kernel_rfl) (by kernel_rfl) ?_)
        | (with_reducible refine listStore (by kernel_rfl) 44 (.tmp 6) (.tmp 64) rfl (w.heap.size + 1) #[.int .i64 f0, .int .i64 n0, .int .i64 (k : Int), .int .i64 (k : Int), .string (S.extract (k - m) k)] _ _ rfl rfl HB7.out.get1 (by kernel_rfl) (by kernel_rfl) (by kernel_rfl) ?_))
      refine bodyPost_ret (v := .tuple #[.agg #[.int .i64 f0, .int .i64 n0, .int .i64 (k : Int), .int .i64 (k : Int), .string (S.extract (k - m) k)], .slice A8 ps.length c8, .int .i64 0]) (results_cell3 rfl _ _ rfl (load_whole (setRow_heap _ _ _ _ _ _ HB7.out.get1) Try.underlying44 (by kernel_rfl) (by kernel_rfl)) rfl rfl) rfl ?_
      exact HO.out ps _ _ (⟨f0, n0, (k : Int), (k : Int), S.extract (k - m) k⟩, ps.map (·.r), 0) HFIN.out rfl (ownMono (ownRowOff HO7.out _ _ (by omega)) (by omega)) (fun p hp => ((HR7.out p hp).row _ _ (by omega)).mono (by omega)) ((HB7.out.row 1 _ _ rfl).below)
end Go.Proofs.Ythfglhafphfhiaa
/- Stores of deeds: bounds; deeds in a slice. -/
namespace Tx
open Rc Lg
theorem do_len (s : St) (d : Deed) : (doS s d).1.txns.length ≤ s.txns.length + 2 := by
  have o := fun n b r => ownS_len s n b r
  unfold doS
  split
  · unfold beginS
    split
    · exact Nat.le_trans (putS_len _ _) (by omega)
    · exact Nat.le_add_right _ 2
  split
  · exact Nat.le_trans (o _ _ _) (by omega)
  split
  · have h1 := o d.txn true (bare 5 0 0 0)
    unfold commitS
    split
    · have h2 : (forceS (ownS s d.txn true (bare 5 0 0 0)).1).1.txns.length ≤ s.txns.length + 1 := h1
      split
      · unfold closeS
        split
        · exact Nat.le_trans (putS_len _ _) (by omega)
        · exact Nat.le_trans (noteT_len _ _) (by omega)
      · exact Nat.le_trans h2 (by omega)
    · exact Nat.le_trans h1 (by omega)
  split
  · exact Nat.le_trans (o _ _ _) (by omega)
  split
  · exact Nat.le_trans (o _ _ _) (by omega)
  split
  · exact Nat.le_add_right _ 2
  · exact Nat.le_add_right _ 2
theorem ownS_next (s : St) (n : Int) (b : Bool) (r : Rec) : (ownS s n b r).1.next = s.next := by
  unfold ownS
  split
  · rfl
  · split
    · rfl
    · exact putS_next _ _
theorem do_next (s : St) (d : Deed) : s.next ≤ (doS s d).1.next ∧ (doS s d).1.next ≤ s.next + 1 := by
  have key : ∀ x : Int, x = s.next → s.next ≤ x ∧ x ≤ s.next + 1 := fun x h => by omega
  unfold doS
  split
  · unfold beginS
    split
    · exact ⟨by show s.next ≤ s.next + 1; omega, by show s.next + 1 ≤ s.next + 1; omega⟩
    · exact key _ rfl
  split
  · exact key _ (ownS_next _ _ _ _)
  split
  · refine key _ ?_
    unfold commitS
    split
    · have h2 : (forceS (ownS s d.txn true (bare 5 0 0 0)).1).1.next = s.next := ownS_next _ _ _ _
      split
      · unfold closeS
        split
        · exact (putS_next _ _).trans h2
        · exact h2
      · exact h2
    · exact ownS_next _ _ _ _
  split
  · exact key _ (ownS_next _ _ _ _)
  split
  · exact key _ (ownS_next _ _ _ _)
  split
  · exact key _ rfl
  · exact key _ rfl
end Tx
namespace Go.Proofs.Ythfglhafphfhiaa
open Go.RowKit
def deC (d : Tx.Deed) : List Value := [.int .i64 d.kind, .int .i64 d.txn, .int .i64 d.n]
theorem deC_len (d : Tx.Deed) : (deC d).length = 3 := rfl
end Go.Proofs.Ythfglhafphfhiaa
/- Arguments that are rows of deeds: opened. -/
namespace Go.Proofs.Ythfglhafphfhiaa
open Go.ChangeShapes Go.WideShapes Go.ChangeAt Go.RowKit
theorem cellsDe : Try.prog.cellsOf 52 = 3 := by kernel_rfl
theorem bytesDe : 1 ≤ Try.prog.bytesOf 52 := by decide +kernel
theorem deFields : ∃ f0 f1 f2 : Field, Try.prog.underlying 52 = some (.struct #[f0, f1, f2]) ∧ (f0.offset = 0 ∧ f1.offset = 1 ∧ f2.offset = 2) ∧ f0.type = 3 ∧ f1.type = 3 ∧ f2.type = 3 := ⟨_, _, _, Try.underlying52, ⟨rfl, rfl, rfl⟩, rfl, rfl, rfl⟩
instance : Inhabited Tx.Deed := ⟨⟨0, 0, 0⟩⟩
section
variable {H : Type} {enc : TypeId × Value → H} {w : World} {base : Nat} {spare : Nat → Bool} {held : Bool}
theorem trod_de (fuel : Nat) (cs : List Value) (x : DataW H × List MemPlace) (h : DataW.trod enc Try.prog w base spare held fuel 52 cs = some x) (_ : Light 52 x.1) : ∃ o : Tx.Deed, cs = deC o ∧ o.n ≤ 9223372036854775807 := by
  obtain ⟨f0, f1, f2, hu, ⟨o0, o1, o2⟩, t0, t1, t2⟩ := deFields
  obtain ⟨n, hl, hf⟩ := trod_field hu h
  rw [cellsDe] at hl
  obtain ⟨c0, c1, c2, rfl⟩ := list3' hl
  obtain ⟨y0, h0, gh0⟩ := hf 0 f0 rfl
  obtain ⟨y1, h1, gh1⟩ := hf 1 f1 rfl
  obtain ⟨y2, h2, gh2⟩ := hf 2 f2 rfl
  rw [o0, t0, cellsI] at h0
  rw [o1, t1, cellsI] at h1
  rw [o2, t2, cellsI] at h2
  obtain ⟨i0, e0, _, _⟩ := DataW.trod_int Try.underlying3 h0
  obtain ⟨i1, e1, _, _⟩ := DataW.trod_int Try.underlying3 h1
  obtain ⟨i2, e2, _, w2⟩ := DataW.trod_int Try.underlying3 h2
  simp at e0 e1 e2
  exact ⟨⟨i0, i1, i2⟩, by rw [e0, e1, e2]; rfl, (bnd w2).2⟩
set_option maxRecDepth 100000 in
/-- A row of deeds, opened. -/
theorem open_deeds {r : Reach} {b0 : Nat} {v : Value} {d : DataW H} {ps : List MemPlace} (hval : Value.okWide Try.prog w r b0 36 v) (hd : DataW.Trod enc Try.prog w base spare held 36 v d ps) (hL : Light 36 d) :
    ∃ (A : Option Addr) (c : Nat) (l : List Tx.Deed), v = .slice A l.length c ∧ Reads w A c l.length (l.flatMap deC) ∧ (∀ d ∈ l, d.n ≤ 9223372036854775807) ∧ l.length ≤ 140737488355328 := by
  obtain ⟨a, len, cap, rfl⟩ := okWide_slice Try.underlying36 hval
  obtain ⟨fuel, hf⟩ := hd
  obtain ⟨A, c, l, h1, h2, h3, h4⟩ := trod_row (en := deC) (k := 3) deC_len (by omega) Try.underlying36 cellsDe bytesDe (Q := fun d => d.n ≤ 9223372036854775807) trod_de hL hf
  exact ⟨A, c, l, by simpa [Value.cells] using h1, h2, h3, h4⟩
end
end Go.Proofs.Ythfglhafphfhiaa
/- Rows of numbers; the walk over the statement's among; what TxnSafe keeps in memory. -/
namespace Tx
theorem openL_len (s : List UInt8) : ∀ f a, (Lg.openL s f a).1.length ≤ f := by
  intro f
  induction f with
  | zero => intro a; unfold Lg.openL; simp
  | succ f ih =>
    intro a
    cases h : Lg.getO s a with
    | none => rw [Lg.openL_none h]; simp
    | some rb =>
      obtain ⟨r, b⟩ := rb
      by_cases hl : r.lsn = (a : Int) + 1
      · rw [Lg.openL_go h hl]; simpa using ih b
      · rw [Lg.openL_stop h hl]; simp
theorem openD_len {d : Lg.Dk} (hw : ∀ x ∈ d.sectors, x.size ≤ 128) (a n : Int) (hn : n ≤ 1000) : (Lg.openD d a n).2.1.length ≤ 200000 := by
  unfold Lg.openD
  cases h : Lg.secsD d a n.toNat with
  | error e => simp
  | ok l =>
    have h1 := (Lg.secs_len hw n.toNat h).1
    have h2 := openL_len l (l.length + 1) 0
    simp only
    omega
/-- The numbers of a list's commits. -/
def comm (L : List Rc.Rec) : List Int := (L.filter (fun r => r.kind == 5)).map (·.txn)
theorem comm_len (L : List Rc.Rec) : (comm L).length ≤ L.length := by unfold comm; rw [List.length_map]; exact List.length_filter_le _ _
theorem comm_take {L : List Rc.Rec} {k : Nat} (hk : k < L.length) : comm (L.take (k + 1)) = if L[k].kind = 5 then comm (L.take k) ++ [L[k].txn] else comm (L.take k) := by
  unfold comm
  rw [List.take_add_one, List.getElem?_eq_getElem hk, Option.toList_some, List.filter_append, List.map_append]
  by_cases h : L[k].kind = 5
  · rw [if_pos h]; simp [h]
  · rw [if_neg h]; simp [h]
theorem any_take (x : Int) (ys : List Int) (k : Nat) (hk : k < ys.length) : decide (x ∈ ys.take (k + 1)) = (decide (x ∈ ys.take k) || (x == ys[k])) := by
  rw [List.take_add_one, List.getElem?_eq_getElem hk, Option.toList_some, Bool.eq_iff_iff]
  simp only [decide_eq_true_eq, List.mem_append, List.mem_singleton, Bool.or_eq_true, beq_iff_eq]
theorem comm_has {L : List Rc.Rec} {x : Int} (h : Has L x) : x ∈ comm L := by
  obtain ⟨r, h1, h2, h3⟩ := h
  unfold comm
  rw [List.mem_map]
  exact ⟨r, List.mem_filter.2 ⟨h1, by simpa using h2⟩, h3⟩
theorem comm_in {L : List Rc.Rec} {l : List Int} (h : ∀ r ∈ L, r.kind = 5 → r.txn ∈ l) : ∀ x ∈ comm L, x ∈ l := by
  intro x hx
  unfold comm at hx
  obtain ⟨r, h1, rfl⟩ := List.mem_map.1 hx
  obtain ⟨h2, h3⟩ := List.mem_filter.1 h1
  exact h r h2 (by simpa using h3)
theorem safe_logB {N : Nat} {s : St} {l1 l2 : List Int} (h : Safe N s l1 l2) (hN : N ≤ 1000) : LogB s := by
  obtain ⟨_, _, _, d0, r1, r2, h4, _⟩ := h
  exact logB_of h4 hN
end Tx
namespace Go.Proofs.Ythfglhafphfhiaa
open Go.RowKit
def iC (n : Int) : List Value := [.int .i64 n]
theorem iC_len (n : Int) : (iC n).length = 1 := rfl
theorem info_i : (Try.prog.info? 3).map (fun i => (i.zero, i.size, i.bytes)) = some (some (.int .i64 0), 1, 8) := by kernel_rfl
/-- append of one element, and where the new row lies. -/
theorem wpList_pushA {P : Program} {ops : Array Oper} {rest : List Oper} {o : Oper} {a : Act} {Q : Exit → Act → World → Prop} {w : World} (hgd : o.guard = none) (s x : Operand) (t e : TypeId) {z : Value} {size bytes : Nat}
    (ht : P.underlying t = some (.slice e)) (hi : (P.info? e).map (fun i => (i.zero, i.size, i.bytes)) = some (some z, size, bytes)) (hzc : z.cells.size = size) (hpos : 0 < size) (hby : bytes ≤ 1024)
    (ho : o.op = .call { callee := .builtin .append, args := #[s, x], argTypes := #[t, t] })
    (B : Nat) (v : Value) (n : Nat) (xs : List Value) (hs : a.eval s = v) (hown : w.ownsRow B e size v n xs) (g : Nat) (cs : List Value) (T : TypeId) (hx : a.eval x = .slice (some ⟨g, 0, none⟩) 1 1) (hg : w.heap[g]? = some (.cells cs.toArray T (0, 0)))
    (hcl : cs.length = size) (h1 : ∀ u ∈ cs, u.oneCell' = true) (hlen : n + 1 ≤ 1048576) (hbase : B ≤ w.heap.size)
    (h : ∀ v' w', w'.ownsRow B e size v' (n + 1) (xs ++ cs) → w.grownBy w' v.ownBlock → Below B w w' → (v'.ownBlock = v.ownBlock ∨ v'.ownBlock = some w.heap.size) → wpList P ops Q rest (a.put o.dst v') w') : wpList P ops Q (o :: rest) a w := by
  obtain ⟨i0, hi, hz0, hz1, hz2⟩ := info_parts hi
  refine wpList_append_own_at w hgd s x t ho B e i0 z size bytes ht hi hz0 hz1 hz2 hzc hpos v n xs hs hown ⟨g, 0, none⟩ 1 1 cs hx (by omega) ?_ h1 (by simp only [maxLen]; omega) ?_ hbase ?_
  · intro j u hu
    rw [show (⟨g, 0, none⟩ : Addr).add j = ⟨g, 0 + j, none⟩ from Addr.add_mid g 0 j, Nat.zero_add, blkCell hg]
    simpa using hu
  · have : (n + 1) * bytes ≤ 1048576 * 1024 := Nat.mul_le_mul hlen hby
    omega
  · intro v' w' h2 h3 _ h5
    exact h v' w' h2 h3 ((Below.refl _ _).grown h3 hbase (fun k hk => (hown.lt k hk).1)) h5
theorem box_kept {u v : World} {n m size B0 : Nat} {e t : TypeId} {x : Value} {xs : List Value} {cs : Array Value} (hb : u.heap[n]? = some (.cells cs t (0, 0))) (ho : u.ownsRow B0 e size x m xs) (hne : e ≠ t) (hg : u.grownBy v x.ownBlock) : v.heap[n]? = some (.cells cs t (0, 0)) :=
  (hg.block n (heapLt hb) (fun e1 => ownApart ho hb hne e1.symm)).trans hb
theorem own_past {u : World} {n m size B0 : Nat} {e : TypeId} {x : Value} {xs : List Value} (h : u.ownsRow B0 e size x m xs) (hn : u.heap.size ≤ n) : x.ownBlock ≠ some n := fun he => by
  have := (h.lt n he).2
  omega
theorem StoreR.grown {w w' : World} {s : Tx.St} {p : SP} (h : StoreR w s p) {v : Value} {m B : Nat} {xs : List Value} (ho : w.ownsRow B 3 1 v m xs) (hg : w.grownBy w' v.ownBlock) : StoreR w' s p :=
  ⟨⟨h.dt.reads h.dk.secs ho (by decide) hg, h.dk.small⟩, h.dt.grown ho (by decide) hg, h.tt.reads h.tx ho (by decide) hg, h.tt.grown ho (by decide) hg⟩
abbrev storeA (s : Tx.St) (p : SP) : Array Value := #[.int .i64 s.zlog, .int .i64 s.zpages, .int .i64 s.zframes, .slice p.A s.disk.sectors.length p.c, .int .i64 s.disk.left, .bool s.disk.down, .int .i64 s.log.from_, .int .i64 s.log.n, .int .i64 s.log.end_, .int .i64 s.log.safe, .string s.log.tail, .slice p.F p.fn p.fc, .int .i64 s.hand, .slice p.T s.txns.length p.tc, .int .i64 s.next]
/-- The memory of TxnSafe: block gs is the store's box (cells cs), block gt that of the store s; two rows of numbers of the call's own. -/
structure TwoR (gs gt : Nat) (cs : Array Value) (w u : World) (va vt : Value) (s : Tx.St) (p : SP) (la lt : List Int) : Prop where
  box : u.heap[gs]? = some (.cells cs 49 (0, 0))
  box2 : u.heap[gt]? = some (.cells (storeA s p) 49 (0, 0))
  lo : w.heap.size ≤ gs
  low : Below w.heap.size w u
  st : StoreR u s p
  ra : OwnL iC 1 3 (gs + 1) u va la
  rt : OwnL iC 1 3 (gs + 1) u vt lt
  ap : va.ownBlock ≠ vt.ownBlock
section
variable {gs gt : Nat} {cs : Array Value} {w u v : World} {va vt : Value} {s : Tx.St} {p : SP} {la lt : List Int}
theorem TwoR.past (h : TwoR gs gt cs w u va vt s p la lt) : gs < u.heap.size := heapLt h.box
theorem TwoR.step (h : TwoR gs gt cs w u va vt s p la lt) (hb : Below u.heap.size u v) : TwoR gs gt cs w v va vt s p la lt :=
  ⟨blkOld h.box hb, blkOld h.box2 hb, h.lo, joinB h.low hb, h.st.below hb, ownBelow h.ra hb, ownBelow h.rt hb, h.ap⟩
theorem TwoR.done (h : TwoR gs gt cs w u va vt s p la lt) {g9 : Nat} {s9 : Tx.St} {p9 : SP} (hb : Below u.heap.size u v) (h1 : v.heap[g9]? = some (.cells (storeA s9 p9) 49 (0, 0))) (h2 : StoreR v s9 p9) : TwoR gs g9 cs w v va vt s9 p9 la lt :=
  ⟨blkOld h.box hb, h1, h.lo, joinB h.low hb, h2, ownBelow h.ra hb, ownBelow h.rt hb, h.ap⟩
theorem TwoR.pushA {va' : Value} {n : Int} (h : TwoR gs gt cs w u va vt s p la lt) (ho : OwnL iC 1 3 (gs + 1) v va' (la ++ [n])) (hg : u.grownBy v va.ownBlock) (hb : Below (gs + 1) u v) (hat : va'.ownBlock = va.ownBlock ∨ va'.ownBlock = some u.heap.size) : TwoR gs gt cs w v va' vt s p (la ++ [n]) lt :=
  ⟨box_kept h.box h.ra (by decide) hg, box_kept h.box2 h.ra (by decide) hg, h.lo, h.low.trans (hb.mono (by have := h.lo; omega)), h.st.grown h.ra hg, ho, h.rt.kept hg (.inr (fun e => h.ap e.symm)), by
    rcases hat with e | e
    · rw [e]; exact h.ap
    · rw [e]; exact fun e2 => own_past h.rt (Nat.le_refl _) e2.symm⟩
theorem TwoR.pushT {vt' : Value} {n : Int} (h : TwoR gs gt cs w u va vt s p la lt) (ho : OwnL iC 1 3 (gs + 1) v vt' (lt ++ [n])) (hg : u.grownBy v vt.ownBlock) (hb : Below (gs + 1) u v) (hat : vt'.ownBlock = vt.ownBlock ∨ vt'.ownBlock = some u.heap.size) : TwoR gs gt cs w v va vt' s p la (lt ++ [n]) :=
  ⟨box_kept h.box h.rt (by decide) hg, box_kept h.box2 h.rt (by decide) hg, h.lo, h.low.trans (hb.mono (by have := h.lo; omega)), h.st.grown h.rt hg, h.ra.kept hg (.inr h.ap), ho, by
    rcases hat with e | e
    · rw [e]; exact h.ap
    · rw [e]; exact own_past h.ra (Nat.le_refl _)⟩
theorem TwoR.store (h : TwoR gs gt cs w u va vt s p la lt) : TwoR gs gs (storeA s p) w (u.setRow gs (storeA s p)) va vt s p la lt :=
  ⟨setRow_heap _ _ _ _ _ _ h.box, setRow_heap _ _ _ _ _ _ h.box, h.lo, below_setRow h.low h.lo _, h.st.other h.box (by decide) (by decide) _, ownRowOff h.ra gs _ (Nat.lt_succ_self _), ownRowOff h.rt gs _ (Nat.lt_succ_self _), h.ap⟩
end
set_option maxRecDepth 100000 in
set_option maxHeartbeats 8000000 in
theorem among_any (xs ys : List Int) (h : ∀ x ∈ xs, x ∈ ys) (hx1 : xs.length ≤ 1000000) (hy1 : ys.length ≤ 1000000) (A : Option Addr) (c : Nat) (B : Option Addr) (d : Nat) (w : World) (hx : Reads w A c xs.length (xs.flatMap iC)) (hy : Reads w B d ys.length (ys.flatMap iC)) :
    Calls Try.prog 16 #[.slice A xs.length c, .slice B ys.length d] w fun e w' => e = .returned (.bool true) ∧ Below w.heap.size w w' := by
  have HX := Lib.hid hx
  have HY := Lib.hid hy
  have HH := Lib.hid h
  clear hx hy h
  go_enter Try.func16, Try.ntmps16
  go_wp2_with fail
  go_loopw [5] (fun v wr => ∃ i : Nat, v = .int .i64 (i : Int) ∧ i ≤ xs.length ∧ Below w.heap.size w wr) (fun v _ => xs.length - (intOf v).toNat)
  case atStart => exact ⟨0, rfl, Nat.zero_le _, Below.refl _ _⟩
  case round =>
    obtain ⟨i, rfl, hi, hbw⟩ := hrel
    obtain ⟨wo, rfl⟩ : ∃ wm : World, wm = wr := ⟨_, rfl⟩
    have HBW := Lib.hid hbw
    clear hbw
    by_cases hlt : i < xs.length
    · have hi0 : (0 : Int) ≤ (i : Int) := by omega
      have hi1 : (i : Int) < (xs.length : Int) := by omega
      have hwi : IntKind.i64.wrap ((i : Int) + 1) = (i : Int) + 1 := IntWalk.i64_in _ (by omega)
      obtain ⟨b1, o1, rfl, hc1, hbl1, hcell1⟩ := read_at iC_len (HX.out.below HBW.out) hlt
      have q1 := hcell1 0 _ rfl
      simp only [Nat.mul_one, Nat.add_zero] at q1
      have HIN := Lib.hid (HH.out _ (List.getElem_mem hlt))
      generalize xs[i] = x at q1 HIN
      have Q1 := Lib.hid q1
      clear q1 hcell1
      go_wp2_with fail
      go_loopw [6, 7] (fun v z wi => ∃ k : Nat, z = .int .i64 (k : Int) ∧ v = .bool (decide (x ∈ ys.take k)) ∧ k ≤ ys.length ∧ Below wo.heap.size wo wi) (fun _ z _ => ys.length - (intOf z).toNat)
      case atStart => exact ⟨0, rfl, by simp, Nat.zero_le _, Below.refl _ _⟩
      case round =>
        obtain ⟨k, rfl, rfl, hk, hbi⟩ := hrel
        have HBI := Lib.hid hbi
        clear hbi
        by_cases hkl : k < ys.length
        · have hk0 : (0 : Int) ≤ (k : Int) := by omega
          have hk1 : (k : Int) < (ys.length : Int) := by omega
          have hwk : IntKind.i64.wrap ((k : Int) + 1) = (k : Int) + 1 := IntWalk.i64_in _ (by omega)
          obtain ⟨b2, o2, rfl, hc2, hbl2, hcell2⟩ := read_at iC_len ((HY.out.below HBW.out).below HBI.out) hkl
          have q2 := hcell2 0 _ rfl
          simp only [Nat.mul_one, Nat.add_zero] at q2
          have HNX := Lib.hid (Tx.any_take x ys k hkl)
          generalize ys[k] = y at q2 HNX
          have q3 : (wr.drew).cell? ⟨b1, o1 + i, none⟩ = some (.int .i64 x) := ((HBI.out.drew).cell (p := ⟨b1, o1 + i, none⟩) hbl1).trans Q1.out
          have q4 : (wr.drew).cell? ⟨b2, o2 + k, none⟩ = some (.int .i64 y) := (((Below.refl wr.heap.size wr).drew).cell (p := ⟨b2, o2 + k, none⟩) hbl2).trans q2
          have HB2 := Lib.hid (HBI.out.drew)
          have hsc : wr.drew.cell? ⟨b1, o1 + i, none⟩ = some (.int .i64 x) ∧ wr.drew.cell? ⟨b2, o2 + k, none⟩ = some (.int .i64 y) := ⟨q3, q4⟩
          clear q2 q3 q4 hcell2
          cases hin : decide (x ∈ ys.take k) with
          | true =>
            rw [hin, Bool.true_or] at HNX
            clear hin
            go_upto_region 8 with fail
            refine wp_region_held_drew (S := (fun u => u.cell? ⟨b1, o1 + i, none⟩ = some (.int .i64 x) ∧ u.cell? ⟨b2, o2 + k, none⟩ = some (.int .i64 y))) (by kernel_rfl) ?_ (fun hHeld => ?_)
            · exact hsc
            refine tkW 0 (some 20) (v := ?_) rfl ?_ ?_
            rotate_left
            · intro u hSu; obtain ⟨hS1, hS2⟩ := hSu; go_simp; (try with_reducible rfl)
            try simp only [Act.put, List.setIfInBounds_toArray, List.set_cons_zero, List.set_cons_succ]
            refine tkW 1 (some 21) (v := ?_) rfl ?_ ?_
            rotate_left
            · intro u hSu; obtain ⟨hS1, hS2⟩ := hSu; go_simp; (try with_reducible rfl)
            try simp only [Act.put, List.setIfInBounds_toArray, List.set_cons_zero, List.set_cons_succ]
            refine tkO 2 (some 22) rfl ?_
            try simp only [Act.put, List.setIfInBounds_toArray, List.set_cons_zero, List.set_cons_succ]
            refine tkO 3 (some 23) rfl ?_
            try simp only [Act.put, List.setIfInBounds_toArray, List.set_cons_zero, List.set_cons_succ]
            refine tkO 4 (some 24) rfl ?_
            try simp only [Act.put, List.setIfInBounds_toArray, List.set_cons_zero, List.set_cons_succ]
            refine tkO 5 (some 25) rfl ?_
            try simp only [Act.put, List.setIfInBounds_toArray, List.set_cons_zero, List.set_cons_succ]
            refine tkO 6 (some 26) rfl ?_
            try simp only [Act.put, List.setIfInBounds_toArray, List.set_cons_zero, List.set_cons_succ]
            refine tkO 7 (some 27) rfl ?_
            try simp only [Act.put, List.setIfInBounds_toArray, List.set_cons_zero, List.set_cons_succ]
            refine tkO 8 (some 28) rfl ?_
            try simp only [Act.put, List.setIfInBounds_toArray, List.set_cons_zero, List.set_cons_succ]
            refine tkO 9 (some 29) rfl ?_
            try simp only [Act.put, List.setIfInBounds_toArray, List.set_cons_zero, List.set_cons_succ]
            refine tkO 10 (some 30) rfl ?_
            try simp only [Act.put, List.setIfInBounds_toArray, List.set_cons_zero, List.set_cons_succ]
            refine tkW 11 (some 31) (v := ?_) rfl ?_ ?_
            rotate_left
            · intro u hSu; obtain ⟨hS1, hS2⟩ := hSu; go_simp; (try with_reducible rfl)
            try simp only [Act.put, List.setIfInBounds_toArray, List.set_cons_zero, List.set_cons_succ]
            refine tkW 12 (some 6) (v := ?_) rfl ?_ ?_
            rotate_left
            · intro u hSu; obtain ⟨hS1, hS2⟩ := hSu; go_simp; (try with_reducible rfl)
            try simp only [Act.put, List.setIfInBounds_toArray, List.set_cons_zero, List.set_cons_succ]
            refine wpAnyH_done (by kernel_rfl) ?_ _
            clear hHeld hsc
            go_wp2_with fail
            go_roundw
            case rel => exact ⟨k + 1, by go_num, by rw [HNX.out], by omega, HB2.out⟩
            case measure => simp [intOf]; omega
          | false =>
            rw [hin, Bool.false_or] at HNX
            clear hin
            go_upto_region 8 with fail
            refine wp_region_held_drew (S := (fun u => u.cell? ⟨b1, o1 + i, none⟩ = some (.int .i64 x) ∧ u.cell? ⟨b2, o2 + k, none⟩ = some (.int .i64 y))) (by kernel_rfl) ?_ (fun hHeld => ?_)
            · exact hsc
            refine tkW 0 (some 20) (v := ?_) rfl ?_ ?_
            rotate_left
            · intro u hSu; obtain ⟨hS1, hS2⟩ := hSu; go_simp; (try with_reducible rfl)
            try simp only [Act.put, List.setIfInBounds_toArray, List.set_cons_zero, List.set_cons_succ]
            refine tkW 1 (some 21) (v := ?_) rfl ?_ ?_
            rotate_left
            · intro u hSu; obtain ⟨hS1, hS2⟩ := hSu; go_simp; (try with_reducible rfl)
            try simp only [Act.put, List.setIfInBounds_toArray, List.set_cons_zero, List.set_cons_succ]
            refine tkW 2 (some 22) (v := ?_) rfl ?_ ?_
            rotate_left
            · intro u hSu; obtain ⟨hS1, hS2⟩ := hSu; go_simp; (try with_reducible rfl)
            try simp only [Act.put, List.setIfInBounds_toArray, List.set_cons_zero, List.set_cons_succ]
            refine tkW 3 (some 23) (v := ?_) rfl ?_ ?_
            rotate_left
            · intro u hSu; obtain ⟨hS1, hS2⟩ := hSu; go_simp; (try with_reducible rfl)
            try simp only [Act.put, List.setIfInBounds_toArray, List.set_cons_zero, List.set_cons_succ]
            refine tkW 4 (some 24) (v := ?_) rfl ?_ ?_
            rotate_left
            · intro u hSu; obtain ⟨hS1, hS2⟩ := hSu; go_simp; (try with_reducible rfl)
            try simp only [Act.put, List.setIfInBounds_toArray, List.set_cons_zero, List.set_cons_succ]
            refine tkW 5 (some 25) (v := ?_) rfl ?_ ?_
            rotate_left
            · intro u hSu; obtain ⟨hS1, hS2⟩ := hSu; go_simp; (try with_reducible rfl)
            try simp only [Act.put, List.setIfInBounds_toArray, List.set_cons_zero, List.set_cons_succ]
            refine tkW 6 (some 26) (v := ?_) rfl ?_ ?_
            rotate_left
            · intro u hSu; obtain ⟨hS1, hS2⟩ := hSu; go_simp; (try with_reducible rfl)
            try simp only [Act.put, List.setIfInBounds_toArray, List.set_cons_zero, List.set_cons_succ]
            refine tkW 7 (some 27) (v := ?_) rfl ?_ ?_
            rotate_left
            · intro u hSu; obtain ⟨hS1, hS2⟩ := hSu; go_simp; (try with_reducible rfl)
            try simp only [Act.put, List.setIfInBounds_toArray, List.set_cons_zero, List.set_cons_succ]
            refine tkW 8 (some 28) (v := ?_) rfl ?_ ?_
            rotate_left
            · intro u hSu; obtain ⟨hS1, hS2⟩ := hSu; go_simp; (try with_reducible rfl)
            try simp only [Act.put, List.setIfInBounds_toArray, List.set_cons_zero, List.set_cons_succ]
            refine tkW 9 (some 29) (v := ?_) rfl ?_ ?_
            rotate_left
            · intro u hSu; obtain ⟨hS1, hS2⟩ := hSu; go_simp; (try with_reducible rfl)
            try simp only [Act.put, List.setIfInBounds_toArray, List.set_cons_zero, List.set_cons_succ]
            refine tkW 10 (some 30) (v := ?_) rfl ?_ ?_
            rotate_left
            · intro u hSu; obtain ⟨hS1, hS2⟩ := hSu; go_simp; (try with_reducible rfl)
            try simp only [Act.put, List.setIfInBounds_toArray, List.set_cons_zero, List.set_cons_succ]
            refine tkW 11 (some 31) (v := ?_) rfl ?_ ?_
            rotate_left
            · intro u hSu; obtain ⟨hS1, hS2⟩ := hSu; go_simp; (try with_reducible rfl)
            try simp only [Act.put, List.setIfInBounds_toArray, List.set_cons_zero, List.set_cons_succ]
            refine tkW 12 (some 6) (v := ?_) rfl ?_ ?_
            rotate_left
            · intro u hSu; obtain ⟨hS1, hS2⟩ := hSu; go_simp; (try with_reducible rfl)
            try simp only [Act.put, List.setIfInBounds_toArray, List.set_cons_zero, List.set_cons_succ]
            refine wpAnyH_done (by kernel_rfl) ?_ _
            clear hHeld hsc
            go_wp2_with fail
            go_roundw
            case rel => exact ⟨k + 1, by go_num, by rw [HNX.out], by omega, HB2.out⟩
            case measure => simp [intOf]; omega
        · have hk1 : ¬ (k : Int) < (ys.length : Int) := by omega
          have hall : decide (x ∈ ys.take k) = true := by rw [List.take_of_length_le (by omega)]; exact decide_eq_true HIN.out
          rw [hall]
          clear hall
          have HB3 := Lib.hid (joinB HBW.out HBI.out)
          clear HBI HBW Q1 HIN
          go_wp2_with fail
          go_roundw
          case rel => exact ⟨i + 1, by go_num, by omega, HB3.out⟩
          case measure => simp [intOf]; omega
    · have hi1 : ¬ (i : Int) < (xs.length : Int) := by omega
      go_wp2_with fail
      go_ret
      exact ⟨rfl, HBW.out⟩
end Go.Proofs.Ythfglhafphfhiaa
