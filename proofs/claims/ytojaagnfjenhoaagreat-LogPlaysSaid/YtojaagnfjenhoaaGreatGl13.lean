/- The walk over the reference of records: read. -/
import Derived.Test.YtojaagnfjenhoaaGreatGl12
import Derived.Test.YtojaagnfjenhoaaGreatGl11
import Derived.Lib.ConvBytes
import Derived.Lib.AppendStr
import Derived.Lib.FrozenHead
import Derived.Deep.MidRow
import Derived.Lib.LazyBuf
namespace Go.Proofs.YtojaagnfjenhoaaGreat
open Go.RowKit
def IReadOut (r : Rc.Rec) (w : World) (e : Ending) (w' : World) : Prop :=
  ∃ A c B d, e = .returned (recV r (.slice A r.txns.length c) (.slice B r.dirty.length d)) ∧ RecN w.heap.size w' r A c B d ∧ Below w.heap.size w w'
theorem iread_done {w w1 u : World} {g : Nat} (hg : g = w.heap.size) (hB : Below w.heap.size w w1) (hs : w1.heap.size = g + 2) (hk : KeptB w1.heap.size (g + 1) w1 u) (cs : Array Value) : Below w.heap.size w (u.setRow g cs) := by
  refine ⟨hk.os.trans hB.os, hk.tape.trans hB.tape, hk.output.trans hB.output, ?_, fun k hk1 => ?_⟩
  · show _ ≤ (u.heap.modify _ _).size
    have h1 := hB.size
    have h2 := hk.size
    simp
    omega
  · exact (heap_setRow_other _ _ _ _ (by omega)).trans ((hk.block k (by omega) (by omega)).trans (hB.block k hk1))
set_option maxRecDepth 100000 in
set_option maxHeartbeats 4000000 in
theorem iread_3 (s : ByteArray) (hm : s.size ≤ 1000000) (s1 : Rc.St) (h0 : Rc.numM false s.data.toList ⟨0, false⟩ 1 = (3, s1)) (w : World) :
    Calls Tryz.prog 62 #[.string s] w (IReadOut (Rc.readM false s.data.toList) w) := by
  have hl : s.data.toList.length = s.size := by simp
  have a1 := Rc.numM_f h0 (Nat.zero_le _)
  have C0 := Lib.hid (fun w1 b l u (hu : Ri w1 b s ⟨0, false⟩ l u) => hu.num1 h0 hm (Nat.zero_le _))
  rcases h1 : Rc.numM false s.data.toList s1 6 with ⟨lsn, s2⟩
  have a2 := Rc.numM_f h1 a1
  have C1 := Lib.hid (fun w1 b l u (hu : Ri w1 b s s1 l u) => hu.num6 h1 hm (by omega))
  rcases h2 : Rc.numM false s.data.toList s2 6 with ⟨prev, s3⟩
  have a3 := Rc.numM_f h2 a2
  have C2 := Lib.hid (fun w1 b l u (hu : Ri w1 b s s2 l u) => hu.num6 h2 hm (by omega))
  rcases h3 : Rc.numM false s.data.toList s3 6 with ⟨txn, s4⟩
  have a4 := Rc.numM_f h3 a3
  have C3 := Lib.hid (fun w1 b l u (hu : Ri w1 b s s3 l u) => hu.num6 h3 hm (by omega))
  rcases h4 : Rc.numM false s.data.toList s4 3 with ⟨pg, s5⟩
  have a5 := Rc.numM_f h4 a4
  have C4 := Lib.hid (fun w1 b l u (hu : Ri w1 b s s4 l u) => hu.num3 h4 hm (by omega))
  rcases h5 : Rc.opM false s.data.toList s5 with ⟨o, s6⟩
  have a6 := Rc.opM_f h5 a5
  have C5 := Lib.hid (fun w1 b l u (hu : Ri w1 b s s5 l u) => hu.op h5 hm (by omega))
  rcases h6 : Rc.numM false s.data.toList s6 6 with ⟨nx, s7⟩
  have a7 := Rc.numM_f h6 a6
  have C6 := Lib.hid (fun w1 b l u (hu : Ri w1 b s s6 l u) => hu.num6 h6 hm (by omega))
  have e0 : Rc.headM false s.data.toList = (Rc.bare 3 lsn prev txn, s4) := by
    unfold Rc.headM; simp only [h0, h1, h2, h3]
  have RD : Rc.readM false s.data.toList = ⟨lsn, prev, txn, 3, pg, nx, 0, o, 0, 0, Rc.noKey, [], []⟩ := by
    unfold Rc.readM
    rw [e0]
    show Rc.restM false _ (Rc.bare 3 lsn prev txn) s4 = _
    rw [Rc.restM_3 rfl]
    simp only [h4, h5, h6]
    rfl
  have RDH := Lib.hid RD
  clear RD
  clear h0 h1 h2 h3 h4 h5 h6 a1 a2 a3 a4 a5 a6 a7 e0
  go_enter Tryz.func62, Tryz.ntmps62
  go_upto_region 2 with fail
  obtain ⟨g, hg⟩ : ∃ g, g = w.heap.size := ⟨_, rfl⟩
  obtain ⟨w1, hw1⟩ : ∃ W, W = (w.alloc (.cells zeroA 42)).alloc (.cells #[.string s, .int .i64 0, .bool false] 140) := ⟨_, rfl⟩
  have hz1 : (w.alloc (.cells zeroA 42)).heap.size = g + 1 := by rw [hg]; simp
  have hs1 : w1.heap.size = g + 2 := by rw [hw1, hg]; simp
  have hB1 : Below w.heap.size w w1 := by rw [hw1]; exact pastAlloc (allocB _ _)
  have HI : Hid (Ri w1 (g + 1) s ⟨0, false⟩ [] w1) := Lib.hid (Ri.start (by rw [hw1, ← hz1]; exact heap_alloc_new _ _))
  have HGB : Hid (w1.heap[g]? = some (.cells zeroA 42 (0, 0))) := Lib.hid (by rw [hw1, hg]; exact new21 _ _ _)
  have HDN := Lib.hid (fun u (hk : KeptB w1.heap.size (g + 1) w1 u) cs => iread_done hg hB1 hs1 hk cs)
  have hbs := Lib.hid (Nat.le_of_eq hg.symm)
  have HS1 := Lib.hid hs1
  rw [← hw1, ← hg]
  clear hg hw1 hz1 hB1 hs1
  go_upto_region 3 with (first | (go_at_call 95; (with_reducible refine (C0.out _ _ _ _ HI.out).mono ?_); rintro e v0 ⟨rfl, hS0⟩) | (go_at_call 95; (with_reducible refine (C1.out _ _ _ _ hS0).mono ?_); rintro e v1 ⟨rfl, hS1⟩) | (go_at_call 95; (with_reducible refine (C2.out _ _ _ _ hS1).mono ?_); rintro e v2 ⟨rfl, hS2⟩) | (go_at_call 95; (with_reducible refine (C3.out _ _ _ _ hS2).mono ?_); rintro e v3 ⟨rfl, hS3⟩) | (with_reducible refine wpList_store_new rfl 42 (.tmp 4) (.tmp 16) rfl (rcA lsn prev txn 3 0 0 0 0 0 ⟨#[]⟩ ⟨#[]⟩ 0 0 ⟨#[]⟩ 0 0 (.slice none 0 0) (.slice none 0 0)) _ _ rfl (by kernel_rfl) (by kernel_rfl) (by kernel_rfl) (by kernel_rfl) ?_))
  have H := Lib.hid (hS3.alloc (rcA lsn prev txn 3 0 0 0 0 0 ⟨#[]⟩ ⟨#[]⟩ 0 0 ⟨#[]⟩ 0 0 (.slice none 0 0) (.slice none 0 0)) 42)
  obtain ⟨x, hx⟩ : ∃ x, x = v3.heap.size := ⟨_, rfl⟩
  obtain ⟨W, hW⟩ : ∃ W, W = v3.alloc (.cells (rcA lsn prev txn 3 0 0 0 0 0 ⟨#[]⟩ ⟨#[]⟩ 0 0 ⟨#[]⟩ 0 0 (.slice none 0 0) (.slice none 0 0)) 42) := ⟨_, rfl⟩
  rw [← hx, ← hW] at H
  rw [← hx, ← hW]
  simp only [List.nil_append] at H
  clear hx hW hS0 hS1 hS2 hS3 HI C0 C1 C2 C3
  have hcx := blkCell H.out.get0
  go_upto_region 7 with fail
  clear hcx
  go_upto_region 8 with (go_at_call 95; (with_reducible refine (C4.out _ _ _ _ H.out).mono ?_); rintro e u0 ⟨rfl, h⟩; (try dsimp only [opV]); have K0 := Lib.hid h; have hc0 := blkCell h.get0; have hz0 := blkFrozen h.get0; clear h)
  have H0 := Lib.hid (show Ri w1 (g + 1) s s5 [(x, (rcA lsn prev txn 3 pg 0 0 0 0 ⟨#[]⟩ ⟨#[]⟩ 0 0 ⟨#[]⟩ 0 0 (.slice none 0 0) (.slice none 0 0)), 42)] (u0.setCell ⟨x, 4, none⟩ (.int .i64 pg)) from by have h := (K0.out.set 0 4 (.int .i64 pg) _ rfl); simpa using h)
  obtain ⟨W0, hW⟩ : ∃ W, W = (u0.setCell ⟨x, 4, none⟩ (.int .i64 pg)) := ⟨_, rfl⟩
  rw [← hW] at H0
  rw [← hW]
  clear hW H K0 hc0 hz0 C4
  go_upto_region 9 with (go_at_call 97; (with_reducible refine (C5.out _ _ _ _ H0.out).mono ?_); rintro e u1 ⟨rfl, h⟩; (try dsimp only [opV]); have K1 := Lib.hid h; have hc1 := blkCell h.get0; have hz1 := blkFrozen h.get0; clear h)
  have H1 := Lib.hid (show Ri w1 (g + 1) s s6 [(x, (rcA lsn prev txn 3 pg 0 0 o.kind o.slot o.old o.new 0 0 ⟨#[]⟩ 0 0 (.slice none 0 0) (.slice none 0 0)), 42)] ((((u1.setCell ⟨x, 7, none⟩ (.int .i64 o.kind)).setCell ⟨x, 8, none⟩ (.int .i64 o.slot)).setCell ⟨x, 9, none⟩ (.string o.old)).setCell ⟨x, 10, none⟩ (.string o.new)) from by have h := ((((K1.out.set 0 7 (.int .i64 o.kind) _ rfl).set 0 8 (.int .i64 o.slot) _ rfl).set 0 9 (.string o.old) _ rfl).set 0 10 (.string o.new) _ rfl); simpa using h)
  obtain ⟨W1, hW⟩ : ∃ W, W = ((((u1.setCell ⟨x, 7, none⟩ (.int .i64 o.kind)).setCell ⟨x, 8, none⟩ (.int .i64 o.slot)).setCell ⟨x, 9, none⟩ (.string o.old)).setCell ⟨x, 10, none⟩ (.string o.new)) := ⟨_, rfl⟩
  rw [← hW] at H1
  rw [← hW]
  clear hW H0 K1 hc1 hz1 C5
  go_upto_region 17 with (go_at_call 95; (with_reducible refine (C6.out _ _ _ _ H1.out).mono ?_); rintro e u2 ⟨rfl, h⟩; (try dsimp only [opV]); have K2 := Lib.hid h; have hc2 := blkCell h.get0; have hz2 := blkFrozen h.get0; clear h)
  have H2 := Lib.hid (show Ri w1 (g + 1) s s7 [(x, (rcA lsn prev txn 3 pg nx 0 o.kind o.slot o.old o.new 0 0 ⟨#[]⟩ 0 0 (.slice none 0 0) (.slice none 0 0)), 42)] (u2.setCell ⟨x, 5, none⟩ (.int .i64 nx)) from by have h := (K2.out.set 0 5 (.int .i64 nx) _ rfl); simpa using h)
  obtain ⟨W2, hW⟩ : ∃ W, W = (u2.setCell ⟨x, 5, none⟩ (.int .i64 nx)) := ⟨_, rfl⟩
  rw [← hW] at H2
  rw [← hW]
  clear hW H1 K2 hc2 hz2 C6
  have hgb := ((H2.out.kept.block g (by have := HS1.out; omega) (by omega)).trans HGB.out)
  go_wp2_with (first
    | (with_reducible refine listLoad (by kernel_rfl) 42 (.tmp 4) rfl x rfl (rcA lsn prev txn 3 pg nx 0 o.kind o.slot o.old o.new 0 0 ⟨#[]⟩ 0 0 (.slice none 0 0) (.slice none 0 0)) _ H2.out.get0 _ Tryz.underlying42 (by kernel_rfl) (by kernel_rfl) ?_)
    | (with_reducible refine listStore (by kernel_rfl) 42 (.tmp 2) (.tmp 53) rfl g (rcA lsn prev txn 3 pg nx 0 o.kind o.slot o.old o.new 0 0 ⟨#[]⟩ 0 0 (.slice none 0 0) (.slice none 0 0)) _ _ rfl rfl hgb (by kernel_rfl) (by kernel_rfl) (by kernel_rfl) ?_))
  refine bodyPost_ret (v := .agg (rcA lsn prev txn 3 pg nx 0 o.kind o.slot o.old o.new 0 0 ⟨#[]⟩ 0 0 (.slice none 0 0) (.slice none 0 0))) (results_cell rfl _ _ rfl (load_whole (setRow_heap _ _ _ _ _ _ hgb) Tryz.underlying42 (by kernel_rfl) (by kernel_rfl))) rfl ?_
  rw [RDH.out]
  exact ⟨none, 0, none, 0, rfl, ⟨⟨Reads.none_ _ _ _ _, Reads.none_ _ _ _ _, ⟨Nat.zero_le _, Nat.zero_le _⟩⟩, NewT.none_ _ _ _, NewT.none_ _ _ _⟩, HDN.out _ H2.out.kept _⟩
set_option maxRecDepth 100000 in
set_option maxHeartbeats 4000000 in
theorem iread_4 (s : ByteArray) (hm : s.size ≤ 1000000) (s1 : Rc.St) (h0 : Rc.numM false s.data.toList ⟨0, false⟩ 1 = (4, s1)) (w : World) :
    Calls Tryz.prog 62 #[.string s] w (IReadOut (Rc.readM false s.data.toList) w) := by
  have hl : s.data.toList.length = s.size := by simp
  have a1 := Rc.numM_f h0 (Nat.zero_le _)
  have C0 := Lib.hid (fun w1 b l u (hu : Ri w1 b s ⟨0, false⟩ l u) => hu.num1 h0 hm (Nat.zero_le _))
  rcases h1 : Rc.numM false s.data.toList s1 6 with ⟨lsn, s2⟩
  have a2 := Rc.numM_f h1 a1
  have C1 := Lib.hid (fun w1 b l u (hu : Ri w1 b s s1 l u) => hu.num6 h1 hm (by omega))
  rcases h2 : Rc.numM false s.data.toList s2 6 with ⟨prev, s3⟩
  have a3 := Rc.numM_f h2 a2
  have C2 := Lib.hid (fun w1 b l u (hu : Ri w1 b s s2 l u) => hu.num6 h2 hm (by omega))
  rcases h3 : Rc.numM false s.data.toList s3 6 with ⟨txn, s4⟩
  have a4 := Rc.numM_f h3 a3
  have C3 := Lib.hid (fun w1 b l u (hu : Ri w1 b s s3 l u) => hu.num6 h3 hm (by omega))
  rcases h4 : Rc.numM false s.data.toList s4 6 with ⟨nx, s5⟩
  have a5 := Rc.numM_f h4 a4
  have C4 := Lib.hid (fun w1 b l u (hu : Ri w1 b s s4 l u) => hu.num6 h4 hm (by omega))
  have e0 : Rc.headM false s.data.toList = (Rc.bare 4 lsn prev txn, s4) := by
    unfold Rc.headM; simp only [h0, h1, h2, h3]
  have RD : Rc.readM false s.data.toList = ⟨lsn, prev, txn, 4, 0, nx, 0, Rc.noOp, 0, 0, Rc.noKey, [], []⟩ := by
    unfold Rc.readM
    rw [e0]
    show Rc.restM false _ (Rc.bare 4 lsn prev txn) s4 = _
    rw [Rc.restM_4 rfl]
    simp only [h4]
    rfl
  have RDH := Lib.hid RD
  clear RD
  clear h0 h1 h2 h3 h4 a1 a2 a3 a4 a5 e0
  go_enter Tryz.func62, Tryz.ntmps62
  go_upto_region 2 with fail
  obtain ⟨g, hg⟩ : ∃ g, g = w.heap.size := ⟨_, rfl⟩
  obtain ⟨w1, hw1⟩ : ∃ W, W = (w.alloc (.cells zeroA 42)).alloc (.cells #[.string s, .int .i64 0, .bool false] 140) := ⟨_, rfl⟩
  have hz1 : (w.alloc (.cells zeroA 42)).heap.size = g + 1 := by rw [hg]; simp
  have hs1 : w1.heap.size = g + 2 := by rw [hw1, hg]; simp
  have hB1 : Below w.heap.size w w1 := by rw [hw1]; exact pastAlloc (allocB _ _)
  have HI : Hid (Ri w1 (g + 1) s ⟨0, false⟩ [] w1) := Lib.hid (Ri.start (by rw [hw1, ← hz1]; exact heap_alloc_new _ _))
  have HGB : Hid (w1.heap[g]? = some (.cells zeroA 42 (0, 0))) := Lib.hid (by rw [hw1, hg]; exact new21 _ _ _)
  have HDN := Lib.hid (fun u (hk : KeptB w1.heap.size (g + 1) w1 u) cs => iread_done hg hB1 hs1 hk cs)
  have hbs := Lib.hid (Nat.le_of_eq hg.symm)
  have HS1 := Lib.hid hs1
  rw [← hw1, ← hg]
  clear hg hw1 hz1 hB1 hs1
  go_upto_region 3 with (first | (go_at_call 95; (with_reducible refine (C0.out _ _ _ _ HI.out).mono ?_); rintro e v0 ⟨rfl, hS0⟩) | (go_at_call 95; (with_reducible refine (C1.out _ _ _ _ hS0).mono ?_); rintro e v1 ⟨rfl, hS1⟩) | (go_at_call 95; (with_reducible refine (C2.out _ _ _ _ hS1).mono ?_); rintro e v2 ⟨rfl, hS2⟩) | (go_at_call 95; (with_reducible refine (C3.out _ _ _ _ hS2).mono ?_); rintro e v3 ⟨rfl, hS3⟩) | (with_reducible refine wpList_store_new rfl 42 (.tmp 4) (.tmp 16) rfl (rcA lsn prev txn 4 0 0 0 0 0 ⟨#[]⟩ ⟨#[]⟩ 0 0 ⟨#[]⟩ 0 0 (.slice none 0 0) (.slice none 0 0)) _ _ rfl (by kernel_rfl) (by kernel_rfl) (by kernel_rfl) (by kernel_rfl) ?_))
  have H := Lib.hid (hS3.alloc (rcA lsn prev txn 4 0 0 0 0 0 ⟨#[]⟩ ⟨#[]⟩ 0 0 ⟨#[]⟩ 0 0 (.slice none 0 0) (.slice none 0 0)) 42)
  obtain ⟨x, hx⟩ : ∃ x, x = v3.heap.size := ⟨_, rfl⟩
  obtain ⟨W, hW⟩ : ∃ W, W = v3.alloc (.cells (rcA lsn prev txn 4 0 0 0 0 0 ⟨#[]⟩ ⟨#[]⟩ 0 0 ⟨#[]⟩ 0 0 (.slice none 0 0) (.slice none 0 0)) 42) := ⟨_, rfl⟩
  rw [← hx, ← hW] at H
  rw [← hx, ← hW]
  simp only [List.nil_append] at H
  clear hx hW hS0 hS1 hS2 hS3 HI C0 C1 C2 C3
  have hcx := blkCell H.out.get0
  go_upto_region 11 with fail
  clear hcx
  go_upto_region 17 with (go_at_call 95; (with_reducible refine (C4.out _ _ _ _ H.out).mono ?_); rintro e u0 ⟨rfl, h⟩; (try dsimp only [opV]); have K0 := Lib.hid h; have hc0 := blkCell h.get0; have hz0 := blkFrozen h.get0; clear h)
  have H0 := Lib.hid (show Ri w1 (g + 1) s s5 [(x, (rcA lsn prev txn 4 0 nx 0 0 0 ⟨#[]⟩ ⟨#[]⟩ 0 0 ⟨#[]⟩ 0 0 (.slice none 0 0) (.slice none 0 0)), 42)] (u0.setCell ⟨x, 5, none⟩ (.int .i64 nx)) from by have h := (K0.out.set 0 5 (.int .i64 nx) _ rfl); simpa using h)
  obtain ⟨W0, hW⟩ : ∃ W, W = (u0.setCell ⟨x, 5, none⟩ (.int .i64 nx)) := ⟨_, rfl⟩
  rw [← hW] at H0
  rw [← hW]
  clear hW H K0 hc0 hz0 C4
  have hgb := ((H0.out.kept.block g (by have := HS1.out; omega) (by omega)).trans HGB.out)
  go_wp2_with (first
    | (with_reducible refine listLoad (by kernel_rfl) 42 (.tmp 4) rfl x rfl (rcA lsn prev txn 4 0 nx 0 0 0 ⟨#[]⟩ ⟨#[]⟩ 0 0 ⟨#[]⟩ 0 0 (.slice none 0 0) (.slice none 0 0)) _ H0.out.get0 _ Tryz.underlying42 (by kernel_rfl) (by kernel_rfl) ?_)
    | (with_reducible refine listStore (by kernel_rfl) 42 (.tmp 2) (.tmp 53) rfl g (rcA lsn prev txn 4 0 nx 0 0 0 ⟨#[]⟩ ⟨#[]⟩ 0 0 ⟨#[]⟩ 0 0 (.slice none 0 0) (.slice none 0 0)) _ _ rfl rfl hgb (by kernel_rfl) (by kernel_rfl) (by kernel_rfl) ?_))
  refine bodyPost_ret (v := .agg (rcA lsn prev txn 4 0 nx 0 0 0 ⟨#[]⟩ ⟨#[]⟩ 0 0 ⟨#[]⟩ 0 0 (.slice none 0 0) (.slice none 0 0))) (results_cell rfl _ _ rfl (load_whole (setRow_heap _ _ _ _ _ _ hgb) Tryz.underlying42 (by kernel_rfl) (by kernel_rfl))) rfl ?_
  rw [RDH.out]
  exact ⟨none, 0, none, 0, rfl, ⟨⟨Reads.none_ _ _ _ _, Reads.none_ _ _ _ _, ⟨Nat.zero_le _, Nat.zero_le _⟩⟩, NewT.none_ _ _ _, NewT.none_ _ _ _⟩, HDN.out _ H0.out.kept _⟩
set_option maxRecDepth 100000 in
set_option maxHeartbeats 4000000 in
theorem iread_8 (s : ByteArray) (hm : s.size ≤ 1000000) (s1 : Rc.St) (h0 : Rc.numM false s.data.toList ⟨0, false⟩ 1 = (8, s1)) (w : World) :
    Calls Tryz.prog 62 #[.string s] w (IReadOut (Rc.readM false s.data.toList) w) := by
  have hl : s.data.toList.length = s.size := by simp
  have a1 := Rc.numM_f h0 (Nat.zero_le _)
  have C0 := Lib.hid (fun w1 b l u (hu : Ri w1 b s ⟨0, false⟩ l u) => hu.num1 h0 hm (Nat.zero_le _))
  rcases h1 : Rc.numM false s.data.toList s1 6 with ⟨lsn, s2⟩
  have a2 := Rc.numM_f h1 a1
  have C1 := Lib.hid (fun w1 b l u (hu : Ri w1 b s s1 l u) => hu.num6 h1 hm (by omega))
  rcases h2 : Rc.numM false s.data.toList s2 6 with ⟨prev, s3⟩
  have a3 := Rc.numM_f h2 a2
  have C2 := Lib.hid (fun w1 b l u (hu : Ri w1 b s s2 l u) => hu.num6 h2 hm (by omega))
  rcases h3 : Rc.numM false s.data.toList s3 6 with ⟨txn, s4⟩
  have a4 := Rc.numM_f h3 a3
  have C3 := Lib.hid (fun w1 b l u (hu : Ri w1 b s s3 l u) => hu.num6 h3 hm (by omega))
  rcases h4 : Rc.numM false s.data.toList s4 3 with ⟨pg, s5⟩
  have a5 := Rc.numM_f h4 a4
  have C4 := Lib.hid (fun w1 b l u (hu : Ri w1 b s s4 l u) => hu.num3 h4 hm (by omega))
  rcases h5 : Rc.opM false s.data.toList s5 with ⟨o, s6⟩
  have a6 := Rc.opM_f h5 a5
  have C5 := Lib.hid (fun w1 b l u (hu : Ri w1 b s s5 l u) => hu.op h5 hm (by omega))
  have e0 : Rc.headM false s.data.toList = (Rc.bare 8 lsn prev txn, s4) := by
    unfold Rc.headM; simp only [h0, h1, h2, h3]
  have RD : Rc.readM false s.data.toList = ⟨lsn, prev, txn, 8, pg, 0, 0, o, 0, 0, Rc.noKey, [], []⟩ := by
    unfold Rc.readM
    rw [e0]
    show Rc.restM false _ (Rc.bare 8 lsn prev txn) s4 = _
    rw [Rc.restM_8 rfl]
    simp only [h4, h5]
    rfl
  have RDH := Lib.hid RD
  clear RD
  clear h0 h1 h2 h3 h4 h5 a1 a2 a3 a4 a5 a6 e0
  go_enter Tryz.func62, Tryz.ntmps62
  go_upto_region 2 with fail
  obtain ⟨g, hg⟩ : ∃ g, g = w.heap.size := ⟨_, rfl⟩
  obtain ⟨w1, hw1⟩ : ∃ W, W = (w.alloc (.cells zeroA 42)).alloc (.cells #[.string s, .int .i64 0, .bool false] 140) := ⟨_, rfl⟩
  have hz1 : (w.alloc (.cells zeroA 42)).heap.size = g + 1 := by rw [hg]; simp
  have hs1 : w1.heap.size = g + 2 := by rw [hw1, hg]; simp
  have hB1 : Below w.heap.size w w1 := by rw [hw1]; exact pastAlloc (allocB _ _)
  have HI : Hid (Ri w1 (g + 1) s ⟨0, false⟩ [] w1) := Lib.hid (Ri.start (by rw [hw1, ← hz1]; exact heap_alloc_new _ _))
  have HGB : Hid (w1.heap[g]? = some (.cells zeroA 42 (0, 0))) := Lib.hid (by rw [hw1, hg]; exact new21 _ _ _)
  have HDN := Lib.hid (fun u (hk : KeptB w1.heap.size (g + 1) w1 u) cs => iread_done hg hB1 hs1 hk cs)
  have hbs := Lib.hid (Nat.le_of_eq hg.symm)
  have HS1 := Lib.hid hs1
  rw [← hw1, ← hg]
  clear hg hw1 hz1 hB1 hs1
  go_upto_region 3 with (first | (go_at_call 95; (with_reducible refine (C0.out _ _ _ _ HI.out).mono ?_); rintro e v0 ⟨rfl, hS0⟩) | (go_at_call 95; (with_reducible refine (C1.out _ _ _ _ hS0).mono ?_); rintro e v1 ⟨rfl, hS1⟩) | (go_at_call 95; (with_reducible refine (C2.out _ _ _ _ hS1).mono ?_); rintro e v2 ⟨rfl, hS2⟩) | (go_at_call 95; (with_reducible refine (C3.out _ _ _ _ hS2).mono ?_); rintro e v3 ⟨rfl, hS3⟩) | (with_reducible refine wpList_store_new rfl 42 (.tmp 4) (.tmp 16) rfl (rcA lsn prev txn 8 0 0 0 0 0 ⟨#[]⟩ ⟨#[]⟩ 0 0 ⟨#[]⟩ 0 0 (.slice none 0 0) (.slice none 0 0)) _ _ rfl (by kernel_rfl) (by kernel_rfl) (by kernel_rfl) (by kernel_rfl) ?_))
  have H := Lib.hid (hS3.alloc (rcA lsn prev txn 8 0 0 0 0 0 ⟨#[]⟩ ⟨#[]⟩ 0 0 ⟨#[]⟩ 0 0 (.slice none 0 0) (.slice none 0 0)) 42)
  obtain ⟨x, hx⟩ : ∃ x, x = v3.heap.size := ⟨_, rfl⟩
  obtain ⟨W, hW⟩ : ∃ W, W = v3.alloc (.cells (rcA lsn prev txn 8 0 0 0 0 0 ⟨#[]⟩ ⟨#[]⟩ 0 0 ⟨#[]⟩ 0 0 (.slice none 0 0) (.slice none 0 0)) 42) := ⟨_, rfl⟩
  rw [← hx, ← hW] at H
  rw [← hx, ← hW]
  simp only [List.nil_append] at H
  clear hx hW hS0 hS1 hS2 hS3 HI C0 C1 C2 C3
  have hcx := blkCell H.out.get0
  go_upto_region 13 with fail
  clear hcx
  go_upto_region 14 with (go_at_call 95; (with_reducible refine (C4.out _ _ _ _ H.out).mono ?_); rintro e u0 ⟨rfl, h⟩; (try dsimp only [opV]); have K0 := Lib.hid h; have hc0 := blkCell h.get0; have hz0 := blkFrozen h.get0; clear h)
  have H0 := Lib.hid (show Ri w1 (g + 1) s s5 [(x, (rcA lsn prev txn 8 pg 0 0 0 0 ⟨#[]⟩ ⟨#[]⟩ 0 0 ⟨#[]⟩ 0 0 (.slice none 0 0) (.slice none 0 0)), 42)] (u0.setCell ⟨x, 4, none⟩ (.int .i64 pg)) from by have h := (K0.out.set 0 4 (.int .i64 pg) _ rfl); simpa using h)
  obtain ⟨W0, hW⟩ : ∃ W, W = (u0.setCell ⟨x, 4, none⟩ (.int .i64 pg)) := ⟨_, rfl⟩
  rw [← hW] at H0
  rw [← hW]
  clear hW H K0 hc0 hz0 C4
  go_upto_region 17 with (go_at_call 97; (with_reducible refine (C5.out _ _ _ _ H0.out).mono ?_); rintro e u1 ⟨rfl, h⟩; (try dsimp only [opV]); have K1 := Lib.hid h; have hc1 := blkCell h.get0; have hz1 := blkFrozen h.get0; clear h)
  have H1 := Lib.hid (show Ri w1 (g + 1) s s6 [(x, (rcA lsn prev txn 8 pg 0 0 o.kind o.slot o.old o.new 0 0 ⟨#[]⟩ 0 0 (.slice none 0 0) (.slice none 0 0)), 42)] ((((u1.setCell ⟨x, 7, none⟩ (.int .i64 o.kind)).setCell ⟨x, 8, none⟩ (.int .i64 o.slot)).setCell ⟨x, 9, none⟩ (.string o.old)).setCell ⟨x, 10, none⟩ (.string o.new)) from by have h := ((((K1.out.set 0 7 (.int .i64 o.kind) _ rfl).set 0 8 (.int .i64 o.slot) _ rfl).set 0 9 (.string o.old) _ rfl).set 0 10 (.string o.new) _ rfl); simpa using h)
  obtain ⟨W1, hW⟩ : ∃ W, W = ((((u1.setCell ⟨x, 7, none⟩ (.int .i64 o.kind)).setCell ⟨x, 8, none⟩ (.int .i64 o.slot)).setCell ⟨x, 9, none⟩ (.string o.old)).setCell ⟨x, 10, none⟩ (.string o.new)) := ⟨_, rfl⟩
  rw [← hW] at H1
  rw [← hW]
  clear hW H0 K1 hc1 hz1 C5
  have hgb := ((H1.out.kept.block g (by have := HS1.out; omega) (by omega)).trans HGB.out)
  go_wp2_with (first
    | (with_reducible refine listLoad (by kernel_rfl) 42 (.tmp 4) rfl x rfl (rcA lsn prev txn 8 pg 0 0 o.kind o.slot o.old o.new 0 0 ⟨#[]⟩ 0 0 (.slice none 0 0) (.slice none 0 0)) _ H1.out.get0 _ Tryz.underlying42 (by kernel_rfl) (by kernel_rfl) ?_)
    | (with_reducible refine listStore (by kernel_rfl) 42 (.tmp 2) (.tmp 53) rfl g (rcA lsn prev txn 8 pg 0 0 o.kind o.slot o.old o.new 0 0 ⟨#[]⟩ 0 0 (.slice none 0 0) (.slice none 0 0)) _ _ rfl rfl hgb (by kernel_rfl) (by kernel_rfl) (by kernel_rfl) ?_))
  refine bodyPost_ret (v := .agg (rcA lsn prev txn 8 pg 0 0 o.kind o.slot o.old o.new 0 0 ⟨#[]⟩ 0 0 (.slice none 0 0) (.slice none 0 0))) (results_cell rfl _ _ rfl (load_whole (setRow_heap _ _ _ _ _ _ hgb) Tryz.underlying42 (by kernel_rfl) (by kernel_rfl))) rfl ?_
  rw [RDH.out]
  exact ⟨none, 0, none, 0, rfl, ⟨⟨Reads.none_ _ _ _ _, Reads.none_ _ _ _ _, ⟨Nat.zero_le _, Nat.zero_le _⟩⟩, NewT.none_ _ _ _, NewT.none_ _ _ _⟩, HDN.out _ H1.out.kept _⟩
set_option maxRecDepth 100000 in
set_option maxHeartbeats 4000000 in
theorem iread_k (s : ByteArray) (hm : s.size ≤ 1000000) (s1 : Rc.St) (kd : Int) (hk2 : kd ≠ 2) (hk3 : kd ≠ 3) (hk4 : kd ≠ 4) (hk8 : kd ≠ 8) (hk9 : kd ≠ 9) (h0 : Rc.numM false s.data.toList ⟨0, false⟩ 1 = (kd, s1)) (w : World) :
    Calls Tryz.prog 62 #[.string s] w (IReadOut (Rc.readM false s.data.toList) w) := by
  have hl : s.data.toList.length = s.size := by simp
  have a1 := Rc.numM_f h0 (Nat.zero_le _)
  have C0 := Lib.hid (fun w1 b l u (hu : Ri w1 b s ⟨0, false⟩ l u) => hu.num1 h0 hm (Nat.zero_le _))
  rcases h1 : Rc.numM false s.data.toList s1 6 with ⟨lsn, s2⟩
  have a2 := Rc.numM_f h1 a1
  have C1 := Lib.hid (fun w1 b l u (hu : Ri w1 b s s1 l u) => hu.num6 h1 hm (by omega))
  rcases h2 : Rc.numM false s.data.toList s2 6 with ⟨prev, s3⟩
  have a3 := Rc.numM_f h2 a2
  have C2 := Lib.hid (fun w1 b l u (hu : Ri w1 b s s2 l u) => hu.num6 h2 hm (by omega))
  rcases h3 : Rc.numM false s.data.toList s3 6 with ⟨txn, s4⟩
  have a4 := Rc.numM_f h3 a3
  have C3 := Lib.hid (fun w1 b l u (hu : Ri w1 b s s3 l u) => hu.num6 h3 hm (by omega))
  have e0 : Rc.headM false s.data.toList = (Rc.bare kd lsn prev txn, s4) := by
    unfold Rc.headM; simp only [h0, h1, h2, h3]
  have RD : Rc.readM false s.data.toList = ⟨lsn, prev, txn, kd, 0, 0, 0, Rc.noOp, 0, 0, Rc.noKey, [], []⟩ := by
    unfold Rc.readM
    rw [e0]
    show Rc.restM false _ (Rc.bare kd lsn prev txn) s4 = _
    unfold Rc.restM
    have hb : (Rc.bare kd lsn prev txn).kind = kd := rfl
    rw [hb, if_neg hk2, if_neg hk3, if_neg hk4, if_neg hk8, if_neg hk9]
    rfl
  have RDH := Lib.hid RD
  clear RD
  clear h0 h1 h2 h3 a1 a2 a3 a4 e0
  go_enter Tryz.func62, Tryz.ntmps62
  go_upto_region 2 with fail
  obtain ⟨g, hg⟩ : ∃ g, g = w.heap.size := ⟨_, rfl⟩
  obtain ⟨w1, hw1⟩ : ∃ W, W = (w.alloc (.cells zeroA 42)).alloc (.cells #[.string s, .int .i64 0, .bool false] 140) := ⟨_, rfl⟩
  have hz1 : (w.alloc (.cells zeroA 42)).heap.size = g + 1 := by rw [hg]; simp
  have hs1 : w1.heap.size = g + 2 := by rw [hw1, hg]; simp
  have hB1 : Below w.heap.size w w1 := by rw [hw1]; exact pastAlloc (allocB _ _)
  have HI : Hid (Ri w1 (g + 1) s ⟨0, false⟩ [] w1) := Lib.hid (Ri.start (by rw [hw1, ← hz1]; exact heap_alloc_new _ _))
  have HGB : Hid (w1.heap[g]? = some (.cells zeroA 42 (0, 0))) := Lib.hid (by rw [hw1, hg]; exact new21 _ _ _)
  have HDN := Lib.hid (fun u (hk : KeptB w1.heap.size (g + 1) w1 u) cs => iread_done hg hB1 hs1 hk cs)
  have hbs := Lib.hid (Nat.le_of_eq hg.symm)
  have HS1 := Lib.hid hs1
  rw [← hw1, ← hg]
  clear hg hw1 hz1 hB1 hs1
  go_upto_region 3 with (first | (go_at_call 95; (with_reducible refine (C0.out _ _ _ _ HI.out).mono ?_); rintro e v0 ⟨rfl, hS0⟩) | (go_at_call 95; (with_reducible refine (C1.out _ _ _ _ hS0).mono ?_); rintro e v1 ⟨rfl, hS1⟩) | (go_at_call 95; (with_reducible refine (C2.out _ _ _ _ hS1).mono ?_); rintro e v2 ⟨rfl, hS2⟩) | (go_at_call 95; (with_reducible refine (C3.out _ _ _ _ hS2).mono ?_); rintro e v3 ⟨rfl, hS3⟩) | (with_reducible refine wpList_store_new rfl 42 (.tmp 4) (.tmp 16) rfl (rcA lsn prev txn kd 0 0 0 0 0 ⟨#[]⟩ ⟨#[]⟩ 0 0 ⟨#[]⟩ 0 0 (.slice none 0 0) (.slice none 0 0)) _ _ rfl (by kernel_rfl) (by kernel_rfl) (by kernel_rfl) (by kernel_rfl) ?_))
  have H := Lib.hid (hS3.alloc (rcA lsn prev txn kd 0 0 0 0 0 ⟨#[]⟩ ⟨#[]⟩ 0 0 ⟨#[]⟩ 0 0 (.slice none 0 0) (.slice none 0 0)) 42)
  obtain ⟨x, hx⟩ : ∃ x, x = v3.heap.size := ⟨_, rfl⟩
  obtain ⟨W, hW⟩ : ∃ W, W = v3.alloc (.cells (rcA lsn prev txn kd 0 0 0 0 0 ⟨#[]⟩ ⟨#[]⟩ 0 0 ⟨#[]⟩ 0 0 (.slice none 0 0) (.slice none 0 0)) 42) := ⟨_, rfl⟩
  rw [← hx, ← hW] at H
  rw [← hx, ← hW]
  simp only [List.nil_append] at H
  clear hx hW hS0 hS1 hS2 hS3 HI C0 C1 C2 C3
  have hcx := blkCell H.out.get0
  have hgb := ((H.out.kept.block g (by have := HS1.out; omega) (by omega)).trans HGB.out)
  go_wp2_with (first
    | (with_reducible refine listLoad (by kernel_rfl) 42 (.tmp 4) rfl x rfl (rcA lsn prev txn kd 0 0 0 0 0 ⟨#[]⟩ ⟨#[]⟩ 0 0 ⟨#[]⟩ 0 0 (.slice none 0 0) (.slice none 0 0)) _ H.out.get0 _ Tryz.underlying42 (by kernel_rfl) (by kernel_rfl) ?_)
    | (with_reducible refine listStore (by kernel_rfl) 42 (.tmp 2) (.tmp 53) rfl g (rcA lsn prev txn kd 0 0 0 0 0 ⟨#[]⟩ ⟨#[]⟩ 0 0 ⟨#[]⟩ 0 0 (.slice none 0 0) (.slice none 0 0)) _ _ rfl rfl hgb (by kernel_rfl) (by kernel_rfl) (by kernel_rfl) ?_))
  refine bodyPost_ret (v := .agg (rcA lsn prev txn kd 0 0 0 0 0 ⟨#[]⟩ ⟨#[]⟩ 0 0 ⟨#[]⟩ 0 0 (.slice none 0 0) (.slice none 0 0))) (results_cell rfl _ _ rfl (load_whole (setRow_heap _ _ _ _ _ _ hgb) Tryz.underlying42 (by kernel_rfl) (by kernel_rfl))) rfl ?_
  rw [RDH.out]
  exact ⟨none, 0, none, 0, rfl, ⟨⟨Reads.none_ _ _ _ _, Reads.none_ _ _ _ _, ⟨Nat.zero_le _, Nat.zero_le _⟩⟩, NewT.none_ _ _ _, NewT.none_ _ _ _⟩, HDN.out _ H.out.kept _⟩
set_option maxRecDepth 100000 in
set_option maxHeartbeats 4000000 in
theorem iread_9 (s : ByteArray) (hm : s.size ≤ 1000000) (s1 : Rc.St) (h0 : Rc.numM false s.data.toList ⟨0, false⟩ 1 = (9, s1)) (w : World) :
    Calls Tryz.prog 62 #[.string s] w (IReadOut (Rc.readM false s.data.toList) w) := by
  have hl : s.data.toList.length = s.size := by simp
  have a1 := Rc.numM_f h0 (Nat.zero_le _)
  have C0 := Lib.hid (fun w1 b l u (hu : Ri w1 b s ⟨0, false⟩ l u) => hu.num1 h0 hm (Nat.zero_le _))
  rcases h1 : Rc.numM false s.data.toList s1 6 with ⟨lsn, s2⟩
  have a2 := Rc.numM_f h1 a1
  have C1 := Lib.hid (fun w1 b l u (hu : Ri w1 b s s1 l u) => hu.num6 h1 hm (by omega))
  rcases h2 : Rc.numM false s.data.toList s2 6 with ⟨prev, s3⟩
  have a3 := Rc.numM_f h2 a2
  have C2 := Lib.hid (fun w1 b l u (hu : Ri w1 b s s2 l u) => hu.num6 h2 hm (by omega))
  rcases h3 : Rc.numM false s.data.toList s3 6 with ⟨txn, s4⟩
  have a4 := Rc.numM_f h3 a3
  have C3 := Lib.hid (fun w1 b l u (hu : Ri w1 b s s3 l u) => hu.num6 h3 hm (by omega))
  have e0 : Rc.headM false s.data.toList = (Rc.bare 9 lsn prev txn, s4) := by
    unfold Rc.headM; simp only [h0, h1, h2, h3]
  have RD : Rc.readM false s.data.toList = Rc.listsM false s.data.toList (Rc.bare 9 lsn prev txn) s4 := by
    unfold Rc.readM
    rw [e0]
    show Rc.restM false _ (Rc.bare 9 lsn prev txn) s4 = _
    rw [Rc.restM_9 rfl]
  have RDH := Lib.hid RD
  clear RD
  have CH := Lib.hid (fun (b : Nat) (u : World) (hb : u.heap[b]? = some (.cells (iC s s4.at_ s4.bad) 140 (0, 0))) => icheck_any b s s4 hm (by omega) lsn prev txn u hb)
  obtain ⟨rr, hrr⟩ : ∃ r, r = Rc.listsM false s.data.toList (Rc.bare 9 lsn prev txn) s4 := ⟨_, rfl⟩
  rw [← hrr] at CH RDH
  clear hrr
  clear h0 h1 h2 h3 a1 a2 a3 a4 e0
  go_enter Tryz.func62, Tryz.ntmps62
  go_upto_region 2 with fail
  obtain ⟨g, hg⟩ : ∃ g, g = w.heap.size := ⟨_, rfl⟩
  obtain ⟨w1, hw1⟩ : ∃ W, W = (w.alloc (.cells zeroA 42)).alloc (.cells #[.string s, .int .i64 0, .bool false] 140) := ⟨_, rfl⟩
  have hz1 : (w.alloc (.cells zeroA 42)).heap.size = g + 1 := by rw [hg]; simp
  have hs1 : w1.heap.size = g + 2 := by rw [hw1, hg]; simp
  have hB1 : Below w.heap.size w w1 := by rw [hw1]; exact pastAlloc (allocB _ _)
  have HI : Hid (Ri w1 (g + 1) s ⟨0, false⟩ [] w1) := Lib.hid (Ri.start (by rw [hw1, ← hz1]; exact heap_alloc_new _ _))
  have HGB : Hid (w1.heap[g]? = some (.cells zeroA 42 (0, 0))) := Lib.hid (by rw [hw1, hg]; exact new21 _ _ _)
  have HDN := Lib.hid (fun u (hk : KeptB w1.heap.size (g + 1) w1 u) cs => iread_done hg hB1 hs1 hk cs)
  have hbs := Lib.hid (Nat.le_of_eq hg.symm)
  have HS1 := Lib.hid hs1
  rw [← hw1, ← hg]
  clear hg hw1 hz1 hB1 hs1
  go_upto_region 3 with (first | (go_at_call 95; (with_reducible refine (C0.out _ _ _ _ HI.out).mono ?_); rintro e v0 ⟨rfl, hS0⟩) | (go_at_call 95; (with_reducible refine (C1.out _ _ _ _ hS0).mono ?_); rintro e v1 ⟨rfl, hS1⟩) | (go_at_call 95; (with_reducible refine (C2.out _ _ _ _ hS1).mono ?_); rintro e v2 ⟨rfl, hS2⟩) | (go_at_call 95; (with_reducible refine (C3.out _ _ _ _ hS2).mono ?_); rintro e v3 ⟨rfl, hS3⟩) | (with_reducible refine wpList_store_new rfl 42 (.tmp 4) (.tmp 16) rfl (rcA lsn prev txn 9 0 0 0 0 0 ⟨#[]⟩ ⟨#[]⟩ 0 0 ⟨#[]⟩ 0 0 (.slice none 0 0) (.slice none 0 0)) _ _ rfl (by kernel_rfl) (by kernel_rfl) (by kernel_rfl) (by kernel_rfl) ?_))
  have H := Lib.hid (hS3.alloc (rcA lsn prev txn 9 0 0 0 0 0 ⟨#[]⟩ ⟨#[]⟩ 0 0 ⟨#[]⟩ 0 0 (.slice none 0 0) (.slice none 0 0)) 42)
  obtain ⟨x, hx⟩ : ∃ x, x = v3.heap.size := ⟨_, rfl⟩
  obtain ⟨W, hW⟩ : ∃ W, W = v3.alloc (.cells (rcA lsn prev txn 9 0 0 0 0 0 ⟨#[]⟩ ⟨#[]⟩ 0 0 ⟨#[]⟩ 0 0 (.slice none 0 0) (.slice none 0 0)) 42) := ⟨_, rfl⟩
  rw [← hx, ← hW] at H
  rw [← hx, ← hW]
  simp only [List.nil_append] at H
  clear hx hW hS0 hS1 hS2 hS3 HI C0 C1 C2 C3
  have hcx := blkCell H.out.get0
  go_wp2_with (first
    | (with_reducible refine listLoad (by kernel_rfl) 42 (.tmp 4) rfl x rfl (rcA lsn prev txn 9 0 0 0 0 0 ⟨#[]⟩ ⟨#[]⟩ 0 0 ⟨#[]⟩ 0 0 (.slice none 0 0) (.slice none 0 0)) _ H.out.get0 _ Tryz.underlying42 (by kernel_rfl) (by kernel_rfl) ?_)
    | (go_at_call 98; (with_reducible refine (CH.out (g + 1) _ H.out.rd).mono ?_); rintro e u ⟨A, c, B, d, rfl, hrn, h3⟩; (try dsimp only [recV, recA]); have hkk := H.out.kept.trans (h3.old H.out.kept.size); have hgb := ((hkk.block g (by have := HS1.out; omega) (by omega)).trans HGB.out))
    | (with_reducible refine listStore (by kernel_rfl) 42 (.tmp 2) (.tmp 52) rfl g (rcA rr.lsn rr.prev rr.txn rr.kind rr.page rr.next rr.num rr.op.kind rr.op.slot rr.op.old rr.op.new rr.how rr.root rr.e.key rr.e.page rr.e.slot (.slice A rr.txns.length c) (.slice B rr.dirty.length d)) _ _ rfl rfl hgb (by kernel_rfl) (by kernel_rfl) (by kernel_rfl) ?_))
  refine bodyPost_ret (v := .agg (rcA rr.lsn rr.prev rr.txn rr.kind rr.page rr.next rr.num rr.op.kind rr.op.slot rr.op.old rr.op.new rr.how rr.root rr.e.key rr.e.page rr.e.slot (.slice A rr.txns.length c) (.slice B rr.dirty.length d))) (results_cell rfl _ _ rfl (load_whole (setRow_heap _ _ _ _ _ _ hgb) Tryz.underlying42 (by kernel_rfl) (by kernel_rfl))) rfl ?_
  rw [RDH.out]
  exact ⟨A, c, B, d, rfl, ((hrn.row g _ (by have := heapLt HGB.out; have := H.out.kept.size; omega)).mono (by have h1 := hbs.out; have h2 := H.out.kept.size; have h3 := HS1.out; omega)), HDN.out _ hkk _⟩
set_option maxRecDepth 100000 in
set_option maxHeartbeats 4000000 in
theorem iread_21 (s : ByteArray) (hm : s.size ≤ 1000000) (s1 : Rc.St) (hh : (Rc.numM false s.data.toList (Rc.opM false s.data.toList (Rc.numM false s.data.toList (Rc.headM false s.data.toList).2 3).2).2 1).1 = 1) (h0 : Rc.numM false s.data.toList ⟨0, false⟩ 1 = (2, s1)) (w : World) :
    Calls Tryz.prog 62 #[.string s] w (IReadOut (Rc.readM false s.data.toList) w) := by
  have hl : s.data.toList.length = s.size := by simp
  have a1 := Rc.numM_f h0 (Nat.zero_le _)
  have C0 := Lib.hid (fun w1 b l u (hu : Ri w1 b s ⟨0, false⟩ l u) => hu.num1 h0 hm (Nat.zero_le _))
  rcases h1 : Rc.numM false s.data.toList s1 6 with ⟨lsn, s2⟩
  have a2 := Rc.numM_f h1 a1
  have C1 := Lib.hid (fun w1 b l u (hu : Ri w1 b s s1 l u) => hu.num6 h1 hm (by omega))
  rcases h2 : Rc.numM false s.data.toList s2 6 with ⟨prev, s3⟩
  have a3 := Rc.numM_f h2 a2
  have C2 := Lib.hid (fun w1 b l u (hu : Ri w1 b s s2 l u) => hu.num6 h2 hm (by omega))
  rcases h3 : Rc.numM false s.data.toList s3 6 with ⟨txn, s4⟩
  have a4 := Rc.numM_f h3 a3
  have C3 := Lib.hid (fun w1 b l u (hu : Ri w1 b s s3 l u) => hu.num6 h3 hm (by omega))
  rcases h4 : Rc.numM false s.data.toList s4 3 with ⟨pg, s5⟩
  have a5 := Rc.numM_f h4 a4
  rcases h5 : Rc.opM false s.data.toList s5 with ⟨o, s6⟩
  have a6 := Rc.opM_f h5 a5
  rcases h6 : Rc.numM false s.data.toList s6 1 with ⟨hw, s7⟩
  have a7 := Rc.numM_f h6 a6
  have e0 : Rc.headM false s.data.toList = (Rc.bare 2 lsn prev txn, s4) := by
    unfold Rc.headM; simp only [h0, h1, h2, h3]
  have hw1 : hw = 1 := by rw [e0] at hh; simp only [h4, h5, h6] at hh; exact hh
  subst hw1
  have RD : Rc.readM false s.data.toList = ⟨lsn, prev, txn, 2, pg, 0, 0, o, 1, 0, Rc.noKey, [], []⟩ := by
    unfold Rc.readM
    rw [e0]
    show Rc.restM false _ (Rc.bare 2 lsn prev txn) s4 = _
    rw [Rc.restM_2 rfl]
    simp only [h4, h5]
    unfold Rc.treeM
    simp only [h6, ↓reduceIte]
    rfl
  have RDH := Lib.hid RD
  clear RD
  have CH := Lib.hid (fun (b : Nat) (u : World) (hb : u.heap[b]? = some (.cells (iC s s4.at_ s4.bad) 140 (0, 0))) => ichange_1 b s s4 hm (by omega) lsn prev txn 2 0 0 0 0 0 0 0 0 0 ⟨#[]⟩ ⟨#[]⟩ ⟨#[]⟩ [] [] none none 0 0 0 0 h4 h5 h6 u hb)
  clear h0 h1 h2 h3 h4 h5 h6 a1 a2 a3 a4 a5 a6 a7 e0 hh
  go_enter Tryz.func62, Tryz.ntmps62
  go_upto_region 2 with fail
  obtain ⟨g, hg⟩ : ∃ g, g = w.heap.size := ⟨_, rfl⟩
  obtain ⟨w1, hw1⟩ : ∃ W, W = (w.alloc (.cells zeroA 42)).alloc (.cells #[.string s, .int .i64 0, .bool false] 140) := ⟨_, rfl⟩
  have hz1 : (w.alloc (.cells zeroA 42)).heap.size = g + 1 := by rw [hg]; simp
  have hs1 : w1.heap.size = g + 2 := by rw [hw1, hg]; simp
  have hB1 : Below w.heap.size w w1 := by rw [hw1]; exact pastAlloc (allocB _ _)
  have HI : Hid (Ri w1 (g + 1) s ⟨0, false⟩ [] w1) := Lib.hid (Ri.start (by rw [hw1, ← hz1]; exact heap_alloc_new _ _))
  have HGB : Hid (w1.heap[g]? = some (.cells zeroA 42 (0, 0))) := Lib.hid (by rw [hw1, hg]; exact new21 _ _ _)
  have HDN := Lib.hid (fun u (hk : KeptB w1.heap.size (g + 1) w1 u) cs => iread_done hg hB1 hs1 hk cs)
  have hbs := Lib.hid (Nat.le_of_eq hg.symm)
  have HS1 := Lib.hid hs1
  rw [← hw1, ← hg]
  clear hg hw1 hz1 hB1 hs1
  go_upto_region 3 with (first | (go_at_call 95; (with_reducible refine (C0.out _ _ _ _ HI.out).mono ?_); rintro e v0 ⟨rfl, hS0⟩) | (go_at_call 95; (with_reducible refine (C1.out _ _ _ _ hS0).mono ?_); rintro e v1 ⟨rfl, hS1⟩) | (go_at_call 95; (with_reducible refine (C2.out _ _ _ _ hS1).mono ?_); rintro e v2 ⟨rfl, hS2⟩) | (go_at_call 95; (with_reducible refine (C3.out _ _ _ _ hS2).mono ?_); rintro e v3 ⟨rfl, hS3⟩) | (with_reducible refine wpList_store_new rfl 42 (.tmp 4) (.tmp 16) rfl (rcA lsn prev txn 2 0 0 0 0 0 ⟨#[]⟩ ⟨#[]⟩ 0 0 ⟨#[]⟩ 0 0 (.slice none 0 0) (.slice none 0 0)) _ _ rfl (by kernel_rfl) (by kernel_rfl) (by kernel_rfl) (by kernel_rfl) ?_))
  have H := Lib.hid (hS3.alloc (rcA lsn prev txn 2 0 0 0 0 0 ⟨#[]⟩ ⟨#[]⟩ 0 0 ⟨#[]⟩ 0 0 (.slice none 0 0) (.slice none 0 0)) 42)
  obtain ⟨x, hx⟩ : ∃ x, x = v3.heap.size := ⟨_, rfl⟩
  obtain ⟨W, hW⟩ : ∃ W, W = v3.alloc (.cells (rcA lsn prev txn 2 0 0 0 0 0 ⟨#[]⟩ ⟨#[]⟩ 0 0 ⟨#[]⟩ 0 0 (.slice none 0 0) (.slice none 0 0)) 42) := ⟨_, rfl⟩
  rw [← hx, ← hW] at H
  rw [← hx, ← hW]
  simp only [List.nil_append] at H
  clear hx hW hS0 hS1 hS2 hS3 HI C0 C1 C2 C3
  have hcx := blkCell H.out.get0
  go_wp2_with (first
    | (with_reducible refine listLoad (by kernel_rfl) 42 (.tmp 4) rfl x rfl (rcA lsn prev txn 2 0 0 0 0 0 ⟨#[]⟩ ⟨#[]⟩ 0 0 ⟨#[]⟩ 0 0 (.slice none 0 0) (.slice none 0 0)) _ H.out.get0 _ Tryz.underlying42 (by kernel_rfl) (by kernel_rfl) ?_)
    | (go_at_call 96; (with_reducible refine (CH.out (g + 1) _ H.out.rd).mono ?_); rintro e u ⟨rfl, h2, h3⟩; (try dsimp only [recV, recA]); have hkk := H.out.kept.trans (h3.old H.out.kept.size); have hgb := ((hkk.block g (by have := HS1.out; omega) (by omega)).trans HGB.out))
    | (with_reducible refine listStore (by kernel_rfl) 42 (.tmp 2) (.tmp 23) rfl g (rcA lsn prev txn 2 pg 0 0 o.kind o.slot o.old o.new 1 0 ⟨#[]⟩ 0 0 (.slice none 0 0) (.slice none 0 0)) _ _ rfl rfl hgb (by kernel_rfl) (by kernel_rfl) (by kernel_rfl) ?_))
  refine bodyPost_ret (v := .agg (rcA lsn prev txn 2 pg 0 0 o.kind o.slot o.old o.new 1 0 ⟨#[]⟩ 0 0 (.slice none 0 0) (.slice none 0 0))) (results_cell rfl _ _ rfl (load_whole (setRow_heap _ _ _ _ _ _ hgb) Tryz.underlying42 (by kernel_rfl) (by kernel_rfl))) rfl ?_
  rw [RDH.out]
  exact ⟨none, 0, none, 0, rfl, ⟨⟨Reads.none_ _ _ _ _, Reads.none_ _ _ _ _, ⟨Nat.zero_le _, Nat.zero_le _⟩⟩, NewT.none_ _ _ _, NewT.none_ _ _ _⟩, HDN.out _ hkk _⟩
set_option maxRecDepth 100000 in
set_option maxHeartbeats 4000000 in
theorem iread_22 (s : ByteArray) (hm : s.size ≤ 1000000) (s1 : Rc.St) (hh : ¬ (Rc.numM false s.data.toList (Rc.opM false s.data.toList (Rc.numM false s.data.toList (Rc.headM false s.data.toList).2 3).2).2 1).1 = 1) (h0 : Rc.numM false s.data.toList ⟨0, false⟩ 1 = (2, s1)) (w : World) :
    Calls Tryz.prog 62 #[.string s] w (IReadOut (Rc.readM false s.data.toList) w) := by
  have hl : s.data.toList.length = s.size := by simp
  have a1 := Rc.numM_f h0 (Nat.zero_le _)
  have C0 := Lib.hid (fun w1 b l u (hu : Ri w1 b s ⟨0, false⟩ l u) => hu.num1 h0 hm (Nat.zero_le _))
  rcases h1 : Rc.numM false s.data.toList s1 6 with ⟨lsn, s2⟩
  have a2 := Rc.numM_f h1 a1
  have C1 := Lib.hid (fun w1 b l u (hu : Ri w1 b s s1 l u) => hu.num6 h1 hm (by omega))
  rcases h2 : Rc.numM false s.data.toList s2 6 with ⟨prev, s3⟩
  have a3 := Rc.numM_f h2 a2
  have C2 := Lib.hid (fun w1 b l u (hu : Ri w1 b s s2 l u) => hu.num6 h2 hm (by omega))
  rcases h3 : Rc.numM false s.data.toList s3 6 with ⟨txn, s4⟩
  have a4 := Rc.numM_f h3 a3
  have C3 := Lib.hid (fun w1 b l u (hu : Ri w1 b s s3 l u) => hu.num6 h3 hm (by omega))
  rcases h4 : Rc.numM false s.data.toList s4 3 with ⟨pg, s5⟩
  have a5 := Rc.numM_f h4 a4
  rcases h5 : Rc.opM false s.data.toList s5 with ⟨o, s6⟩
  have a6 := Rc.opM_f h5 a5
  rcases h6 : Rc.numM false s.data.toList s6 1 with ⟨hw, s7⟩
  have a7 := Rc.numM_f h6 a6
  rcases h7 : Rc.numM false s.data.toList s7 3 with ⟨ro, s8⟩
  have a8 := Rc.numM_f h7 a7
  rcases h8 : Rc.numM false s.data.toList s8 3 with ⟨pa, s9⟩
  have a9 := Rc.numM_f h8 a8
  rcases h9 : Rc.numM false s.data.toList s9 2 with ⟨so, s10⟩
  have a10 := Rc.numM_f h9 a9
  rcases h10 : Rc.textM s.data.toList s10 with ⟨ke, s11⟩
  have a11 := Rc.textM_f h10 a10
  have e0 : Rc.headM false s.data.toList = (Rc.bare 2 lsn prev txn, s4) := by
    unfold Rc.headM; simp only [h0, h1, h2, h3]
  have hw1 : ¬ hw = 1 := by rw [e0] at hh; simp only [h4, h5, h6] at hh; exact hh
  have RD : Rc.readM false s.data.toList = ⟨lsn, prev, txn, 2, pg, 0, 0, o, hw, ro, ⟨ke, pa, so⟩, [], []⟩ := by
    unfold Rc.readM
    rw [e0]
    show Rc.restM false _ (Rc.bare 2 lsn prev txn) s4 = _
    rw [Rc.restM_2 rfl]
    simp only [h4, h5]
    unfold Rc.treeM
    simp only [h6, hw1, ↓reduceIte, h7, h8, h9, h10]
    rfl
  have RDH := Lib.hid RD
  clear RD
  have CH := Lib.hid (fun (b : Nat) (u : World) (hb : u.heap[b]? = some (.cells (iC s s4.at_ s4.bad) 140 (0, 0))) => ichange_2 b s s4 hm (by omega) lsn prev txn 2 0 0 0 0 0 0 0 0 0 ⟨#[]⟩ ⟨#[]⟩ ⟨#[]⟩ [] [] none none 0 0 0 0 h4 h5 h6 h7 h8 h9 h10 hw1 u hb)
  clear h0 h1 h2 h3 h4 h5 h6 h7 h8 h9 h10 a1 a2 a3 a4 a5 a6 a7 a8 a9 a10 a11 e0 hh hw1
  go_enter Tryz.func62, Tryz.ntmps62
  go_upto_region 2 with fail
  obtain ⟨g, hg⟩ : ∃ g, g = w.heap.size := ⟨_, rfl⟩
  obtain ⟨w1, hw1⟩ : ∃ W, W = (w.alloc (.cells zeroA 42)).alloc (.cells #[.string s, .int .i64 0, .bool false] 140) := ⟨_, rfl⟩
  have hz1 : (w.alloc (.cells zeroA 42)).heap.size = g + 1 := by rw [hg]; simp
  have hs1 : w1.heap.size = g + 2 := by rw [hw1, hg]; simp
  have hB1 : Below w.heap.size w w1 := by rw [hw1]; exact pastAlloc (allocB _ _)
  have HI : Hid (Ri w1 (g + 1) s ⟨0, false⟩ [] w1) := Lib.hid (Ri.start (by rw [hw1, ← hz1]; exact heap_alloc_new _ _))
  have HGB : Hid (w1.heap[g]? = some (.cells zeroA 42 (0, 0))) := Lib.hid (by rw [hw1, hg]; exact new21 _ _ _)
  have HDN := Lib.hid (fun u (hk : KeptB w1.heap.size (g + 1) w1 u) cs => iread_done hg hB1 hs1 hk cs)
  have hbs := Lib.hid (Nat.le_of_eq hg.symm)
  have HS1 := Lib.hid hs1
  rw [← hw1, ← hg]
  clear hg hw1 hz1 hB1 hs1
  go_upto_region 3 with (first | (go_at_call 95; (with_reducible refine (C0.out _ _ _ _ HI.out).mono ?_); rintro e v0 ⟨rfl, hS0⟩) | (go_at_call 95; (with_reducible refine (C1.out _ _ _ _ hS0).mono ?_); rintro e v1 ⟨rfl, hS1⟩) | (go_at_call 95; (with_reducible refine (C2.out _ _ _ _ hS1).mono ?_); rintro e v2 ⟨rfl, hS2⟩) | (go_at_call 95; (with_reducible refine (C3.out _ _ _ _ hS2).mono ?_); rintro e v3 ⟨rfl, hS3⟩) | (with_reducible refine wpList_store_new rfl 42 (.tmp 4) (.tmp 16) rfl (rcA lsn prev txn 2 0 0 0 0 0 ⟨#[]⟩ ⟨#[]⟩ 0 0 ⟨#[]⟩ 0 0 (.slice none 0 0) (.slice none 0 0)) _ _ rfl (by kernel_rfl) (by kernel_rfl) (by kernel_rfl) (by kernel_rfl) ?_))
  have H := Lib.hid (hS3.alloc (rcA lsn prev txn 2 0 0 0 0 0 ⟨#[]⟩ ⟨#[]⟩ 0 0 ⟨#[]⟩ 0 0 (.slice none 0 0) (.slice none 0 0)) 42)
  obtain ⟨x, hx⟩ : ∃ x, x = v3.heap.size := ⟨_, rfl⟩
  obtain ⟨W, hW⟩ : ∃ W, W = v3.alloc (.cells (rcA lsn prev txn 2 0 0 0 0 0 ⟨#[]⟩ ⟨#[]⟩ 0 0 ⟨#[]⟩ 0 0 (.slice none 0 0) (.slice none 0 0)) 42) := ⟨_, rfl⟩
  rw [← hx, ← hW] at H
  rw [← hx, ← hW]
  simp only [List.nil_append] at H
  clear hx hW hS0 hS1 hS2 hS3 HI C0 C1 C2 C3
  have hcx := blkCell H.out.get0
  go_wp2_with (first
    | (with_reducible refine listLoad (by kernel_rfl) 42 (.tmp 4) rfl x rfl (rcA lsn prev txn 2 0 0 0 0 0 ⟨#[]⟩ ⟨#[]⟩ 0 0 ⟨#[]⟩ 0 0 (.slice none 0 0) (.slice none 0 0)) _ H.out.get0 _ Tryz.underlying42 (by kernel_rfl) (by kernel_rfl) ?_)
    | (go_at_call 96; (with_reducible refine (CH.out (g + 1) _ H.out.rd).mono ?_); rintro e u ⟨rfl, h2, h3⟩; (try dsimp only [recV, recA]); have hkk := H.out.kept.trans (h3.old H.out.kept.size); have hgb := ((hkk.block g (by have := HS1.out; omega) (by omega)).trans HGB.out))
    | (with_reducible refine listStore (by kernel_rfl) 42 (.tmp 2) (.tmp 23) rfl g (rcA lsn prev txn 2 pg 0 0 o.kind o.slot o.old o.new hw ro ke pa so (.slice none 0 0) (.slice none 0 0)) _ _ rfl rfl hgb (by kernel_rfl) (by kernel_rfl) (by kernel_rfl) ?_))
  refine bodyPost_ret (v := .agg (rcA lsn prev txn 2 pg 0 0 o.kind o.slot o.old o.new hw ro ke pa so (.slice none 0 0) (.slice none 0 0))) (results_cell rfl _ _ rfl (load_whole (setRow_heap _ _ _ _ _ _ hgb) Tryz.underlying42 (by kernel_rfl) (by kernel_rfl))) rfl ?_
  rw [RDH.out]
  exact ⟨none, 0, none, 0, rfl, ⟨⟨Reads.none_ _ _ _ _, Reads.none_ _ _ _ _, ⟨Nat.zero_le _, Nat.zero_le _⟩⟩, NewT.none_ _ _ _, NewT.none_ _ _ _⟩, HDN.out _ hkk _⟩
theorem iread_any (s : ByteArray) (hm : s.size ≤ 1000000) (w : World) :
    Calls Tryz.prog 62 #[.string s] w (IReadOut (Rc.readM false s.data.toList) w) := by
  rcases h0 : Rc.numM false s.data.toList ⟨0, false⟩ 1 with ⟨kd, s1⟩
  by_cases h2 : kd = 2
  · subst h2
    by_cases hh : (Rc.numM false s.data.toList (Rc.opM false s.data.toList (Rc.numM false s.data.toList (Rc.headM false s.data.toList).2 3).2).2 1).1 = 1
    · exact iread_21 s hm s1 hh h0 w
    · exact iread_22 s hm s1 hh h0 w
  by_cases h3 : kd = 3
  · subst h3; exact iread_3 s hm s1 h0 w
  by_cases h4 : kd = 4
  · subst h4; exact iread_4 s hm s1 h0 w
  by_cases h8 : kd = 8
  · subst h8; exact iread_8 s hm s1 h0 w
  by_cases h9 : kd = 9
  · subst h9; exact iread_9 s hm s1 h0 w
  exact iread_k s hm s1 kd h2 h3 h4 h8 h9 h0 w
end Go.Proofs.YtojaagnfjenhoaaGreat
/- Words for memory: bytes of the call's own, of which none that can be written is frozen; a string is appended. -/
namespace Go.Proofs.YtojaagnfjenhoaaGreat
open Go.RowKit
/-- The bytes l, in a block of the call's own. -/
def OwnB (B : Nat) (w : World) (v : Value) (l : List UInt8) : Prop :=
  ∃ g cap, v = .slice (some ⟨g, 0, none⟩) l.length cap ∧ B ≤ g ∧ g < w.heap.size ∧ l.length ≤ cap ∧ cap ≤ maxLen ∧
    (∀ j, j < cap → (w.cell? ⟨g, j, none⟩).isSome = true ∧ w.frozen? ⟨g, j, none⟩ = false) ∧ ∀ (j : Nat) (hj : j < l.length), w.cell? ⟨g, j, none⟩ = some (.int .u8 (l[j].toNat : Int))
theorem OwnB.below {B : Nat} {w w' : World} {v : Value} {l : List UInt8} (h : OwnB B w v l) (hb : Below w.heap.size w w') : OwnB B w' v l := by
  obtain ⟨g, cap, h1, h2, h3, h4, h5, h6, h7⟩ := h
  refine ⟨g, cap, h1, h2, Nat.lt_of_lt_of_le h3 hb.size, h4, h5, fun j hj => ?_, fun j hj => ?_⟩
  · rw [hb.cell (p := ⟨g, j, none⟩) h3, hb.frozen (p := ⟨g, j, none⟩) h3]; exact h6 j hj
  · rw [hb.cell (p := ⟨g, j, none⟩) h3]; exact h7 j hj
theorem OwnB.mono {B B' : Nat} {w : World} {v : Value} {l : List UInt8} (h : OwnB B w v l) (hb : B' ≤ B) : OwnB B' w v l := by
  obtain ⟨g, cap, h1, h2, h3⟩ := h
  exact ⟨g, cap, h1, Nat.le_trans hb h2, h3⟩
/-- A string's bytes, copied. -/
theorem ownB_conv (w : World) (s : ByteArray) (hs : s.size ≤ 1000000) : OwnB w.heap.size (Lib.bytesWorld w 5 s) (.slice (some ⟨w.heap.size, 0, none⟩) s.size (grownCap w s.size 0 5)) s.data.toList := by
  have hsz : s.data.toList.length = s.size := by simp
  have hge := grownCap_ge w s.size 0 5
  have hcm := grownCap_le_maxLen w s.size 0 5 (by simp only [maxLen]; omega)
  have hcs : (Lib.bytesCells w 5 s).size = grownCap w s.size 0 5 := by
    unfold Lib.bytesCells
    rw [Array.size_append, Array.size_map, Array.size_replicate]
    show s.size + _ = _
    omega
  have hn := Lib.bytesWorld_at_new w 5 s
  refine ⟨w.heap.size, _, by rw [hsz], Nat.le_refl _, by rw [Lib.bytesWorld_size]; omega, by rw [hsz]; exact hge, hcm, fun j hj => ⟨?_, ?_⟩, fun j hj => ?_⟩
  · unfold World.cell?
    rw [hn]
    simp only
    rw [Array.getElem?_eq_getElem (by rw [hcs]; exact hj)]
    rfl
  · unfold World.frozen?
    rw [hn]
    simp only [Bool.and_eq_false_iff, decide_eq_false_iff_not]
    left
    rw [hcs]; omega
  · rw [Lib.bytesWorld_cell w 5 s j (by omega)]
    rw [List.getD_eq_getElem?_getD, List.getElem?_eq_getElem hj, Option.getD_some]
/-- A string is appended to bytes of the call's own. -/
theorem run_appB {P : Program} {w : World} (t u ty e : TypeId) (i : TypeInfo) (ht : P.underlying t = some (.slice e)) (hu : P.underlying u = some .string) (hi : P.info? e = some i) (hz : i.zero = some (.int .u8 0)) (hsize : i.size = 1) (hby : i.bytes = 1)
    {B : Nat} {v : Value} {l : List UInt8} (h : OwnB B w v l) (s : ByteArray) (hlen : l.length + s.size ≤ 140737488355328) (hB : B ≤ w.heap.size) :
    ∃ v' w', (Builtin.append_ #[t, u] ty #[v, .string s]).run P w = .ok v' w' ∧ OwnB B w' v' (l ++ s.data.toList) ∧ Below B w w' := by
  obtain ⟨g, cap, rfl, hBg, hg, hlc, hcm, hok, hread⟩ := h
  have hsl : s.data.toList.length = s.size := by simp
  have hcl : (Lib.strCells s).length = s.size := Lib.strCells_length s
  have hcell : ∀ (j : Nat) (hj : j < s.size), (Lib.strCells s)[j]? = some (.int .u8 ((s.data.toList[j]'(by rw [hsl]; exact hj)).toNat : Int)) := fun j hj => by
    unfold Lib.strCells
    rw [List.getElem?_map, List.getElem?_eq_getElem (by rw [hsl]; exact hj)]
    rfl
  by_cases hroom : l.length + s.size ≤ cap
  · have hf := Lib.run_firstCells_string (P := P) w 1 s
    have hst := run_storeCells_cells (P := P) g l.length (Lib.strCells s) 0 w (fun j hj => (hok _ (by omega)).1) (fun j hj => (hok _ (by omega)).2) (Lib.strCells_oneCell s)
    simp only [Nat.add_zero] at hst
    refine ⟨.slice (some ⟨g, 0, none⟩) (l.length + s.size) cap, w.setCells g l.length (Lib.strCells s), ?_, ⟨g, cap, by rw [List.length_append, hsl], hBg, ?_, by rw [List.length_append, hsl]; exact hroom, hcm, fun j hj => ⟨?_, ?_⟩, fun j hj => ?_⟩, ?_⟩
    · simp [Builtin.append_, run_underlying ht, run_underlying hu, sizeOf, typeInfo, hi, hsize, Builtin.lenOf, hroom, hf, Addr.add_lit, hst]
    · exact Nat.lt_of_lt_of_le hg (below_setCells (B := B) (a := w) hBg _ _ _ (Below.refl _ _)).size
    · exact World.isSome_setCells g _ _ _ _ (hok j hj).1
    · rw [World.frozen?_setCells]; exact (hok j hj).2
    · rw [List.length_append, hsl] at hj
      by_cases hjl : j < l.length
      · rw [World.cell?_setCells_out g _ _ _ _ (fun _ _ => .inl hjl), List.getElem_append_left hjl]
        exact hread j hjl
      · obtain ⟨m, rfl⟩ : ∃ m, j = l.length + m := ⟨j - l.length, by omega⟩
        have hm : m < s.size := by omega
        rw [World.cell?_setCells_in g _ _ _ (fun k hk => (hok _ (by omega)).1) m (by omega)]
        have h2 := hcell m hm
        rw [List.getElem?_eq_getElem (by omega)] at h2
        rw [List.getElem_append_right (by omega)]
        simpa using h2
    · exact below_setCells (B := B) (a := w) hBg _ _ _ (Below.refl _ _)
  · obtain ⟨olds, ho⟩ : ∃ o, o = Lib.byteCells l := ⟨_, rfl⟩
    have hol : olds.length = l.length := by rw [ho]; exact Lib.byteCells_length l
    have hr := Lib.run_append_grow_string (P := P) w t u ty e i (.int .u8 0) ht hu hi hz ⟨g, 0, none⟩ l.length cap olds (by rw [hsize, hol, Nat.mul_one]) (fun j x hx => by
      have hj : j < l.length := by rw [← hol]; exact (List.getElem?_eq_some_iff.1 hx).1
      have ha : (⟨g, 0, none⟩ : Addr).add j = ⟨g, j, none⟩ := by rw [Addr.add_mid, Nat.zero_add]
      rw [ha, hread j hj]
      rw [ho] at hx
      unfold Lib.byteCells at hx
      rw [List.getElem?_map, List.getElem?_eq_getElem hj] at hx
      simpa using hx) s (by omega) (by omega) (by rw [hby]; exact growslice_fits (by omega) (by omega))
    have hge := grownCap_ge w (l.length + s.size) cap e
    have hcm2 := grownCap_le_maxLen w (l.length + s.size) cap e (by simp only [maxLen]; omega)
    have hzc : (Builtin.zeroCells (Value.int IntKind.u8 0).cells (grownCap w (l.length + s.size) cap e - (l.length + s.size))).size = grownCap w (l.length + s.size) cap e - (l.length + s.size) := by
      rw [size_zeroCells]; show _ * 1 = _; omega
    have hnew := heap_alloc_new w.drew (.cells (olds.toArray ++ (Lib.strCells s).toArray ++ Builtin.zeroCells (Value.int IntKind.u8 0).cells (grownCap w (l.length + s.size) cap e - (l.length + s.size))) e)
    have hsize2 : (olds.toArray ++ (Lib.strCells s).toArray ++ Builtin.zeroCells (Value.int IntKind.u8 0).cells (grownCap w (l.length + s.size) cap e - (l.length + s.size))).size = grownCap w (l.length + s.size) cap e := by
      rw [Array.size_append, Array.size_append, hzc, List.size_toArray, List.size_toArray, hol, hcl]; omega
    have hds : w.drew.heap.size = w.heap.size := rfl
    rw [hds] at hnew
    refine ⟨_, _, hr, ⟨w.heap.size, _, by rw [List.length_append, hsl], hB, ?_, by rw [List.length_append, hsl]; exact hge, hcm2, fun j hj => ⟨?_, ?_⟩, fun j hj => ?_⟩, ?_⟩
    · exact heapLt hnew
    · rw [blkCell hnew, Array.getElem?_eq_getElem (by rw [hsize2]; exact hj)]; rfl
    · exact blkFrozen hnew j
    · rw [List.length_append, hsl] at hj
      rw [blkCell hnew]
      by_cases hjl : j < l.length
      · rw [List.getElem_append_left hjl, Array.getElem?_append_left (by rw [Array.size_append, List.size_toArray, List.size_toArray, hol]; omega), Array.getElem?_append_left (by rw [List.size_toArray, hol]; exact hjl), List.getElem?_toArray, ho]
        unfold Lib.byteCells
        rw [List.getElem?_map, List.getElem?_eq_getElem hjl]; rfl
      · obtain ⟨m, rfl⟩ : ∃ m, j = l.length + m := ⟨j - l.length, by omega⟩
        have hm : m < s.size := by omega
        rw [Array.getElem?_append_left (by rw [Array.size_append, List.size_toArray, List.size_toArray, hol, hcl]; omega), Array.getElem?_append_right (by rw [List.size_toArray, hol]; omega), List.size_toArray, hol, List.getElem?_toArray, List.getElem_append_right (by omega)]
        have h2 := hcell m hm
        simp only [Nat.add_sub_cancel_left]
        rw [h2]
    · exact ((Below.refl B w).drew).alloc (by show B ≤ w.heap.size; exact hB) _
/-- The operation, for the walk. -/
theorem wp_appB {P : Program} {o : Oper} {a : Act} {K : Act → World → Prop} {Q : Exit → Act → World → Prop} (w : World) (s x : Operand) (t u e : TypeId)
    (ht : P.underlying t = some (.slice e)) (hu : P.underlying u = some .string) (hi : (P.info? e).map (fun i => (i.zero, i.size, i.bytes)) = some (some (.int .u8 0), 1, 1))
    (ho : o.op = .call { callee := .builtin .append, args := #[s, x], argTypes := #[t, u] })
    (B : Nat) (v : Value) (l : List UInt8) (hs : a.eval s = v) (hown : OwnB B w v l) (b : ByteArray) (hx : a.eval x = .string b) (hlen : l.length + b.size ≤ 140737488355328) (hB : B ≤ w.heap.size)
    (h : ∀ v' w', OwnB B w' v' (l ++ b.data.toList) → Below B w w' → K (a.put o.dst v') w') : o.wp P a w K Q := by
  obtain ⟨i0, hi, hz0, hz1, hz2⟩ := info_parts hi
  obtain ⟨v', w', hr, h2, h3⟩ := run_appB (P := P) (w := w) t u o.type e i0 ht hu hi hz0 hz1 hz2 hown b hlen hB
  unfold Oper.wp execOp
  simp only [ho, resolve, invoke, builtin, Sem.run_bind, Sem.run_pure, Result.andThen_ok, List.map_toArray, List.map_cons, List.map_nil, hs, hx, hr]
  exact h v' w' h2 h3
theorem wpList_appB {P : Program} {ops : Array Oper} {rest : List Oper} {o : Oper} {a : Act} {Q : Exit → Act → World → Prop} {w : World} (hw : Region.wanted o (yielded ops a.tmps) = true) (s x : Operand) (t u e : TypeId)
    (ht : P.underlying t = some (.slice e)) (hu : P.underlying u = some .string) (hi : (P.info? e).map (fun i => (i.zero, i.size, i.bytes)) = some (some (.int .u8 0), 1, 1))
    (ho : o.op = .call { callee := .builtin .append, args := #[s, x], argTypes := #[t, u] })
    (B : Nat) (v : Value) (l : List UInt8) (hs : a.eval s = v) (hown : OwnB B w v l) (b : ByteArray) (hx : a.eval x = .string b) (hlen : l.length + b.size ≤ 140737488355328) (hB : B ≤ w.heap.size)
    (h : ∀ v' w', OwnB B w' v' (l ++ b.data.toList) → Below B w w' → wpList P ops Q rest (a.put o.dst v') w') : wpList P ops Q (o :: rest) a w :=
  listWants hw fun _ hK => wp_appB w s x t u e ht hu hi ho B v l hs hown b hx hlen hB (fun v' w' a b => hK _ _ (h v' w' a b))
/-- Bytes of the call's own, as a string. -/
theorem OwnB.back {P : Program} {B : Nat} {w : World} {v : Value} {l : List UInt8} (h : OwnB B w v l) {t u e : TypeId} (ht : P.underlying t = some (.slice e)) (he : P.underlying e = some (.int .u8)) (hu : P.underlying u = some .string) :
    (convert t u v).run P w = .ok (.string ⟨l.toArray⟩) w := by
  obtain ⟨g, cap, rfl, _, hg, _, _, _, h7⟩ := h
  exact run_convert_bytes_back w t u e ⟨g, 0, none⟩ cap l ht he hu (fun j hj => by rw [Addr.add_mid, Nat.zero_add]; exact h7 j hj)
end Go.Proofs.YtojaagnfjenhoaaGreat
