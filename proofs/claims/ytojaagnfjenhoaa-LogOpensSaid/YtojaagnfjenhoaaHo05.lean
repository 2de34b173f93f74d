/- The walk over package rec: a reader's record, of kind 4. -/
import Derived.Test.YtojaagnfjenhoaaHo04
import Derived.Test.YtojaagnfjenhoaaHo03
namespace Go.Proofs.Ytojaagnfjenhoaa
open Go.RowKit
set_option maxRecDepth 100000 in
set_option maxHeartbeats 2000000 in
theorem record_nest (b : Nat) (s : ByteArray) (hm : s.size ≤ 1000000) (s1 : Rc.St) (h0 : Rc.numM true s.data.toList ⟨0, false⟩ 1 = (4, s1)) (w : World) (hb : w.heap[b]? = some (.cells (rdC s 0 false) 89 (0, 0))) :
    Calls Try.prog 36 #[.pointer (some ⟨b, 0, none⟩)] w (RecOut (Rc.readM true s.data.toList) b w) := by
  have hl : s.data.toList.length = s.size := by simp
  have a1 : s1.at_ ≤ 1 := Rc.numM_le h0
  have C0 := Lib.hid (fun X f F u (hu : Rd w b s ⟨0, false⟩ X f F u) => hu.num1 h0 hm (by show 0 ≤ _; omega))
  rcases h1 : Rc.numM true s.data.toList s1 6 with ⟨lsn, s2⟩
  have a2 : s2.at_ ≤ s1.at_ + 6 := Rc.numM_le h1
  have C1 := Lib.hid (fun X f F u (hu : Rd w b s s1 X f F u) => hu.num6 h1 hm (by omega))
  rcases h2 : Rc.numM true s.data.toList s2 6 with ⟨prev, s3⟩
  have a3 : s3.at_ ≤ s2.at_ + 6 := Rc.numM_le h2
  have C2 := Lib.hid (fun X f F u (hu : Rd w b s s2 X f F u) => hu.num6 h2 hm (by omega))
  rcases h3 : Rc.numM true s.data.toList s3 6 with ⟨txn, s4⟩
  have a4 : s4.at_ ≤ s3.at_ + 6 := Rc.numM_le h3
  have C3 := Lib.hid (fun X f F u (hu : Rd w b s s3 X f F u) => hu.num6 h3 hm (by omega))
  rcases h4 : Rc.numM true s.data.toList s4 6 with ⟨nx, s5⟩
  have a5 : s5.at_ ≤ s4.at_ + 6 := Rc.numM_le h4
  have C4 := Lib.hid (fun X f F u (hu : Rd w b s s4 X f F u) => hu.num6 h4 hm (by omega))
  have e0 : Rc.headM true s.data.toList = (Rc.bare 4 lsn prev txn, s4) := by
    unfold Rc.headM; simp only [h0, h1, h2, h3]
  have RD : Rc.readM true s.data.toList = ⟨lsn, prev, txn, 4, 0, nx, 0, Rc.noOp, 0, 0, Rc.noKey, [], []⟩ := by
    unfold Rc.readM
    rw [e0]
    show Rc.restM true _ (Rc.bare 4 lsn prev txn) s4 = _
    rw [Rc.restM_4 rfl]
    simp only [h4]
    rfl
  have HOF := Lib.hid (fun W => of_any 4 W)
  rw [show ofV 4 = .tuple #[formV false false true false true, .bool true] from rfl] at HOF
  have RDH := Lib.hid RD
  clear RD
  have HX := Lib.hid (rd_new (st := ⟨0, false⟩) hb)
  clear hb e0 h0 a1 h1 a2 h2 a3 h3 a4 h4 a5
  go_enter Try.func36, Try.ntmps36
  go_upto_region 2 with fail
  obtain ⟨W0, hW0⟩ : ∃ W, W = (w.alloc (.cells #[.int .i64 0, .int .i64 0, .int .i64 0, .int .i64 0, .int .i64 0, .int .i64 0, .int .i64 0, .int .i64 0, .int .i64 0, .string ⟨#[]⟩, .string ⟨#[]⟩, .int .i64 0, .int .i64 0, .string ⟨#[]⟩, .int .i64 0, .int .i64 0, .slice none 0 0, .slice none 0 0] 49)).alloc (.cells #[.int .i64 0, .int .i64 0, .int .i64 0, .int .i64 0, .int .i64 0, .int .i64 0, .int .i64 0, .int .i64 0, .int .i64 0, .string ⟨#[]⟩, .string ⟨#[]⟩, .int .i64 0, .int .i64 0, .string ⟨#[]⟩, .int .i64 0, .int .i64 0, .slice none 0 0, .slice none 0 0] 49) := ⟨_, rfl⟩
  rw [← hW0] at HX ⊢
  clear hW0
  go_upto_region 3 with (first | (go_at_call 55; (with_reducible refine (C0.out _ _ _ _ HX.out).mono ?_); rintro e w1 ⟨rfl, hS1⟩; have hz1 := blkFrozen hS1.bx; have hy1 := blkCell hS1.bx))
  obtain ⟨U1, hU1⟩ : ∃ W, W = (w1.setCell ⟨w.heap.size + 1, 3, none⟩ (.int .i64 4)) := ⟨_, rfl⟩
  have H1 : Hid (Rd w b s s1 #[.int .i64 0, .int .i64 0, .int .i64 0, .int .i64 4, .int .i64 0, .int .i64 0, .int .i64 0, .int .i64 0, .int .i64 0, .string ⟨#[]⟩, .string ⟨#[]⟩, .int .i64 0, .int .i64 0, .string ⟨#[]⟩, .int .i64 0, .int .i64 0, .slice none 0 0, .slice none 0 0] w.heap.size #[] (w1.setCell ⟨w.heap.size + 1, 3, none⟩ (.int .i64 4))) := Lib.hid (by have h := (hS1.set 3 (.int .i64 4)); first | exact h | simpa using h)
  rw [← hU1] at H1 ⊢
  clear hU1 hS1 hz1 hy1 HX
  have hcx := blkCell H1.out.bx
  go_upto_region 4 with (go_at_call 56; (with_reducible refine (HOF.out _).mono ?_); rintro e w9 ⟨rfl, hb9⟩)
  have HF := Lib.hid ((H1.out.step hb9).formed #[.bool false, .bool false, .bool true, .bool false, .bool true])
  have hf : w.heap.size + 1 < w9.heap.size := by have h1 := H1.out.size; have h2 := hb9.size; omega
  obtain ⟨f, hfe⟩ : ∃ f, f = w9.heap.size := ⟨_, rfl⟩
  rw [← hfe] at HF hf ⊢
  obtain ⟨WF, hWF⟩ : ∃ W, W = w9.alloc (.cells #[.bool false, .bool false, .bool true, .bool false, .bool true] 113) := ⟨_, rfl⟩
  rw [← hWF] at HF ⊢
  clear hWF hfe hb9 hcx H1
  have hF := blkCell (HF.out.form (by omega))
  go_upto_region 5 with (first | (go_at_call 55; (with_reducible refine (C1.out _ _ _ _ HF.out).mono ?_); rintro e w2 ⟨rfl, hS2⟩; have hz2 := blkFrozen hS2.bx; have hy2 := blkCell hS2.bx) | (go_at_call 55; (with_reducible refine (C2.out _ _ _ _ hS2).mono ?_); rintro e w3 ⟨rfl, hS3⟩; have hz3 := blkFrozen hS3.bx; have hy3 := blkCell hS3.bx) | (go_at_call 55; (with_reducible refine (C3.out _ _ _ _ hS3).mono ?_); rintro e w4 ⟨rfl, hS4⟩; have hz4 := blkFrozen hS4.bx; have hy4 := blkCell hS4.bx))
  obtain ⟨U4, hU4⟩ : ∃ W, W = (((w4.setCell ⟨w.heap.size + 1, 0, none⟩ (.int .i64 lsn)).setCell ⟨w.heap.size + 1, 1, none⟩ (.int .i64 prev)).setCell ⟨w.heap.size + 1, 2, none⟩ (.int .i64 txn)) := ⟨_, rfl⟩
  have H4 : Hid (Rd w b s s4 #[.int .i64 lsn, .int .i64 prev, .int .i64 txn, .int .i64 4, .int .i64 0, .int .i64 0, .int .i64 0, .int .i64 0, .int .i64 0, .string ⟨#[]⟩, .string ⟨#[]⟩, .int .i64 0, .int .i64 0, .string ⟨#[]⟩, .int .i64 0, .int .i64 0, .slice none 0 0, .slice none 0 0] f #[.bool false, .bool false, .bool true, .bool false, .bool true] (((w4.setCell ⟨w.heap.size + 1, 0, none⟩ (.int .i64 lsn)).setCell ⟨w.heap.size + 1, 1, none⟩ (.int .i64 prev)).setCell ⟨w.heap.size + 1, 2, none⟩ (.int .i64 txn))) := Lib.hid (by have h := (((hS4.set 0 (.int .i64 lsn)).set 1 (.int .i64 prev)).set 2 (.int .i64 txn)); first | exact h | simpa using h)
  rw [← hU4] at H4 ⊢
  clear hU4 hS4 hz4 hy4 hS3 hz3 hy3 hS2 hz2 hy2 HF hF
  have hF := blkCell (H4.out.form (by omega))
  go_upto_region 16 with (first | (go_at_call 55; (with_reducible refine (C4.out _ _ _ _ H4.out).mono ?_); rintro e w5 ⟨rfl, hS5⟩; have hz5 := blkFrozen hS5.bx; have hy5 := blkCell hS5.bx))
  obtain ⟨U5, hU5⟩ : ∃ W, W = (w5.setCell ⟨w.heap.size + 1, 5, none⟩ (.int .i64 nx)) := ⟨_, rfl⟩
  have H5 : Hid (Rd w b s s5 #[.int .i64 lsn, .int .i64 prev, .int .i64 txn, .int .i64 4, .int .i64 0, .int .i64 nx, .int .i64 0, .int .i64 0, .int .i64 0, .string ⟨#[]⟩, .string ⟨#[]⟩, .int .i64 0, .int .i64 0, .string ⟨#[]⟩, .int .i64 0, .int .i64 0, .slice none 0 0, .slice none 0 0] f #[.bool false, .bool false, .bool true, .bool false, .bool true] (w5.setCell ⟨w.heap.size + 1, 5, none⟩ (.int .i64 nx))) := Lib.hid (by have h := (hS5.set 5 (.int .i64 nx)); first | exact h | simpa using h)
  rw [← hU5] at H5 ⊢
  clear hU5 hS5 hz5 hy5 H4 hF
  have hF := blkCell (H5.out.form (by omega))
  go_upto_region 26 with fail
  clear hF
  go_wp2_with (first | (with_reducible refine listLoad (by kernel_rfl) 49 (.tmp 3) rfl (w.heap.size + 1) rfl #[.int .i64 lsn, .int .i64 prev, .int .i64 txn, .int .i64 4, .int .i64 0, .int .i64 nx, .int .i64 0, .int .i64 0, .int .i64 0, .string ⟨#[]⟩, .string ⟨#[]⟩, .int .i64 0, .int .i64 0, .string ⟨#[]⟩, .int .i64 0, .int .i64 0, .slice none 0 0, .slice none 0 0] _ H5.out.bx _ Try.underlying49 (by kernel_rfl) (by kernel_rfl) ?_) | (with_reducible refine listStore (by kernel_rfl) 49 (.tmp 2) (.tmp 124) rfl w.heap.size #[.int .i64 lsn, .int .i64 prev, .int .i64 txn, .int .i64 4, .int .i64 0, .int .i64 nx, .int .i64 0, .int .i64 0, .int .i64 0, .string ⟨#[]⟩, .string ⟨#[]⟩, .int .i64 0, .int .i64 0, .string ⟨#[]⟩, .int .i64 0, .int .i64 0, .slice none 0 0, .slice none 0 0] _ _ rfl rfl H5.out.br (by kernel_rfl) (by kernel_rfl) (by kernel_rfl) ?_))
  refine bodyPost_ret (v := .agg #[.int .i64 lsn, .int .i64 prev, .int .i64 txn, .int .i64 4, .int .i64 0, .int .i64 nx, .int .i64 0, .int .i64 0, .int .i64 0, .string ⟨#[]⟩, .string ⟨#[]⟩, .int .i64 0, .int .i64 0, .string ⟨#[]⟩, .int .i64 0, .int .i64 0, .slice none 0 0, .slice none 0 0]) (results_cell rfl _ _ rfl (load_whole H5.out.done.1 Try.underlying49 (by kernel_rfl) (by kernel_rfl))) rfl ?_
  rw [RDH.out]
  exact ⟨none, 0, none, 0, rfl, ⟨⟨Reads.none_ _ _ _ _, Reads.none_ _ _ _ _, ⟨Nat.zero_le _, Nat.zero_le _⟩⟩, NewT.none_ _ _ _, NewT.none_ _ _ _⟩, H5.out.done.2⟩
end Go.Proofs.Ytojaagnfjenhoaa
/- The walk over package rec: a reader's record, of kind 8. -/
namespace Go.Proofs.Ytojaagnfjenhoaa
open Go.RowKit
set_option maxRecDepth 100000 in
set_option maxHeartbeats 2000000 in
theorem record_image (b : Nat) (s : ByteArray) (hm : s.size ≤ 1000000) (s1 : Rc.St) (h0 : Rc.numM true s.data.toList ⟨0, false⟩ 1 = (8, s1)) (w : World) (hb : w.heap[b]? = some (.cells (rdC s 0 false) 89 (0, 0))) :
    Calls Try.prog 36 #[.pointer (some ⟨b, 0, none⟩)] w (RecOut (Rc.readM true s.data.toList) b w) := by
  have hl : s.data.toList.length = s.size := by simp
  have a1 : s1.at_ ≤ 1 := Rc.numM_le h0
  have C0 := Lib.hid (fun X f F u (hu : Rd w b s ⟨0, false⟩ X f F u) => hu.num1 h0 hm (by show 0 ≤ _; omega))
  rcases h1 : Rc.numM true s.data.toList s1 6 with ⟨lsn, s2⟩
  have a2 : s2.at_ ≤ s1.at_ + 6 := Rc.numM_le h1
  have C1 := Lib.hid (fun X f F u (hu : Rd w b s s1 X f F u) => hu.num6 h1 hm (by omega))
  rcases h2 : Rc.numM true s.data.toList s2 6 with ⟨prev, s3⟩
  have a3 : s3.at_ ≤ s2.at_ + 6 := Rc.numM_le h2
  have C2 := Lib.hid (fun X f F u (hu : Rd w b s s2 X f F u) => hu.num6 h2 hm (by omega))
  rcases h3 : Rc.numM true s.data.toList s3 6 with ⟨txn, s4⟩
  have a4 : s4.at_ ≤ s3.at_ + 6 := Rc.numM_le h3
  have C3 := Lib.hid (fun X f F u (hu : Rd w b s s3 X f F u) => hu.num6 h3 hm (by omega))
  rcases h4 : Rc.numM true s.data.toList s4 3 with ⟨pa, s5⟩
  have a5 : s5.at_ ≤ s4.at_ + 3 := Rc.numM_le h4
  have C4 := Lib.hid (fun X f F u (hu : Rd w b s s4 X f F u) => hu.num3 h4 hm (by omega))
  rcases h5 : Rc.numM true s.data.toList s5 1 with ⟨ok, s6⟩
  have a6 : s6.at_ ≤ s5.at_ + 1 := Rc.numM_le h5
  have C5 := Lib.hid (fun X f F u (hu : Rd w b s s5 X f F u) => hu.num1 h5 hm (by omega))
  rcases h6 : Rc.numM true s.data.toList s6 2 with ⟨os, s7⟩
  have a7 : s7.at_ ≤ s6.at_ + 2 := Rc.numM_le h6
  have C6 := Lib.hid (fun X f F u (hu : Rd w b s s6 X f F u) => hu.num2 h6 hm (by omega))
  rcases h7 : Rc.textM s.data.toList s7 with ⟨oo, s8⟩
  have a8 : s8.at_ ≤ s7.at_ + s.data.toList.length := Rc.textM_le h7
  have C7 := Lib.hid (fun X f F u (hu : Rd w b s s7 X f F u) => hu.text h7 hm (by omega))
  rcases h8 : Rc.textM s.data.toList s8 with ⟨on, s9⟩
  have a9 : s9.at_ ≤ s8.at_ + s.data.toList.length := Rc.textM_le h8
  have C8 := Lib.hid (fun X f F u (hu : Rd w b s s8 X f F u) => hu.text h8 hm (by omega))
  have e0 : Rc.headM true s.data.toList = (Rc.bare 8 lsn prev txn, s4) := by
    unfold Rc.headM; simp only [h0, h1, h2, h3]
  have RD : Rc.readM true s.data.toList = ⟨lsn, prev, txn, 8, pa, 0, 0, ⟨ok, os, oo, on⟩, 0, 0, Rc.noKey, [], []⟩ := by
    unfold Rc.readM
    rw [e0]
    show Rc.restM true _ (Rc.bare 8 lsn prev txn) s4 = _
    rw [Rc.restM_8 rfl]
    unfold Rc.opM
    simp only [h4, h5, h6, h7, h8]
    rfl
  have HOF := Lib.hid (fun W => of_any 8 W)
  rw [show ofV 8 = .tuple #[formV true false false false true, .bool true] from rfl] at HOF
  have RDH := Lib.hid RD
  clear RD
  have HX := Lib.hid (rd_new (st := ⟨0, false⟩) hb)
  clear hb e0 h0 a1 h1 a2 h2 a3 h3 a4 h4 a5 h5 a6 h6 a7 h7 a8 h8 a9
  go_enter Try.func36, Try.ntmps36
  go_upto_region 2 with fail
  obtain ⟨W0, hW0⟩ : ∃ W, W = (w.alloc (.cells #[.int .i64 0, .int .i64 0, .int .i64 0, .int .i64 0, .int .i64 0, .int .i64 0, .int .i64 0, .int .i64 0, .int .i64 0, .string ⟨#[]⟩, .string ⟨#[]⟩, .int .i64 0, .int .i64 0, .string ⟨#[]⟩, .int .i64 0, .int .i64 0, .slice none 0 0, .slice none 0 0] 49)).alloc (.cells #[.int .i64 0, .int .i64 0, .int .i64 0, .int .i64 0, .int .i64 0, .int .i64 0, .int .i64 0, .int .i64 0, .int .i64 0, .string ⟨#[]⟩, .string ⟨#[]⟩, .int .i64 0, .int .i64 0, .string ⟨#[]⟩, .int .i64 0, .int .i64 0, .slice none 0 0, .slice none 0 0] 49) := ⟨_, rfl⟩
  rw [← hW0] at HX ⊢
  clear hW0
  go_upto_region 3 with (first | (go_at_call 55; (with_reducible refine (C0.out _ _ _ _ HX.out).mono ?_); rintro e w1 ⟨rfl, hS1⟩; have hz1 := blkFrozen hS1.bx; have hy1 := blkCell hS1.bx))
  obtain ⟨U1, hU1⟩ : ∃ W, W = (w1.setCell ⟨w.heap.size + 1, 3, none⟩ (.int .i64 8)) := ⟨_, rfl⟩
  have H1 : Hid (Rd w b s s1 #[.int .i64 0, .int .i64 0, .int .i64 0, .int .i64 8, .int .i64 0, .int .i64 0, .int .i64 0, .int .i64 0, .int .i64 0, .string ⟨#[]⟩, .string ⟨#[]⟩, .int .i64 0, .int .i64 0, .string ⟨#[]⟩, .int .i64 0, .int .i64 0, .slice none 0 0, .slice none 0 0] w.heap.size #[] (w1.setCell ⟨w.heap.size + 1, 3, none⟩ (.int .i64 8))) := Lib.hid (by have h := (hS1.set 3 (.int .i64 8)); first | exact h | simpa using h)
  rw [← hU1] at H1 ⊢
  clear hU1 hS1 hz1 hy1 HX
  have hcx := blkCell H1.out.bx
  go_upto_region 4 with (go_at_call 56; (with_reducible refine (HOF.out _).mono ?_); rintro e w9 ⟨rfl, hb9⟩)
  have HF := Lib.hid ((H1.out.step hb9).formed #[.bool true, .bool false, .bool false, .bool false, .bool true])
  have hf : w.heap.size + 1 < w9.heap.size := by have h1 := H1.out.size; have h2 := hb9.size; omega
  obtain ⟨f, hfe⟩ : ∃ f, f = w9.heap.size := ⟨_, rfl⟩
  rw [← hfe] at HF hf ⊢
  obtain ⟨WF, hWF⟩ : ∃ W, W = w9.alloc (.cells #[.bool true, .bool false, .bool false, .bool false, .bool true] 113) := ⟨_, rfl⟩
  rw [← hWF] at HF ⊢
  clear hWF hfe hb9 hcx H1
  have hF := blkCell (HF.out.form (by omega))
  go_upto_region 5 with (first | (go_at_call 55; (with_reducible refine (C1.out _ _ _ _ HF.out).mono ?_); rintro e w2 ⟨rfl, hS2⟩; have hz2 := blkFrozen hS2.bx; have hy2 := blkCell hS2.bx) | (go_at_call 55; (with_reducible refine (C2.out _ _ _ _ hS2).mono ?_); rintro e w3 ⟨rfl, hS3⟩; have hz3 := blkFrozen hS3.bx; have hy3 := blkCell hS3.bx) | (go_at_call 55; (with_reducible refine (C3.out _ _ _ _ hS3).mono ?_); rintro e w4 ⟨rfl, hS4⟩; have hz4 := blkFrozen hS4.bx; have hy4 := blkCell hS4.bx))
  obtain ⟨U4, hU4⟩ : ∃ W, W = (((w4.setCell ⟨w.heap.size + 1, 0, none⟩ (.int .i64 lsn)).setCell ⟨w.heap.size + 1, 1, none⟩ (.int .i64 prev)).setCell ⟨w.heap.size + 1, 2, none⟩ (.int .i64 txn)) := ⟨_, rfl⟩
  have H4 : Hid (Rd w b s s4 #[.int .i64 lsn, .int .i64 prev, .int .i64 txn, .int .i64 8, .int .i64 0, .int .i64 0, .int .i64 0, .int .i64 0, .int .i64 0, .string ⟨#[]⟩, .string ⟨#[]⟩, .int .i64 0, .int .i64 0, .string ⟨#[]⟩, .int .i64 0, .int .i64 0, .slice none 0 0, .slice none 0 0] f #[.bool true, .bool false, .bool false, .bool false, .bool true] (((w4.setCell ⟨w.heap.size + 1, 0, none⟩ (.int .i64 lsn)).setCell ⟨w.heap.size + 1, 1, none⟩ (.int .i64 prev)).setCell ⟨w.heap.size + 1, 2, none⟩ (.int .i64 txn))) := Lib.hid (by have h := (((hS4.set 0 (.int .i64 lsn)).set 1 (.int .i64 prev)).set 2 (.int .i64 txn)); first | exact h | simpa using h)
  rw [← hU4] at H4 ⊢
  clear hU4 hS4 hz4 hy4 hS3 hz3 hy3 hS2 hz2 hy2 HF hF
  have hF := blkCell (H4.out.form (by omega))
  go_upto_region 7 with (first | (go_at_call 55; (with_reducible refine (C4.out _ _ _ _ H4.out).mono ?_); rintro e w5 ⟨rfl, hS5⟩; have hz5 := blkFrozen hS5.bx; have hy5 := blkCell hS5.bx))
  obtain ⟨U5, hU5⟩ : ∃ W, W = (w5.setCell ⟨w.heap.size + 1, 4, none⟩ (.int .i64 pa)) := ⟨_, rfl⟩
  have H5 : Hid (Rd w b s s5 #[.int .i64 lsn, .int .i64 prev, .int .i64 txn, .int .i64 8, .int .i64 pa, .int .i64 0, .int .i64 0, .int .i64 0, .int .i64 0, .string ⟨#[]⟩, .string ⟨#[]⟩, .int .i64 0, .int .i64 0, .string ⟨#[]⟩, .int .i64 0, .int .i64 0, .slice none 0 0, .slice none 0 0] f #[.bool true, .bool false, .bool false, .bool false, .bool true] (w5.setCell ⟨w.heap.size + 1, 4, none⟩ (.int .i64 pa))) := Lib.hid (by have h := (hS5.set 4 (.int .i64 pa)); first | exact h | simpa using h)
  rw [← hU5] at H5 ⊢
  clear hU5 hS5 hz5 hy5 H4 hF
  go_upto_region 8 with (first | (go_at_call 55; (with_reducible refine (C5.out _ _ _ _ H5.out).mono ?_); rintro e w6 ⟨rfl, hS6⟩; have hz6 := blkFrozen hS6.bx; have hy6 := blkCell hS6.bx) | (go_at_call 55; (with_reducible refine (C6.out _ _ _ _ hS6).mono ?_); rintro e w7 ⟨rfl, hS7⟩; have hz7 := blkFrozen hS7.bx; have hy7 := blkCell hS7.bx) | (go_at_call 57; (with_reducible refine (C7.out _ _ _ _ hS7).mono ?_); rintro e w8 ⟨rfl, hS8⟩; have hz8 := blkFrozen hS8.bx; have hy8 := blkCell hS8.bx) | (go_at_call 57; (with_reducible refine (C8.out _ _ _ _ hS8).mono ?_); rintro e w9 ⟨rfl, hS9⟩; have hz9 := blkFrozen hS9.bx; have hy9 := blkCell hS9.bx))
  obtain ⟨U9, hU9⟩ : ∃ W, W = ((((w9.setCell ⟨w.heap.size + 1, 7, none⟩ (.int .i64 ok)).setCell ⟨w.heap.size + 1, 8, none⟩ (.int .i64 os)).setCell ⟨w.heap.size + 1, 9, none⟩ (.string oo)).setCell ⟨w.heap.size + 1, 10, none⟩ (.string on)) := ⟨_, rfl⟩
  have H9 : Hid (Rd w b s s9 #[.int .i64 lsn, .int .i64 prev, .int .i64 txn, .int .i64 8, .int .i64 pa, .int .i64 0, .int .i64 0, .int .i64 ok, .int .i64 os, .string oo, .string on, .int .i64 0, .int .i64 0, .string ⟨#[]⟩, .int .i64 0, .int .i64 0, .slice none 0 0, .slice none 0 0] f #[.bool true, .bool false, .bool false, .bool false, .bool true] ((((w9.setCell ⟨w.heap.size + 1, 7, none⟩ (.int .i64 ok)).setCell ⟨w.heap.size + 1, 8, none⟩ (.int .i64 os)).setCell ⟨w.heap.size + 1, 9, none⟩ (.string oo)).setCell ⟨w.heap.size + 1, 10, none⟩ (.string on))) := Lib.hid (by have h := ((((hS9.set 7 (.int .i64 ok)).set 8 (.int .i64 os)).set 9 (.string oo)).set 10 (.string on)); first | exact h | simpa using h)
  rw [← hU9] at H9 ⊢
  clear hU9 hS9 hz9 hy9 hS8 hz8 hy8 hS7 hz7 hy7 hS6 hz6 hy6 H5
  have hF := blkCell (H9.out.form (by omega))
  go_upto_region 26 with fail
  clear hF
  go_wp2_with (first | (with_reducible refine listLoad (by kernel_rfl) 49 (.tmp 3) rfl (w.heap.size + 1) rfl #[.int .i64 lsn, .int .i64 prev, .int .i64 txn, .int .i64 8, .int .i64 pa, .int .i64 0, .int .i64 0, .int .i64 ok, .int .i64 os, .string oo, .string on, .int .i64 0, .int .i64 0, .string ⟨#[]⟩, .int .i64 0, .int .i64 0, .slice none 0 0, .slice none 0 0] _ H9.out.bx _ Try.underlying49 (by kernel_rfl) (by kernel_rfl) ?_) | (with_reducible refine listStore (by kernel_rfl) 49 (.tmp 2) (.tmp 124) rfl w.heap.size #[.int .i64 lsn, .int .i64 prev, .int .i64 txn, .int .i64 8, .int .i64 pa, .int .i64 0, .int .i64 0, .int .i64 ok, .int .i64 os, .string oo, .string on, .int .i64 0, .int .i64 0, .string ⟨#[]⟩, .int .i64 0, .int .i64 0, .slice none 0 0, .slice none 0 0] _ _ rfl rfl H9.out.br (by kernel_rfl) (by kernel_rfl) (by kernel_rfl) ?_))
  refine bodyPost_ret (v := .agg #[.int .i64 lsn, .int .i64 prev, .int .i64 txn, .int .i64 8, .int .i64 pa, .int .i64 0, .int .i64 0, .int .i64 ok, .int .i64 os, .string oo, .string on, .int .i64 0, .int .i64 0, .string ⟨#[]⟩, .int .i64 0, .int .i64 0, .slice none 0 0, .slice none 0 0]) (results_cell rfl _ _ rfl (load_whole H9.out.done.1 Try.underlying49 (by kernel_rfl) (by kernel_rfl))) rfl ?_
  rw [RDH.out]
  exact ⟨none, 0, none, 0, rfl, ⟨⟨Reads.none_ _ _ _ _, Reads.none_ _ _ _ _, ⟨Nat.zero_le _, Nat.zero_le _⟩⟩, NewT.none_ _ _ _, NewT.none_ _ _ _⟩, H9.out.done.2⟩
end Go.Proofs.Ytojaagnfjenhoaa
/- The walk over package rec: a reader's record, of kind 3. -/
namespace Go.Proofs.Ytojaagnfjenhoaa
open Go.RowKit
set_option maxRecDepth 100000 in
set_option maxHeartbeats 2000000 in
theorem record_clr (b : Nat) (s : ByteArray) (hm : s.size ≤ 1000000) (s1 : Rc.St) (h0 : Rc.numM true s.data.toList ⟨0, false⟩ 1 = (3, s1)) (w : World) (hb : w.heap[b]? = some (.cells (rdC s 0 false) 89 (0, 0))) :
    Calls Try.prog 36 #[.pointer (some ⟨b, 0, none⟩)] w (RecOut (Rc.readM true s.data.toList) b w) := by
  have hl : s.data.toList.length = s.size := by simp
  have a1 : s1.at_ ≤ 1 := Rc.numM_le h0
  have C0 := Lib.hid (fun X f F u (hu : Rd w b s ⟨0, false⟩ X f F u) => hu.num1 h0 hm (by show 0 ≤ _; omega))
  rcases h1 : Rc.numM true s.data.toList s1 6 with ⟨lsn, s2⟩
  have a2 : s2.at_ ≤ s1.at_ + 6 := Rc.numM_le h1
  have C1 := Lib.hid (fun X f F u (hu : Rd w b s s1 X f F u) => hu.num6 h1 hm (by omega))
  rcases h2 : Rc.numM true s.data.toList s2 6 with ⟨prev, s3⟩
  have a3 : s3.at_ ≤ s2.at_ + 6 := Rc.numM_le h2
  have C2 := Lib.hid (fun X f F u (hu : Rd w b s s2 X f F u) => hu.num6 h2 hm (by omega))
  rcases h3 : Rc.numM true s.data.toList s3 6 with ⟨txn, s4⟩
  have a4 : s4.at_ ≤ s3.at_ + 6 := Rc.numM_le h3
  have C3 := Lib.hid (fun X f F u (hu : Rd w b s s3 X f F u) => hu.num6 h3 hm (by omega))
  rcases h4 : Rc.numM true s.data.toList s4 3 with ⟨pa, s5⟩
  have a5 : s5.at_ ≤ s4.at_ + 3 := Rc.numM_le h4
  have C4 := Lib.hid (fun X f F u (hu : Rd w b s s4 X f F u) => hu.num3 h4 hm (by omega))
  rcases h5 : Rc.numM true s.data.toList s5 1 with ⟨ok, s6⟩
  have a6 : s6.at_ ≤ s5.at_ + 1 := Rc.numM_le h5
  have C5 := Lib.hid (fun X f F u (hu : Rd w b s s5 X f F u) => hu.num1 h5 hm (by omega))
  rcases h6 : Rc.numM true s.data.toList s6 2 with ⟨os, s7⟩
  have a7 : s7.at_ ≤ s6.at_ + 2 := Rc.numM_le h6
  have C6 := Lib.hid (fun X f F u (hu : Rd w b s s6 X f F u) => hu.num2 h6 hm (by omega))
  rcases h7 : Rc.textM s.data.toList s7 with ⟨oo, s8⟩
  have a8 : s8.at_ ≤ s7.at_ + s.data.toList.length := Rc.textM_le h7
  have C7 := Lib.hid (fun X f F u (hu : Rd w b s s7 X f F u) => hu.text h7 hm (by omega))
  rcases h8 : Rc.textM s.data.toList s8 with ⟨on, s9⟩
  have a9 : s9.at_ ≤ s8.at_ + s.data.toList.length := Rc.textM_le h8
  have C8 := Lib.hid (fun X f F u (hu : Rd w b s s8 X f F u) => hu.text h8 hm (by omega))
  rcases h9 : Rc.numM true s.data.toList s9 6 with ⟨nx, s10⟩
  have a10 : s10.at_ ≤ s9.at_ + 6 := Rc.numM_le h9
  have C9 := Lib.hid (fun X f F u (hu : Rd w b s s9 X f F u) => hu.num6 h9 hm (by omega))
  have e0 : Rc.headM true s.data.toList = (Rc.bare 3 lsn prev txn, s4) := by
    unfold Rc.headM; simp only [h0, h1, h2, h3]
  have RD : Rc.readM true s.data.toList = ⟨lsn, prev, txn, 3, pa, nx, 0, ⟨ok, os, oo, on⟩, 0, 0, Rc.noKey, [], []⟩ := by
    unfold Rc.readM
    rw [e0]
    show Rc.restM true _ (Rc.bare 3 lsn prev txn) s4 = _
    rw [Rc.restM_3 rfl]
    unfold Rc.opM
    simp only [h4, h5, h6, h7, h8, h9]
    rfl
  have HOF := Lib.hid (fun W => of_any 3 W)
  rw [show ofV 3 = .tuple #[formV true false true false true, .bool true] from rfl] at HOF
  have RDH := Lib.hid RD
  clear RD
  have HX := Lib.hid (rd_new (st := ⟨0, false⟩) hb)
  clear hb e0 h0 a1 h1 a2 h2 a3 h3 a4 h4 a5 h5 a6 h6 a7 h7 a8 h8 a9 h9 a10
  go_enter Try.func36, Try.ntmps36
  go_upto_region 2 with fail
  obtain ⟨W0, hW0⟩ : ∃ W, W = (w.alloc (.cells #[.int .i64 0, .int .i64 0, .int .i64 0, .int .i64 0, .int .i64 0, .int .i64 0, .int .i64 0, .int .i64 0, .int .i64 0, .string ⟨#[]⟩, .string ⟨#[]⟩, .int .i64 0, .int .i64 0, .string ⟨#[]⟩, .int .i64 0, .int .i64 0, .slice none 0 0, .slice none 0 0] 49)).alloc (.cells #[.int .i64 0, .int .i64 0, .int .i64 0, .int .i64 0, .int .i64 0, .int .i64 0, .int .i64 0, .int .i64 0, .int .i64 0, .string ⟨#[]⟩, .string ⟨#[]⟩, .int .i64 0, .int .i64 0, .string ⟨#[]⟩, .int .i64 0, .int .i64 0, .slice none 0 0, .slice none 0 0] 49) := ⟨_, rfl⟩
  rw [← hW0] at HX ⊢
  clear hW0
  go_upto_region 3 with (first | (go_at_call 55; (with_reducible refine (C0.out _ _ _ _ HX.out).mono ?_); rintro e w1 ⟨rfl, hS1⟩; have hz1 := blkFrozen hS1.bx; have hy1 := blkCell hS1.bx))
  obtain ⟨U1, hU1⟩ : ∃ W, W = (w1.setCell ⟨w.heap.size + 1, 3, none⟩ (.int .i64 3)) := ⟨_, rfl⟩
  have H1 : Hid (Rd w b s s1 #[.int .i64 0, .int .i64 0, .int .i64 0, .int .i64 3, .int .i64 0, .int .i64 0, .int .i64 0, .int .i64 0, .int .i64 0, .string ⟨#[]⟩, .string ⟨#[]⟩, .int .i64 0, .int .i64 0, .string ⟨#[]⟩, .int .i64 0, .int .i64 0, .slice none 0 0, .slice none 0 0] w.heap.size #[] (w1.setCell ⟨w.heap.size + 1, 3, none⟩ (.int .i64 3))) := Lib.hid (by have h := (hS1.set 3 (.int .i64 3)); first | exact h | simpa using h)
  rw [← hU1] at H1 ⊢
  clear hU1 hS1 hz1 hy1 HX
  have hcx := blkCell H1.out.bx
  go_upto_region 4 with (go_at_call 56; (with_reducible refine (HOF.out _).mono ?_); rintro e w9 ⟨rfl, hb9⟩)
  have HF := Lib.hid ((H1.out.step hb9).formed #[.bool true, .bool false, .bool true, .bool false, .bool true])
  have hf : w.heap.size + 1 < w9.heap.size := by have h1 := H1.out.size; have h2 := hb9.size; omega
  obtain ⟨f, hfe⟩ : ∃ f, f = w9.heap.size := ⟨_, rfl⟩
  rw [← hfe] at HF hf ⊢
  obtain ⟨WF, hWF⟩ : ∃ W, W = w9.alloc (.cells #[.bool true, .bool false, .bool true, .bool false, .bool true] 113) := ⟨_, rfl⟩
  rw [← hWF] at HF ⊢
  clear hWF hfe hb9 hcx H1
  have hF := blkCell (HF.out.form (by omega))
  go_upto_region 5 with (first | (go_at_call 55; (with_reducible refine (C1.out _ _ _ _ HF.out).mono ?_); rintro e w2 ⟨rfl, hS2⟩; have hz2 := blkFrozen hS2.bx; have hy2 := blkCell hS2.bx) | (go_at_call 55; (with_reducible refine (C2.out _ _ _ _ hS2).mono ?_); rintro e w3 ⟨rfl, hS3⟩; have hz3 := blkFrozen hS3.bx; have hy3 := blkCell hS3.bx) | (go_at_call 55; (with_reducible refine (C3.out _ _ _ _ hS3).mono ?_); rintro e w4 ⟨rfl, hS4⟩; have hz4 := blkFrozen hS4.bx; have hy4 := blkCell hS4.bx))
  obtain ⟨U4, hU4⟩ : ∃ W, W = (((w4.setCell ⟨w.heap.size + 1, 0, none⟩ (.int .i64 lsn)).setCell ⟨w.heap.size + 1, 1, none⟩ (.int .i64 prev)).setCell ⟨w.heap.size + 1, 2, none⟩ (.int .i64 txn)) := ⟨_, rfl⟩
  have H4 : Hid (Rd w b s s4 #[.int .i64 lsn, .int .i64 prev, .int .i64 txn, .int .i64 3, .int .i64 0, .int .i64 0, .int .i64 0, .int .i64 0, .int .i64 0, .string ⟨#[]⟩, .string ⟨#[]⟩, .int .i64 0, .int .i64 0, .string ⟨#[]⟩, .int .i64 0, .int .i64 0, .slice none 0 0, .slice none 0 0] f #[.bool true, .bool false, .bool true, .bool false, .bool true] (((w4.setCell ⟨w.heap.size + 1, 0, none⟩ (.int .i64 lsn)).setCell ⟨w.heap.size + 1, 1, none⟩ (.int .i64 prev)).setCell ⟨w.heap.size + 1, 2, none⟩ (.int .i64 txn))) := Lib.hid (by have h := (((hS4.set 0 (.int .i64 lsn)).set 1 (.int .i64 prev)).set 2 (.int .i64 txn)); first | exact h | simpa using h)
  rw [← hU4] at H4 ⊢
  clear hU4 hS4 hz4 hy4 hS3 hz3 hy3 hS2 hz2 hy2 HF hF
  have hF := blkCell (H4.out.form (by omega))
  go_upto_region 7 with (first | (go_at_call 55; (with_reducible refine (C4.out _ _ _ _ H4.out).mono ?_); rintro e w5 ⟨rfl, hS5⟩; have hz5 := blkFrozen hS5.bx; have hy5 := blkCell hS5.bx))
  obtain ⟨U5, hU5⟩ : ∃ W, W = (w5.setCell ⟨w.heap.size + 1, 4, none⟩ (.int .i64 pa)) := ⟨_, rfl⟩
  have H5 : Hid (Rd w b s s5 #[.int .i64 lsn, .int .i64 prev, .int .i64 txn, .int .i64 3, .int .i64 pa, .int .i64 0, .int .i64 0, .int .i64 0, .int .i64 0, .string ⟨#[]⟩, .string ⟨#[]⟩, .int .i64 0, .int .i64 0, .string ⟨#[]⟩, .int .i64 0, .int .i64 0, .slice none 0 0, .slice none 0 0] f #[.bool true, .bool false, .bool true, .bool false, .bool true] (w5.setCell ⟨w.heap.size + 1, 4, none⟩ (.int .i64 pa))) := Lib.hid (by have h := (hS5.set 4 (.int .i64 pa)); first | exact h | simpa using h)
  rw [← hU5] at H5 ⊢
  clear hU5 hS5 hz5 hy5 H4 hF
  go_upto_region 8 with (first | (go_at_call 55; (with_reducible refine (C5.out _ _ _ _ H5.out).mono ?_); rintro e w6 ⟨rfl, hS6⟩; have hz6 := blkFrozen hS6.bx; have hy6 := blkCell hS6.bx) | (go_at_call 55; (with_reducible refine (C6.out _ _ _ _ hS6).mono ?_); rintro e w7 ⟨rfl, hS7⟩; have hz7 := blkFrozen hS7.bx; have hy7 := blkCell hS7.bx) | (go_at_call 57; (with_reducible refine (C7.out _ _ _ _ hS7).mono ?_); rintro e w8 ⟨rfl, hS8⟩; have hz8 := blkFrozen hS8.bx; have hy8 := blkCell hS8.bx) | (go_at_call 57; (with_reducible refine (C8.out _ _ _ _ hS8).mono ?_); rintro e w9 ⟨rfl, hS9⟩; have hz9 := blkFrozen hS9.bx; have hy9 := blkCell hS9.bx))
  obtain ⟨U9, hU9⟩ : ∃ W, W = ((((w9.setCell ⟨w.heap.size + 1, 7, none⟩ (.int .i64 ok)).setCell ⟨w.heap.size + 1, 8, none⟩ (.int .i64 os)).setCell ⟨w.heap.size + 1, 9, none⟩ (.string oo)).setCell ⟨w.heap.size + 1, 10, none⟩ (.string on)) := ⟨_, rfl⟩
  have H9 : Hid (Rd w b s s9 #[.int .i64 lsn, .int .i64 prev, .int .i64 txn, .int .i64 3, .int .i64 pa, .int .i64 0, .int .i64 0, .int .i64 ok, .int .i64 os, .string oo, .string on, .int .i64 0, .int .i64 0, .string ⟨#[]⟩, .int .i64 0, .int .i64 0, .slice none 0 0, .slice none 0 0] f #[.bool true, .bool false, .bool true, .bool false, .bool true] ((((w9.setCell ⟨w.heap.size + 1, 7, none⟩ (.int .i64 ok)).setCell ⟨w.heap.size + 1, 8, none⟩ (.int .i64 os)).setCell ⟨w.heap.size + 1, 9, none⟩ (.string oo)).setCell ⟨w.heap.size + 1, 10, none⟩ (.string on))) := Lib.hid (by have h := ((((hS9.set 7 (.int .i64 ok)).set 8 (.int .i64 os)).set 9 (.string oo)).set 10 (.string on)); first | exact h | simpa using h)
  rw [← hU9] at H9 ⊢
  clear hU9 hS9 hz9 hy9 hS8 hz8 hy8 hS7 hz7 hy7 hS6 hz6 hy6 H5
  have hF := blkCell (H9.out.form (by omega))
  go_upto_region 16 with (first | (go_at_call 55; (with_reducible refine (C9.out _ _ _ _ H9.out).mono ?_); rintro e w10 ⟨rfl, hS10⟩; have hz10 := blkFrozen hS10.bx; have hy10 := blkCell hS10.bx))
  obtain ⟨U10, hU10⟩ : ∃ W, W = (w10.setCell ⟨w.heap.size + 1, 5, none⟩ (.int .i64 nx)) := ⟨_, rfl⟩
  have H10 : Hid (Rd w b s s10 #[.int .i64 lsn, .int .i64 prev, .int .i64 txn, .int .i64 3, .int .i64 pa, .int .i64 nx, .int .i64 0, .int .i64 ok, .int .i64 os, .string oo, .string on, .int .i64 0, .int .i64 0, .string ⟨#[]⟩, .int .i64 0, .int .i64 0, .slice none 0 0, .slice none 0 0] f #[.bool true, .bool false, .bool true, .bool false, .bool true] (w10.setCell ⟨w.heap.size + 1, 5, none⟩ (.int .i64 nx))) := Lib.hid (by have h := (hS10.set 5 (.int .i64 nx)); first | exact h | simpa using h)
  rw [← hU10] at H10 ⊢
  clear hU10 hS10 hz10 hy10 H9 hF
  have hF := blkCell (H10.out.form (by omega))
  go_upto_region 26 with fail
  clear hF
  go_wp2_with (first | (with_reducible refine listLoad (by kernel_rfl) 49 (.tmp 3) rfl (w.heap.size + 1) rfl #[.int .i64 lsn, .int .i64 prev, .int .i64 txn, .int .i64 3, .int .i64 pa, .int .i64 nx, .int .i64 0, .int .i64 ok, .int .i64 os, .string oo, .string on, .int .i64 0, .int .i64 0, .string ⟨#[]⟩, .int .i64 0, .int .i64 0, .slice none 0 0, .slice none 0 0] _ H10.out.bx _ Try.underlying49 (by kernel_rfl) (by kernel_rfl) ?_) | (with_reducible refine listStore (by kernel_rfl) 49 (.tmp 2) (.tmp 124) rfl w.heap.size #[.int .i64 lsn, .int .i64 prev, .int .i64 txn, .int .i64 3, .int .i64 pa, .int .i64 nx, .int .i64 0, .int .i64 ok, .int .i64 os, .string oo, .string on, .int .i64 0, .int .i64 0, .string ⟨#[]⟩, .int .i64 0, .int .i64 0, .slice none 0 0, .slice none 0 0] _ _ rfl rfl H10.out.br (by kernel_rfl) (by kernel_rfl) (by kernel_rfl) ?_))
  refine bodyPost_ret (v := .agg #[.int .i64 lsn, .int .i64 prev, .int .i64 txn, .int .i64 3, .int .i64 pa, .int .i64 nx, .int .i64 0, .int .i64 ok, .int .i64 os, .string oo, .string on, .int .i64 0, .int .i64 0, .string ⟨#[]⟩, .int .i64 0, .int .i64 0, .slice none 0 0, .slice none 0 0]) (results_cell rfl _ _ rfl (load_whole H10.out.done.1 Try.underlying49 (by kernel_rfl) (by kernel_rfl))) rfl ?_
  rw [RDH.out]
  exact ⟨none, 0, none, 0, rfl, ⟨⟨Reads.none_ _ _ _ _, Reads.none_ _ _ _ _, ⟨Nat.zero_le _, Nat.zero_le _⟩⟩, NewT.none_ _ _ _, NewT.none_ _ _ _⟩, H10.out.done.2⟩
end Go.Proofs.Ytojaagnfjenhoaa
/- The walk over package rec: a reader's record, of kind 2. -/
namespace Go.Proofs.Ytojaagnfjenhoaa
open Go.RowKit
set_option maxRecDepth 100000 in
set_option maxHeartbeats 2000000 in
theorem record_change (b : Nat) (s : ByteArray) (hm : s.size ≤ 1000000) (s1 : Rc.St) (h0 : Rc.numM true s.data.toList ⟨0, false⟩ 1 = (2, s1)) (w : World) (hb : w.heap[b]? = some (.cells (rdC s 0 false) 89 (0, 0))) :
    Calls Try.prog 36 #[.pointer (some ⟨b, 0, none⟩)] w (RecOut (Rc.readM true s.data.toList) b w) := by
  have hl : s.data.toList.length = s.size := by simp
  have a1 : s1.at_ ≤ 1 := Rc.numM_le h0
  have C0 := Lib.hid (fun X f F u (hu : Rd w b s ⟨0, false⟩ X f F u) => hu.num1 h0 hm (by show 0 ≤ _; omega))
  rcases h1 : Rc.numM true s.data.toList s1 6 with ⟨lsn, s2⟩
  have a2 : s2.at_ ≤ s1.at_ + 6 := Rc.numM_le h1
  have C1 := Lib.hid (fun X f F u (hu : Rd w b s s1 X f F u) => hu.num6 h1 hm (by omega))
  rcases h2 : Rc.numM true s.data.toList s2 6 with ⟨prev, s3⟩
  have a3 : s3.at_ ≤ s2.at_ + 6 := Rc.numM_le h2
  have C2 := Lib.hid (fun X f F u (hu : Rd w b s s2 X f F u) => hu.num6 h2 hm (by omega))
  rcases h3 : Rc.numM true s.data.toList s3 6 with ⟨txn, s4⟩
  have a4 : s4.at_ ≤ s3.at_ + 6 := Rc.numM_le h3
  have C3 := Lib.hid (fun X f F u (hu : Rd w b s s3 X f F u) => hu.num6 h3 hm (by omega))
  rcases h4 : Rc.numM true s.data.toList s4 3 with ⟨pa, s5⟩
  have a5 : s5.at_ ≤ s4.at_ + 3 := Rc.numM_le h4
  have C4 := Lib.hid (fun X f F u (hu : Rd w b s s4 X f F u) => hu.num3 h4 hm (by omega))
  rcases h5 : Rc.numM true s.data.toList s5 1 with ⟨ok, s6⟩
  have a6 : s6.at_ ≤ s5.at_ + 1 := Rc.numM_le h5
  have C5 := Lib.hid (fun X f F u (hu : Rd w b s s5 X f F u) => hu.num1 h5 hm (by omega))
  rcases h6 : Rc.numM true s.data.toList s6 2 with ⟨os, s7⟩
  have a7 : s7.at_ ≤ s6.at_ + 2 := Rc.numM_le h6
  have C6 := Lib.hid (fun X f F u (hu : Rd w b s s6 X f F u) => hu.num2 h6 hm (by omega))
  rcases h7 : Rc.textM s.data.toList s7 with ⟨oo, s8⟩
  have a8 : s8.at_ ≤ s7.at_ + s.data.toList.length := Rc.textM_le h7
  have C7 := Lib.hid (fun X f F u (hu : Rd w b s s7 X f F u) => hu.text h7 hm (by omega))
  rcases h8 : Rc.textM s.data.toList s8 with ⟨on, s9⟩
  have a9 : s9.at_ ≤ s8.at_ + s.data.toList.length := Rc.textM_le h8
  have C8 := Lib.hid (fun X f F u (hu : Rd w b s s8 X f F u) => hu.text h8 hm (by omega))
  rcases h9 : Rc.numM true s.data.toList s9 1 with ⟨ho, s10⟩
  have a10 : s10.at_ ≤ s9.at_ + 1 := Rc.numM_le h9
  have C9 := Lib.hid (fun X f F u (hu : Rd w b s s9 X f F u) => hu.num1 h9 hm (by omega))
  rcases h10 : Rc.numM true s.data.toList s10 3 with ⟨ro, s11⟩
  have a11 : s11.at_ ≤ s10.at_ + 3 := Rc.numM_le h10
  have C10 := Lib.hid (fun X f F u (hu : Rd w b s s10 X f F u) => hu.num3 h10 hm (by omega))
  rcases h11 : Rc.numM true s.data.toList s11 3 with ⟨ep, s12⟩
  have a12 : s12.at_ ≤ s11.at_ + 3 := Rc.numM_le h11
  have C11 := Lib.hid (fun X f F u (hu : Rd w b s s11 X f F u) => hu.num3 h11 hm (by omega))
  rcases h12 : Rc.numM true s.data.toList s12 2 with ⟨es, s13⟩
  have a13 : s13.at_ ≤ s12.at_ + 2 := Rc.numM_le h12
  have C12 := Lib.hid (fun X f F u (hu : Rd w b s s12 X f F u) => hu.num2 h12 hm (by omega))
  rcases h13 : Rc.textM s.data.toList s13 with ⟨ek, s14⟩
  have a14 : s14.at_ ≤ s13.at_ + s.data.toList.length := Rc.textM_le h13
  have C13 := Lib.hid (fun X f F u (hu : Rd w b s s13 X f F u) => hu.text h13 hm (by omega))
  have e0 : Rc.headM true s.data.toList = (Rc.bare 2 lsn prev txn, s4) := by
    unfold Rc.headM; simp only [h0, h1, h2, h3]
  have RDD : Rc.readM true s.data.toList = Rc.treeM true s.data.toList ⟨lsn, prev, txn, 2, pa, 0, 0, ⟨ok, os, oo, on⟩, 0, 0, Rc.noKey, [], []⟩ s9 := by
    unfold Rc.readM
    rw [e0]
    show Rc.restM true _ (Rc.bare 2 lsn prev txn) s4 = _
    rw [Rc.restM_2 rfl]
    unfold Rc.opM
    simp only [h4, h5, h6, h7, h8]
    rfl
  have RD1 : ho = 1 → Rc.readM true s.data.toList = ⟨lsn, prev, txn, 2, pa, 0, 0, ⟨ok, os, oo, on⟩, ho, 0, Rc.noKey, [], []⟩ := fun hh => by
    rw [RDD]; unfold Rc.treeM; simp only [h9, if_pos hh]
  have RD2 : ¬ ho = 1 → Rc.readM true s.data.toList = ⟨lsn, prev, txn, 2, pa, 0, 0, ⟨ok, os, oo, on⟩, ho, ro, ⟨ek, ep, es⟩, [], []⟩ := fun hh => by
    rw [RDD]; unfold Rc.treeM; simp only [h9, h10, h11, h12, h13, if_neg hh]
  clear RDD
  have HOF := Lib.hid (fun W => of_any 2 W)
  rw [show ofV 2 = .tuple #[formV true true false false true, .bool true] from rfl] at HOF
  have RDA := Lib.hid RD1; have RDB := Lib.hid RD2
  clear RD1 RD2
  have HX := Lib.hid (rd_new (st := ⟨0, false⟩) hb)
  clear hb e0 h0 a1 h1 a2 h2 a3 h3 a4 h4 a5 h5 a6 h6 a7 h7 a8 h8 a9 h9 a10 h10 a11 h11 a12 h12 a13 h13 a14
  go_enter Try.func36, Try.ntmps36
  go_upto_region 2 with fail
  obtain ⟨W0, hW0⟩ : ∃ W, W = (w.alloc (.cells #[.int .i64 0, .int .i64 0, .int .i64 0, .int .i64 0, .int .i64 0, .int .i64 0, .int .i64 0, .int .i64 0, .int .i64 0, .string ⟨#[]⟩, .string ⟨#[]⟩, .int .i64 0, .int .i64 0, .string ⟨#[]⟩, .int .i64 0, .int .i64 0, .slice none 0 0, .slice none 0 0] 49)).alloc (.cells #[.int .i64 0, .int .i64 0, .int .i64 0, .int .i64 0, .int .i64 0, .int .i64 0, .int .i64 0, .int .i64 0, .int .i64 0, .string ⟨#[]⟩, .string ⟨#[]⟩, .int .i64 0, .int .i64 0, .string ⟨#[]⟩, .int .i64 0, .int .i64 0, .slice none 0 0, .slice none 0 0] 49) := ⟨_, rfl⟩
  rw [← hW0] at HX ⊢
  clear hW0
  go_upto_region 3 with (first | (go_at_call 55; (with_reducible refine (C0.out _ _ _ _ HX.out).mono ?_); rintro e w1 ⟨rfl, hS1⟩; have hz1 := blkFrozen hS1.bx; have hy1 := blkCell hS1.bx))
  obtain ⟨U1, hU1⟩ : ∃ W, W = (w1.setCell ⟨w.heap.size + 1, 3, none⟩ (.int .i64 2)) := ⟨_, rfl⟩
  have H1 : Hid (Rd w b s s1 #[.int .i64 0, .int .i64 0, .int .i64 0, .int .i64 2, .int .i64 0, .int .i64 0, .int .i64 0, .int .i64 0, .int .i64 0, .string ⟨#[]⟩, .string ⟨#[]⟩, .int .i64 0, .int .i64 0, .string ⟨#[]⟩, .int .i64 0, .int .i64 0, .slice none 0 0, .slice none 0 0] w.heap.size #[] (w1.setCell ⟨w.heap.size + 1, 3, none⟩ (.int .i64 2))) := Lib.hid (by have h := (hS1.set 3 (.int .i64 2)); first | exact h | simpa using h)
  rw [← hU1] at H1 ⊢
  clear hU1 hS1 hz1 hy1 HX
  have hcx := blkCell H1.out.bx
  go_upto_region 4 with (go_at_call 56; (with_reducible refine (HOF.out _).mono ?_); rintro e w9 ⟨rfl, hb9⟩)
  have HF := Lib.hid ((H1.out.step hb9).formed #[.bool true, .bool true, .bool false, .bool false, .bool true])
  have hf : w.heap.size + 1 < w9.heap.size := by have h1 := H1.out.size; have h2 := hb9.size; omega
  obtain ⟨f, hfe⟩ : ∃ f, f = w9.heap.size := ⟨_, rfl⟩
  rw [← hfe] at HF hf ⊢
  obtain ⟨WF, hWF⟩ : ∃ W, W = w9.alloc (.cells #[.bool true, .bool true, .bool false, .bool false, .bool true] 113) := ⟨_, rfl⟩
  rw [← hWF] at HF ⊢
  clear hWF hfe hb9 hcx H1
  have hF := blkCell (HF.out.form (by omega))
  go_upto_region 5 with (first | (go_at_call 55; (with_reducible refine (C1.out _ _ _ _ HF.out).mono ?_); rintro e w2 ⟨rfl, hS2⟩; have hz2 := blkFrozen hS2.bx; have hy2 := blkCell hS2.bx) | (go_at_call 55; (with_reducible refine (C2.out _ _ _ _ hS2).mono ?_); rintro e w3 ⟨rfl, hS3⟩; have hz3 := blkFrozen hS3.bx; have hy3 := blkCell hS3.bx) | (go_at_call 55; (with_reducible refine (C3.out _ _ _ _ hS3).mono ?_); rintro e w4 ⟨rfl, hS4⟩; have hz4 := blkFrozen hS4.bx; have hy4 := blkCell hS4.bx))
  obtain ⟨U4, hU4⟩ : ∃ W, W = (((w4.setCell ⟨w.heap.size + 1, 0, none⟩ (.int .i64 lsn)).setCell ⟨w.heap.size + 1, 1, none⟩ (.int .i64 prev)).setCell ⟨w.heap.size + 1, 2, none⟩ (.int .i64 txn)) := ⟨_, rfl⟩
  have H4 : Hid (Rd w b s s4 #[.int .i64 lsn, .int .i64 prev, .int .i64 txn, .int .i64 2, .int .i64 0, .int .i64 0, .int .i64 0, .int .i64 0, .int .i64 0, .string ⟨#[]⟩, .string ⟨#[]⟩, .int .i64 0, .int .i64 0, .string ⟨#[]⟩, .int .i64 0, .int .i64 0, .slice none 0 0, .slice none 0 0] f #[.bool true, .bool true, .bool false, .bool false, .bool true] (((w4.setCell ⟨w.heap.size + 1, 0, none⟩ (.int .i64 lsn)).setCell ⟨w.heap.size + 1, 1, none⟩ (.int .i64 prev)).setCell ⟨w.heap.size + 1, 2, none⟩ (.int .i64 txn))) := Lib.hid (by have h := (((hS4.set 0 (.int .i64 lsn)).set 1 (.int .i64 prev)).set 2 (.int .i64 txn)); first | exact h | simpa using h)
  rw [← hU4] at H4 ⊢
  clear hU4 hS4 hz4 hy4 hS3 hz3 hy3 hS2 hz2 hy2 HF hF
  have hF := blkCell (H4.out.form (by omega))
  go_upto_region 7 with (first | (go_at_call 55; (with_reducible refine (C4.out _ _ _ _ H4.out).mono ?_); rintro e w5 ⟨rfl, hS5⟩; have hz5 := blkFrozen hS5.bx; have hy5 := blkCell hS5.bx))
  obtain ⟨U5, hU5⟩ : ∃ W, W = (w5.setCell ⟨w.heap.size + 1, 4, none⟩ (.int .i64 pa)) := ⟨_, rfl⟩
  have H5 : Hid (Rd w b s s5 #[.int .i64 lsn, .int .i64 prev, .int .i64 txn, .int .i64 2, .int .i64 pa, .int .i64 0, .int .i64 0, .int .i64 0, .int .i64 0, .string ⟨#[]⟩, .string ⟨#[]⟩, .int .i64 0, .int .i64 0, .string ⟨#[]⟩, .int .i64 0, .int .i64 0, .slice none 0 0, .slice none 0 0] f #[.bool true, .bool true, .bool false, .bool false, .bool true] (w5.setCell ⟨w.heap.size + 1, 4, none⟩ (.int .i64 pa))) := Lib.hid (by have h := (hS5.set 4 (.int .i64 pa)); first | exact h | simpa using h)
  rw [← hU5] at H5 ⊢
  clear hU5 hS5 hz5 hy5 H4 hF
  go_upto_region 8 with (first | (go_at_call 55; (with_reducible refine (C5.out _ _ _ _ H5.out).mono ?_); rintro e w6 ⟨rfl, hS6⟩; have hz6 := blkFrozen hS6.bx; have hy6 := blkCell hS6.bx) | (go_at_call 55; (with_reducible refine (C6.out _ _ _ _ hS6).mono ?_); rintro e w7 ⟨rfl, hS7⟩; have hz7 := blkFrozen hS7.bx; have hy7 := blkCell hS7.bx) | (go_at_call 57; (with_reducible refine (C7.out _ _ _ _ hS7).mono ?_); rintro e w8 ⟨rfl, hS8⟩; have hz8 := blkFrozen hS8.bx; have hy8 := blkCell hS8.bx) | (go_at_call 57; (with_reducible refine (C8.out _ _ _ _ hS8).mono ?_); rintro e w9 ⟨rfl, hS9⟩; have hz9 := blkFrozen hS9.bx; have hy9 := blkCell hS9.bx))
  obtain ⟨U9, hU9⟩ : ∃ W, W = ((((w9.setCell ⟨w.heap.size + 1, 7, none⟩ (.int .i64 ok)).setCell ⟨w.heap.size + 1, 8, none⟩ (.int .i64 os)).setCell ⟨w.heap.size + 1, 9, none⟩ (.string oo)).setCell ⟨w.heap.size + 1, 10, none⟩ (.string on)) := ⟨_, rfl⟩
  have H9 : Hid (Rd w b s s9 #[.int .i64 lsn, .int .i64 prev, .int .i64 txn, .int .i64 2, .int .i64 pa, .int .i64 0, .int .i64 0, .int .i64 ok, .int .i64 os, .string oo, .string on, .int .i64 0, .int .i64 0, .string ⟨#[]⟩, .int .i64 0, .int .i64 0, .slice none 0 0, .slice none 0 0] f #[.bool true, .bool true, .bool false, .bool false, .bool true] ((((w9.setCell ⟨w.heap.size + 1, 7, none⟩ (.int .i64 ok)).setCell ⟨w.heap.size + 1, 8, none⟩ (.int .i64 os)).setCell ⟨w.heap.size + 1, 9, none⟩ (.string oo)).setCell ⟨w.heap.size + 1, 10, none⟩ (.string on))) := Lib.hid (by have h := ((((hS9.set 7 (.int .i64 ok)).set 8 (.int .i64 os)).set 9 (.string oo)).set 10 (.string on)); first | exact h | simpa using h)
  rw [← hU9] at H9 ⊢
  clear hU9 hS9 hz9 hy9 hS8 hz8 hy8 hS7 hz7 hy7 hS6 hz6 hy6 H5
  have hF := blkCell (H9.out.form (by omega))
  go_upto_region 10 with (first | (go_at_call 55; (with_reducible refine (C9.out _ _ _ _ H9.out).mono ?_); rintro e w10 ⟨rfl, hS10⟩; have hz10 := blkFrozen hS10.bx; have hy10 := blkCell hS10.bx))
  obtain ⟨U10, hU10⟩ : ∃ W, W = (w10.setCell ⟨w.heap.size + 1, 11, none⟩ (.int .i64 ho)) := ⟨_, rfl⟩
  have H10 : Hid (Rd w b s s10 #[.int .i64 lsn, .int .i64 prev, .int .i64 txn, .int .i64 2, .int .i64 pa, .int .i64 0, .int .i64 0, .int .i64 ok, .int .i64 os, .string oo, .string on, .int .i64 ho, .int .i64 0, .string ⟨#[]⟩, .int .i64 0, .int .i64 0, .slice none 0 0, .slice none 0 0] f #[.bool true, .bool true, .bool false, .bool false, .bool true] (w10.setCell ⟨w.heap.size + 1, 11, none⟩ (.int .i64 ho))) := Lib.hid (by have h := (hS10.set 11 (.int .i64 ho)); first | exact h | simpa using h)
  rw [← hU10] at H10 ⊢
  clear hU10 hS10 hz10 hy10 H9 hF
  have hF := blkCell (H10.out.form (by omega))
  have hcx := blkCell H10.out.bx
  by_cases hh : ho = 1
  · subst hh
    have RDH := Lib.hid (RDA.out rfl)
    go_upto_region 26 with fail
    clear hF hcx
    go_wp2_with (first | (with_reducible refine listLoad (by kernel_rfl) 49 (.tmp 3) rfl (w.heap.size + 1) rfl #[.int .i64 lsn, .int .i64 prev, .int .i64 txn, .int .i64 2, .int .i64 pa, .int .i64 0, .int .i64 0, .int .i64 ok, .int .i64 os, .string oo, .string on, .int .i64 1, .int .i64 0, .string ⟨#[]⟩, .int .i64 0, .int .i64 0, .slice none 0 0, .slice none 0 0] _ H10.out.bx _ Try.underlying49 (by kernel_rfl) (by kernel_rfl) ?_) | (with_reducible refine listStore (by kernel_rfl) 49 (.tmp 2) (.tmp 124) rfl w.heap.size #[.int .i64 lsn, .int .i64 prev, .int .i64 txn, .int .i64 2, .int .i64 pa, .int .i64 0, .int .i64 0, .int .i64 ok, .int .i64 os, .string oo, .string on, .int .i64 1, .int .i64 0, .string ⟨#[]⟩, .int .i64 0, .int .i64 0, .slice none 0 0, .slice none 0 0] _ _ rfl rfl H10.out.br (by kernel_rfl) (by kernel_rfl) (by kernel_rfl) ?_))
    refine bodyPost_ret (v := .agg #[.int .i64 lsn, .int .i64 prev, .int .i64 txn, .int .i64 2, .int .i64 pa, .int .i64 0, .int .i64 0, .int .i64 ok, .int .i64 os, .string oo, .string on, .int .i64 1, .int .i64 0, .string ⟨#[]⟩, .int .i64 0, .int .i64 0, .slice none 0 0, .slice none 0 0]) (results_cell rfl _ _ rfl (load_whole H10.out.done.1 Try.underlying49 (by kernel_rfl) (by kernel_rfl))) rfl ?_
    rw [RDH.out]
    exact ⟨none, 0, none, 0, rfl, ⟨⟨Reads.none_ _ _ _ _, Reads.none_ _ _ _ _, ⟨Nat.zero_le _, Nat.zero_le _⟩⟩, NewT.none_ _ _ _, NewT.none_ _ _ _⟩, H10.out.done.2⟩
  · have RDH := Lib.hid (RDB.out hh)
    have hh2 : (ho == 1) = false := by simpa using hh
    have hh3 : (ho != 1) = true := by simpa using hh
    clear hh
    go_upto_region 12 with (first | (go_at_call 55; (with_reducible refine (C10.out _ _ _ _ H10.out).mono ?_); rintro e w11 ⟨rfl, hS11⟩; have hz11 := blkFrozen hS11.bx; have hy11 := blkCell hS11.bx))
    obtain ⟨U11, hU11⟩ : ∃ W, W = (w11.setCell ⟨w.heap.size + 1, 12, none⟩ (.int .i64 ro)) := ⟨_, rfl⟩
    have H11 : Hid (Rd w b s s11 #[.int .i64 lsn, .int .i64 prev, .int .i64 txn, .int .i64 2, .int .i64 pa, .int .i64 0, .int .i64 0, .int .i64 ok, .int .i64 os, .string oo, .string on, .int .i64 ho, .int .i64 ro, .string ⟨#[]⟩, .int .i64 0, .int .i64 0, .slice none 0 0, .slice none 0 0] f #[.bool true, .bool true, .bool false, .bool false, .bool true] (w11.setCell ⟨w.heap.size + 1, 12, none⟩ (.int .i64 ro))) := Lib.hid (by have h := (hS11.set 12 (.int .i64 ro)); first | exact h | simpa using h)
    rw [← hU11] at H11 ⊢
    clear hU11 hS11 hz11 hy11 H10 hF hcx
    go_upto_region 13 with (first | (go_at_call 55; (with_reducible refine (C11.out _ _ _ _ H11.out).mono ?_); rintro e w12 ⟨rfl, hS12⟩; have hz12 := blkFrozen hS12.bx; have hy12 := blkCell hS12.bx) | (go_at_call 55; (with_reducible refine (C12.out _ _ _ _ hS12).mono ?_); rintro e w13 ⟨rfl, hS13⟩; have hz13 := blkFrozen hS13.bx; have hy13 := blkCell hS13.bx))
    obtain ⟨U13, hU13⟩ : ∃ W, W = ((w13.setCell ⟨w.heap.size + 1, 14, none⟩ (.int .i64 ep)).setCell ⟨w.heap.size + 1, 15, none⟩ (.int .i64 es)) := ⟨_, rfl⟩
    have H13 : Hid (Rd w b s s13 #[.int .i64 lsn, .int .i64 prev, .int .i64 txn, .int .i64 2, .int .i64 pa, .int .i64 0, .int .i64 0, .int .i64 ok, .int .i64 os, .string oo, .string on, .int .i64 ho, .int .i64 ro, .string ⟨#[]⟩, .int .i64 ep, .int .i64 es, .slice none 0 0, .slice none 0 0] f #[.bool true, .bool true, .bool false, .bool false, .bool true] ((w13.setCell ⟨w.heap.size + 1, 14, none⟩ (.int .i64 ep)).setCell ⟨w.heap.size + 1, 15, none⟩ (.int .i64 es))) := Lib.hid (by have h := ((hS13.set 14 (.int .i64 ep)).set 15 (.int .i64 es)); first | exact h | simpa using h)
    rw [← hU13] at H13 ⊢
    clear hU13 hS13 hz13 hy13 hS12 hz12 hy12 H11
    go_upto_region 14 with (first | (go_at_call 57; (with_reducible refine (C13.out _ _ _ _ H13.out).mono ?_); rintro e w14 ⟨rfl, hS14⟩; have hz14 := blkFrozen hS14.bx; have hy14 := blkCell hS14.bx))
    obtain ⟨U14, hU14⟩ : ∃ W, W = (w14.setCell ⟨w.heap.size + 1, 13, none⟩ (.string ek)) := ⟨_, rfl⟩
    have H14 : Hid (Rd w b s s14 #[.int .i64 lsn, .int .i64 prev, .int .i64 txn, .int .i64 2, .int .i64 pa, .int .i64 0, .int .i64 0, .int .i64 ok, .int .i64 os, .string oo, .string on, .int .i64 ho, .int .i64 ro, .string ek, .int .i64 ep, .int .i64 es, .slice none 0 0, .slice none 0 0] f #[.bool true, .bool true, .bool false, .bool false, .bool true] (w14.setCell ⟨w.heap.size + 1, 13, none⟩ (.string ek))) := Lib.hid (by have h := (hS14.set 13 (.string ek)); first | exact h | simpa using h)
    rw [← hU14] at H14 ⊢
    clear hU14 hS14 hz14 hy14 H13
    have hF := blkCell (H14.out.form (by omega))
    go_upto_region 26 with fail
    clear hF
    go_wp2_with (first | (with_reducible refine listLoad (by kernel_rfl) 49 (.tmp 3) rfl (w.heap.size + 1) rfl #[.int .i64 lsn, .int .i64 prev, .int .i64 txn, .int .i64 2, .int .i64 pa, .int .i64 0, .int .i64 0, .int .i64 ok, .int .i64 os, .string oo, .string on, .int .i64 ho, .int .i64 ro, .string ek, .int .i64 ep, .int .i64 es, .slice none 0 0, .slice none 0 0] _ H14.out.bx _ Try.underlying49 (by kernel_rfl) (by kernel_rfl) ?_) | (with_reducible refine listStore (by kernel_rfl) 49 (.tmp 2) (.tmp 124) rfl w.heap.size #[.int .i64 lsn, .int .i64 prev, .int .i64 txn, .int .i64 2, .int .i64 pa, .int .i64 0, .int .i64 0, .int .i64 ok, .int .i64 os, .string oo, .string on, .int .i64 ho, .int .i64 ro, .string ek, .int .i64 ep, .int .i64 es, .slice none 0 0, .slice none 0 0] _ _ rfl rfl H14.out.br (by kernel_rfl) (by kernel_rfl) (by kernel_rfl) ?_))
    refine bodyPost_ret (v := .agg #[.int .i64 lsn, .int .i64 prev, .int .i64 txn, .int .i64 2, .int .i64 pa, .int .i64 0, .int .i64 0, .int .i64 ok, .int .i64 os, .string oo, .string on, .int .i64 ho, .int .i64 ro, .string ek, .int .i64 ep, .int .i64 es, .slice none 0 0, .slice none 0 0]) (results_cell rfl _ _ rfl (load_whole H14.out.done.1 Try.underlying49 (by kernel_rfl) (by kernel_rfl))) rfl ?_
    rw [RDH.out]
    exact ⟨none, 0, none, 0, rfl, ⟨⟨Reads.none_ _ _ _ _, Reads.none_ _ _ _ _, ⟨Nat.zero_le _, Nat.zero_le _⟩⟩, NewT.none_ _ _ _, NewT.none_ _ _ _⟩, H14.out.done.2⟩
end Go.Proofs.Ytojaagnfjenhoaa
/- The walk over package rec: a reader's record, of a checkpoint: words. -/
namespace Rc
theorem txn_step {l : List UInt8} {st : St} (h : st.at_ ≤ l.length) : ((txnM true l st).2.bad = false → (txnM true l st).2.at_ ≤ l.length) ∧ (txnM true l st).2.at_ ≤ l.length + 100 := by
  rcases h1 : numM true l st 6 with ⟨a, s1⟩
  rcases h2 : numM true l s1 6 with ⟨b, s2⟩
  rcases h3 : numM true l s2 6 with ⟨c, s3⟩
  rcases h4 : numM true l s3 1 with ⟨d, s4⟩
  have e : (txnM true l st).2 = s4 := by unfold txnM; simp only [h1, h2, h3, h4]
  rw [e]
  have a1 := numM_le h1
  have a2 := numM_le h2
  have a3 := numM_le h3
  have a4 := numM_le h4
  exact ⟨fun hb => (numM_in h4 hb).1, by omega⟩
theorem dirty_step {l : List UInt8} {st : St} (h : st.at_ ≤ l.length) : ((dirtyM true l st).2.bad = false → (dirtyM true l st).2.at_ ≤ l.length) ∧ (dirtyM true l st).2.at_ ≤ l.length + 100 := by
  rcases h1 : numM true l st 3 with ⟨a, s1⟩
  rcases h2 : numM true l s1 6 with ⟨b, s2⟩
  have e : (dirtyM true l st).2 = s2 := by unfold dirtyM; simp only [h1, h2]
  rw [e]
  have a1 := numM_le h1
  have a2 := numM_le h2
  exact ⟨fun hb => (numM_in h2 hb).1, by omega⟩
/-- What is still to come of a list that is read. -/
structure Rest {α : Type} (one : St → α × St) (len : Nat) (TS : List α) (sT : St) (ts : List α) (m : Nat) (st : St) : Prop where
  list : ts ++ (manyM one m st).1 = TS
  state : (manyM one m st).2 = sT
  inn : st.bad = false → st.at_ ≤ len
  lim : st.at_ ≤ len + 500
theorem Rest.stop {α : Type} {one : St → α × St} {len : Nat} {TS ts : List α} {sT st : St} (h : Rest one len TS sT ts 0 st) : ts = TS ∧ st = sT := ⟨by simpa [manyM] using h.list, by simpa [manyM] using h.state⟩
theorem many_bad {α : Type} {one : St → α × St} {m : Nat} {st : St} (hb : st.bad = true) : manyM one m st = ([], st) := by
  cases m with
  | zero => rfl
  | succ m => unfold manyM; rw [if_pos hb]
theorem Rest.bad {α : Type} {one : St → α × St} {len m : Nat} {TS ts : List α} {sT st : St} (h : Rest one len TS sT ts m st) (hb : st.bad = true) : ts = TS ∧ st = sT := by
  have h1 := h.list
  have h2 := h.state
  rw [many_bad hb] at h1 h2
  exact ⟨by simpa using h1, h2⟩
theorem Rest.next {α : Type} {one : St → α × St} {len m : Nat} {TS ts : List α} {sT st st' : St} {x : α} (h : Rest one len TS sT ts m st) (h0 : 0 < m) (hb : st.bad = false) (hx : one st = (x, st')) (h1 : st'.bad = false → st'.at_ ≤ len) (h2 : st'.at_ ≤ len + 100) :
    Rest one len TS sT (ts ++ [x]) (m - 1) st' := by
  obtain ⟨m, rfl⟩ : ∃ k, m = k + 1 := ⟨m - 1, by omega⟩
  have e : manyM one (m + 1) st = (x :: (manyM one m st').1, (manyM one m st').2) := by
    conv => lhs; unfold manyM
    rw [if_neg (by rw [hb]; simp), hx]
  have h3 := h.list
  have h4 := h.state
  rw [e] at h3 h4
  exact ⟨by rw [Nat.add_sub_cancel, List.append_assoc]; exact h3, h4, h1, by omega⟩
theorem many_le {α : Type} {one : St → α × St} {l : List UInt8} (hs : ∀ st, st.at_ ≤ l.length → ((one st).2.bad = false → (one st).2.at_ ≤ l.length) ∧ (one st).2.at_ ≤ l.length + 100) :
    ∀ (m : Nat) (st : St), (st.bad = false → st.at_ ≤ l.length) → st.at_ ≤ l.length + 400 → ((manyM one m st).2.bad = false → (manyM one m st).2.at_ ≤ l.length) ∧ (manyM one m st).2.at_ ≤ l.length + 400 ∧ (manyM one m st).1.length ≤ m := by
  intro m
  induction m with
  | zero => intro st h1 h2; exact ⟨h1, h2, Nat.le_refl _⟩
  | succ m ih =>
    intro st h1 h2
    cases hb : st.bad with
    | true => rw [many_bad hb]; exact ⟨h1, h2, Nat.zero_le _⟩
    | false =>
      have h3 := hs st (h1 hb)
      have h4 := ih (one st).2 h3.1 (by omega)
      unfold manyM
      rw [if_neg (by rw [hb]; simp)]
      exact ⟨h4.1, h4.2.1, by simpa using h4.2.2⟩
end Rc
namespace Go.Proofs.Ytojaagnfjenhoaa
open Go.RowKit
theorem Rd.numK {w u : World} {b f : Nat} {s : ByteArray} {st st' : Rc.St} {X F : Array Value} {n : Int} (h : Rd w b s st X f F u) (k : Nat) (h1 : 1 ≤ k) (h6 : k ≤ 6) (hn : Rc.numM true s.data.toList st k = (n, st')) (hm : s.size ≤ 1000000) (ha : st.at_ ≤ 2000000000) :
    Calls Try.prog 55 #[.pointer (some ⟨b, 0, none⟩), .int .i64 (k : Int)] u fun e v => e = .returned (.int .i64 n) ∧ Rd w b s st' X f F v ∧ KeptB u.heap.size b u v := by
  refine (rnum_any b s st k h1 h6 (by omega) ha u h.rd).mono ?_
  rintro e v ⟨rfl, h2, h3⟩
  rw [hn] at h2 ⊢
  exact ⟨rfl, h.turn h2 h3, h3⟩
theorem Rd.numK1 {w u : World} {b f : Nat} {s : ByteArray} {st st' : Rc.St} {X F : Array Value} {n : Int} (h : Rd w b s st X f F u) (hn : Rc.numM true s.data.toList st 1 = (n, st')) (hm : s.size ≤ 1000000) (ha : st.at_ ≤ 2000000000) :
    Calls Try.prog 55 #[.pointer (some ⟨b, 0, none⟩), .int .i64 1] u fun e v => e = .returned (.int .i64 n) ∧ Rd w b s st' X f F v ∧ KeptB u.heap.size b u v := h.numK 1 (by omega) (by omega) hn hm ha
theorem Rd.numK2 {w u : World} {b f : Nat} {s : ByteArray} {st st' : Rc.St} {X F : Array Value} {n : Int} (h : Rd w b s st X f F u) (hn : Rc.numM true s.data.toList st 2 = (n, st')) (hm : s.size ≤ 1000000) (ha : st.at_ ≤ 2000000000) :
    Calls Try.prog 55 #[.pointer (some ⟨b, 0, none⟩), .int .i64 2] u fun e v => e = .returned (.int .i64 n) ∧ Rd w b s st' X f F v ∧ KeptB u.heap.size b u v := h.numK 2 (by omega) (by omega) hn hm ha
theorem Rd.numK3 {w u : World} {b f : Nat} {s : ByteArray} {st st' : Rc.St} {X F : Array Value} {n : Int} (h : Rd w b s st X f F u) (hn : Rc.numM true s.data.toList st 3 = (n, st')) (hm : s.size ≤ 1000000) (ha : st.at_ ≤ 2000000000) :
    Calls Try.prog 55 #[.pointer (some ⟨b, 0, none⟩), .int .i64 3] u fun e v => e = .returned (.int .i64 n) ∧ Rd w b s st' X f F v ∧ KeptB u.heap.size b u v := h.numK 3 (by omega) (by omega) hn hm ha
theorem Rd.numK6 {w u : World} {b f : Nat} {s : ByteArray} {st st' : Rc.St} {X F : Array Value} {n : Int} (h : Rd w b s st X f F u) (hn : Rc.numM true s.data.toList st 6 = (n, st')) (hm : s.size ≤ 1000000) (ha : st.at_ ≤ 2000000000) :
    Calls Try.prog 55 #[.pointer (some ⟨b, 0, none⟩), .int .i64 6] u fun e v => e = .returned (.int .i64 n) ∧ Rd w b s st' X f F v ∧ KeptB u.heap.size b u v := h.numK 6 (by omega) (by omega) hn hm ha
theorem Rd.under {w u v : World} {b f : Nat} {s : ByteArray} {st : Rc.St} {X F : Array Value} (h : Rd w b s st X f F u) (hf : w.heap.size + 1 < f) (hb : Below (f + 1) u v) : Rd w b s st X f F v := by
  have hw := h.bw
  refine ⟨(hb.block _ (by omega)).trans h.rd, (hb.block _ (by omega)).trans h.br, (hb.block _ (by omega)).trans h.bx, .inr ⟨hf, (hb.block _ (by omega)).trans (h.form (by omega))⟩, hw, h.kept.trans ⟨hb.os, hb.tape, hb.output, hb.size, fun k hk _ => hb.block k (by omega)⟩⟩
theorem ownRowSet {w : World} {B : Nat} {e : TypeId} {size n : Nat} {v : Value} {xs : List Value} (h : w.ownsRow B e size v n xs) (b : Nat) (cs : Array Value) (hb : b < B) : (w.setRow b cs).ownsRow B e size v n xs := by
  refine ⟨h.1, ?_⟩
  rcases h.2 with hz | ⟨g, cap, cur, hv, hg, hh, r⟩
  · exact .inl hz
  · exact .inr ⟨g, cap, cur, hv, hg, by rw [heap_setRow_ne _ _ _ _ (by omega)]; exact hh, r⟩
theorem info_txn : (Try.prog.info? 106).map (fun i => (i.zero, i.size, i.bytes)) = some (some (.agg #[.int .i64 0, .int .i64 0, .int .i64 0, .bool false]), 4, 32) := by kernel_rfl
theorem info_dirty : (Try.prog.info? 108).map (fun i => (i.zero, i.size, i.bytes)) = some (some (.agg #[.int .i64 0, .int .i64 0]), 2, 16) := by kernel_rfl
end Go.Proofs.Ytojaagnfjenhoaa
