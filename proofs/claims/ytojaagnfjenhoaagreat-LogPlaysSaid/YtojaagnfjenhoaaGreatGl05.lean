/- The walk over package rec: a reader's record, of kind 2. -/
import Derived.Test.YtojaagnfjenhoaaGreatGl04
import Derived.Test.YtojaagnfjenhoaaGreatGl02
import Derived.Test.YtojaagnfjenhoaaGreatGl03
import Derived.BigRegion
namespace Go.Proofs.YtojaagnfjenhoaaGreat
open Go.RowKit
set_option maxRecDepth 100000 in
set_option maxHeartbeats 2000000 in
theorem record_change (b : Nat) (s : ByteArray) (hm : s.size ≤ 1000000) (s1 : Rc.St) (h0 : Rc.numM true s.data.toList ⟨0, false⟩ 1 = (2, s1)) (w : World) (hb : w.heap[b]? = some (.cells (rdC s 0 false) 102 (0, 0))) :
    Calls Tryz.prog 59 #[.pointer (some ⟨b, 0, none⟩)] w (RecOut (Rc.readM true s.data.toList) b w) := by
  have hl : s.data.toList.length = s.size := by simp
  have a1 : s1.at_ ≤ 1 := Rc.numM_le h0
  have C0 := Lib.hid (fun X f F u (hu : Rd w b s ⟨0, false⟩ X f F u) => hu.num1 h0 hm (by show 0 ≤ _; omega))
  rcases h1 : Rc.numM true s.data.toList s1 6 with ⟨lsn, s2⟩
  have a2 : s2.at_ ≤ s1.at_ + 6 := Rc.numM_le h1
  have C1 := Lib.hid (fun X f F u (hu : Rd w b s s1 X f F u) => hu.num6 h1 hm (by omega))
  rcases h2 : Rc.numM true s.data.toList s2 6 with ⟨prev, s3⟩
  have a3 : s3.at_ ≤ s2.at_ + 6 := Rc.numM_le h2
  have C2 := Lib.hid (fun X f F u (hu : Rd w b s s2 X f F u) => hu.num6 h2 hm (by omega))
  rcases h3 : Rc.numM true s.data.toList s3 6 with ⟨txn, s4⟩
  have a4 : s4.at_ ≤ s3.at_ + 6 := Rc.numM_le h3
  have C3 := Lib.hid (fun X f F u (hu : Rd w b s s3 X f F u) => hu.num6 h3 hm (by omega))
  rcases h4 : Rc.numM true s.data.toList s4 3 with ⟨pa, s5⟩
  have a5 : s5.at_ ≤ s4.at_ + 3 := Rc.numM_le h4
  have C4 := Lib.hid (fun X f F u (hu : Rd w b s s4 X f F u) => hu.num3 h4 hm (by omega))
  rcases h5 : Rc.numM true s.data.toList s5 1 with ⟨ok, s6⟩
  have a6 : s6.at_ ≤ s5.at_ + 1 := Rc.numM_le h5
  have C5 := Lib.hid (fun X f F u (hu : Rd w b s s5 X f F u) => hu.num1 h5 hm (by omega))
  rcases h6 : Rc.numM true s.data.toList s6 2 with ⟨os, s7⟩
  have a7 : s7.at_ ≤ s6.at_ + 2 := Rc.numM_le h6
  have C6 := Lib.hid (fun X f F u (hu : Rd w b s s6 X f F u) => hu.num2 h6 hm (by omega))
  rcases h7 : Rc.textM s.data.toList s7 with ⟨oo, s8⟩
  have a8 : s8.at_ ≤ s7.at_ + s.data.toList.length := Rc.textM_le h7
  have C7 := Lib.hid (fun X f F u (hu : Rd w b s s7 X f F u) => hu.text h7 hm (by omega))
  rcases h8 : Rc.textM s.data.toList s8 with ⟨on, s9⟩
  have a9 : s9.at_ ≤ s8.at_ + s.data.toList.length := Rc.textM_le h8
  have C8 := Lib.hid (fun X f F u (hu : Rd w b s s8 X f F u) => hu.text h8 hm (by omega))
  rcases h9 : Rc.numM true s.data.toList s9 1 with ⟨ho, s10⟩
  have a10 : s10.at_ ≤ s9.at_ + 1 := Rc.numM_le h9
  have C9 := Lib.hid (fun X f F u (hu : Rd w b s s9 X f F u) => hu.num1 h9 hm (by omega))
  rcases h10 : Rc.numM true s.data.toList s10 3 with ⟨ro, s11⟩
  have a11 : s11.at_ ≤ s10.at_ + 3 := Rc.numM_le h10
  have C10 := Lib.hid (fun X f F u (hu : Rd w b s s10 X f F u) => hu.num3 h10 hm (by omega))
  rcases h11 : Rc.numM true s.data.toList s11 3 with ⟨ep, s12⟩
  have a12 : s12.at_ ≤ s11.at_ + 3 := Rc.numM_le h11
  have C11 := Lib.hid (fun X f F u (hu : Rd w b s s11 X f F u) => hu.num3 h11 hm (by omega))
  rcases h12 : Rc.numM true s.data.toList s12 2 with ⟨es, s13⟩
  have a13 : s13.at_ ≤ s12.at_ + 2 := Rc.numM_le h12
  have C12 := Lib.hid (fun X f F u (hu : Rd w b s s12 X f F u) => hu.num2 h12 hm (by omega))
  rcases h13 : Rc.textM s.data.toList s13 with ⟨ek, s14⟩
  have a14 : s14.at_ ≤ s13.at_ + s.data.toList.length := Rc.textM_le h13
  have C13 := Lib.hid (fun X f F u (hu : Rd w b s s13 X f F u) => hu.text h13 hm (by omega))
  have e0 : Rc.headM true s.data.toList = (Rc.bare 2 lsn prev txn, s4) := by
    unfold Rc.headM; simp only [h0, h1, h2, h3]
  have RDD : Rc.readM true s.data.toList = Rc.treeM true s.data.toList ⟨lsn, prev, txn, 2, pa, 0, 0, ⟨ok, os, oo, on⟩, 0, 0, Rc.noKey, [], []⟩ s9 := by
    unfold Rc.readM
    rw [e0]
    show Rc.restM true _ (Rc.bare 2 lsn prev txn) s4 = _
    rw [Rc.restM_2 rfl]
    unfold Rc.opM
    simp only [h4, h5, h6, h7, h8]
    rfl
  have RD1 : ho = 1 → Rc.readM true s.data.toList = ⟨lsn, prev, txn, 2, pa, 0, 0, ⟨ok, os, oo, on⟩, ho, 0, Rc.noKey, [], []⟩ := fun hh => by
    rw [RDD]; unfold Rc.treeM; simp only [h9, if_pos hh]
  have RD2 : ¬ ho = 1 → Rc.readM true s.data.toList = ⟨lsn, prev, txn, 2, pa, 0, 0, ⟨ok, os, oo, on⟩, ho, ro, ⟨ek, ep, es⟩, [], []⟩ := fun hh => by
    rw [RDD]; unfold Rc.treeM; simp only [h9, h10, h11, h12, h13, if_neg hh]
  clear RDD
  have HOF := Lib.hid (fun W => of_any 2 W)
  rw [show ofV 2 = .tuple #[formV true true false false true, .bool true] from rfl] at HOF
  have RDA := Lib.hid RD1; have RDB := Lib.hid RD2
  clear RD1 RD2
  have HX := Lib.hid (rd_new (st := ⟨0, false⟩) hb)
  clear hb e0 h0 a1 h1 a2 h2 a3 h3 a4 h4 a5 h5 a6 h6 a7 h7 a8 h8 a9 h9 a10 h10 a11 h11 a12 h12 a13 h13 a14
  go_enter Tryz.func59, Tryz.ntmps59
  go_upto_region 2 with fail
  obtain ⟨W0, hW0⟩ : ∃ W, W = (w.alloc (.cells (rcA 0 0 0 0 0 0 0 0 0 ⟨#[]⟩ ⟨#[]⟩ 0 0 ⟨#[]⟩ 0 0 (.slice none 0 0) (.slice none 0 0)) 42)).alloc (.cells (rcA 0 0 0 0 0 0 0 0 0 ⟨#[]⟩ ⟨#[]⟩ 0 0 ⟨#[]⟩ 0 0 (.slice none 0 0) (.slice none 0 0)) 42) := ⟨_, rfl⟩
  rw [← hW0] at HX ⊢
  clear hW0
  go_upto_region 3 with (first | (go_at_call 92; (with_reducible refine (C0.out _ _ _ _ HX.out).mono ?_); rintro e w1 ⟨rfl, hS1⟩; have hz1 := blkFrozen hS1.bx; have hy1 := blkCell hS1.bx))
  obtain ⟨U1, hU1⟩ : ∃ W, W = (w1.setCell ⟨w.heap.size + 1, 3, none⟩ (.int .i64 2)) := ⟨_, rfl⟩
  have H1 : Hid (Rd w b s s1 (rcA 0 0 0 2 0 0 0 0 0 ⟨#[]⟩ ⟨#[]⟩ 0 0 ⟨#[]⟩ 0 0 (.slice none 0 0) (.slice none 0 0)) w.heap.size #[] (w1.setCell ⟨w.heap.size + 1, 3, none⟩ (.int .i64 2))) := Lib.hid (by have h := (hS1.set 3 (.int .i64 2)); first | exact h | simpa using h)
  rw [← hU1] at H1 ⊢
  clear hU1 hS1 hz1 hy1 HX
  have hcx := blkCell H1.out.bx
  go_upto_region 4 with (go_at_call 63; (with_reducible refine (HOF.out _).mono ?_); rintro e w9 ⟨rfl, hb9⟩)
  have HF := Lib.hid ((H1.out.step hb9).formed #[.bool true, .bool true, .bool false, .bool false, .bool true])
  have hf : w.heap.size + 1 < w9.heap.size := by have h1 := H1.out.size; have h2 := hb9.size; omega
  obtain ⟨f, hfe⟩ : ∃ f, f = w9.heap.size := ⟨_, rfl⟩
  rw [← hfe] at HF hf ⊢
  obtain ⟨WF, hWF⟩ : ∃ W, W = w9.alloc (.cells #[.bool true, .bool true, .bool false, .bool false, .bool true] 110) := ⟨_, rfl⟩
  rw [← hWF] at HF ⊢
  clear hWF hfe hb9 hcx H1
  have hF := blkCell (HF.out.form (by omega))
  go_upto_region 5 with (first | (go_at_call 92; (with_reducible refine (C1.out _ _ _ _ HF.out).mono ?_); rintro e w2 ⟨rfl, hS2⟩; have hz2 := blkFrozen hS2.bx; have hy2 := blkCell hS2.bx) | (go_at_call 92; (with_reducible refine (C2.out _ _ _ _ hS2).mono ?_); rintro e w3 ⟨rfl, hS3⟩; have hz3 := blkFrozen hS3.bx; have hy3 := blkCell hS3.bx) | (go_at_call 92; (with_reducible refine (C3.out _ _ _ _ hS3).mono ?_); rintro e w4 ⟨rfl, hS4⟩; have hz4 := blkFrozen hS4.bx; have hy4 := blkCell hS4.bx))
  obtain ⟨U4, hU4⟩ : ∃ W, W = (((w4.setCell ⟨w.heap.size + 1, 0, none⟩ (.int .i64 lsn)).setCell ⟨w.heap.size + 1, 1, none⟩ (.int .i64 prev)).setCell ⟨w.heap.size + 1, 2, none⟩ (.int .i64 txn)) := ⟨_, rfl⟩
  have H4 : Hid (Rd w b s s4 (rcA lsn prev txn 2 0 0 0 0 0 ⟨#[]⟩ ⟨#[]⟩ 0 0 ⟨#[]⟩ 0 0 (.slice none 0 0) (.slice none 0 0)) f #[.bool true, .bool true, .bool false, .bool false, .bool true] (((w4.setCell ⟨w.heap.size + 1, 0, none⟩ (.int .i64 lsn)).setCell ⟨w.heap.size + 1, 1, none⟩ (.int .i64 prev)).setCell ⟨w.heap.size + 1, 2, none⟩ (.int .i64 txn))) := Lib.hid (by have h := (((hS4.set 0 (.int .i64 lsn)).set 1 (.int .i64 prev)).set 2 (.int .i64 txn)); first | exact h | simpa using h)
  rw [← hU4] at H4 ⊢
  clear hU4 hS4 hz4 hy4 hS3 hz3 hy3 hS2 hz2 hy2 HF hF
  have hF := blkCell (H4.out.form (by omega))
  go_upto_region 7 with (first | (go_at_call 92; (with_reducible refine (C4.out _ _ _ _ H4.out).mono ?_); rintro e w5 ⟨rfl, hS5⟩; have hz5 := blkFrozen hS5.bx; have hy5 := blkCell hS5.bx))
  obtain ⟨U5, hU5⟩ : ∃ W, W = (w5.setCell ⟨w.heap.size + 1, 4, none⟩ (.int .i64 pa)) := ⟨_, rfl⟩
  have H5 : Hid (Rd w b s s5 (rcA lsn prev txn 2 pa 0 0 0 0 ⟨#[]⟩ ⟨#[]⟩ 0 0 ⟨#[]⟩ 0 0 (.slice none 0 0) (.slice none 0 0)) f #[.bool true, .bool true, .bool false, .bool false, .bool true] (w5.setCell ⟨w.heap.size + 1, 4, none⟩ (.int .i64 pa))) := Lib.hid (by have h := (hS5.set 4 (.int .i64 pa)); first | exact h | simpa using h)
  rw [← hU5] at H5 ⊢
  clear hU5 hS5 hz5 hy5 H4 hF
  go_upto_region 8 with (first | (go_at_call 92; (with_reducible refine (C5.out _ _ _ _ H5.out).mono ?_); rintro e w6 ⟨rfl, hS6⟩; have hz6 := blkFrozen hS6.bx; have hy6 := blkCell hS6.bx) | (go_at_call 92; (with_reducible refine (C6.out _ _ _ _ hS6).mono ?_); rintro e w7 ⟨rfl, hS7⟩; have hz7 := blkFrozen hS7.bx; have hy7 := blkCell hS7.bx) | (go_at_call 93; (with_reducible refine (C7.out _ _ _ _ hS7).mono ?_); rintro e w8 ⟨rfl, hS8⟩; have hz8 := blkFrozen hS8.bx; have hy8 := blkCell hS8.bx) | (go_at_call 93; (with_reducible refine (C8.out _ _ _ _ hS8).mono ?_); rintro e w9 ⟨rfl, hS9⟩; have hz9 := blkFrozen hS9.bx; have hy9 := blkCell hS9.bx))
  obtain ⟨U9, hU9⟩ : ∃ W, W = ((((w9.setCell ⟨w.heap.size + 1, 7, none⟩ (.int .i64 ok)).setCell ⟨w.heap.size + 1, 8, none⟩ (.int .i64 os)).setCell ⟨w.heap.size + 1, 9, none⟩ (.string oo)).setCell ⟨w.heap.size + 1, 10, none⟩ (.string on)) := ⟨_, rfl⟩
  have H9 : Hid (Rd w b s s9 (rcA lsn prev txn 2 pa 0 0 ok os oo on 0 0 ⟨#[]⟩ 0 0 (.slice none 0 0) (.slice none 0 0)) f #[.bool true, .bool true, .bool false, .bool false, .bool true] ((((w9.setCell ⟨w.heap.size + 1, 7, none⟩ (.int .i64 ok)).setCell ⟨w.heap.size + 1, 8, none⟩ (.int .i64 os)).setCell ⟨w.heap.size + 1, 9, none⟩ (.string oo)).setCell ⟨w.heap.size + 1, 10, none⟩ (.string on))) := Lib.hid (by have h := ((((hS9.set 7 (.int .i64 ok)).set 8 (.int .i64 os)).set 9 (.string oo)).set 10 (.string on)); first | exact h | simpa using h)
  rw [← hU9] at H9 ⊢
  clear hU9 hS9 hz9 hy9 hS8 hz8 hy8 hS7 hz7 hy7 hS6 hz6 hy6 H5
  have hF := blkCell (H9.out.form (by omega))
  go_upto_region 10 with (first | (go_at_call 92; (with_reducible refine (C9.out _ _ _ _ H9.out).mono ?_); rintro e w10 ⟨rfl, hS10⟩; have hz10 := blkFrozen hS10.bx; have hy10 := blkCell hS10.bx))
  obtain ⟨U10, hU10⟩ : ∃ W, W = (w10.setCell ⟨w.heap.size + 1, 11, none⟩ (.int .i64 ho)) := ⟨_, rfl⟩
  have H10 : Hid (Rd w b s s10 (rcA lsn prev txn 2 pa 0 0 ok os oo on ho 0 ⟨#[]⟩ 0 0 (.slice none 0 0) (.slice none 0 0)) f #[.bool true, .bool true, .bool false, .bool false, .bool true] (w10.setCell ⟨w.heap.size + 1, 11, none⟩ (.int .i64 ho))) := Lib.hid (by have h := (hS10.set 11 (.int .i64 ho)); first | exact h | simpa using h)
  rw [← hU10] at H10 ⊢
  clear hU10 hS10 hz10 hy10 H9 hF
  have hF := blkCell (H10.out.form (by omega))
  have hcx := blkCell H10.out.bx
  by_cases hh : ho = 1
  · subst hh
    have RDH := Lib.hid (RDA.out rfl)
    go_upto_region 26 with fail
    clear hF hcx
    go_wp2_with (first | (with_reducible refine listLoad (by kernel_rfl) 42 (.tmp 3) rfl (w.heap.size + 1) rfl (rcA lsn prev txn 2 pa 0 0 ok os oo on 1 0 ⟨#[]⟩ 0 0 (.slice none 0 0) (.slice none 0 0)) _ H10.out.bx _ Tryz.underlying42 (by kernel_rfl) (by kernel_rfl) ?_) | (with_reducible refine listStore (by kernel_rfl) 42 (.tmp 2) (.tmp 124) rfl w.heap.size (rcA lsn prev txn 2 pa 0 0 ok os oo on 1 0 ⟨#[]⟩ 0 0 (.slice none 0 0) (.slice none 0 0)) _ _ rfl rfl H10.out.br (by kernel_rfl) (by kernel_rfl) (by kernel_rfl) ?_))
    refine bodyPost_ret (v := .agg (rcA lsn prev txn 2 pa 0 0 ok os oo on 1 0 ⟨#[]⟩ 0 0 (.slice none 0 0) (.slice none 0 0))) (results_cell rfl _ _ rfl (load_whole H10.out.done.1 Tryz.underlying42 (by kernel_rfl) (by kernel_rfl))) rfl ?_
    rw [RDH.out]
    exact ⟨none, 0, none, 0, rfl, ⟨⟨Reads.none_ _ _ _ _, Reads.none_ _ _ _ _, ⟨Nat.zero_le _, Nat.zero_le _⟩⟩, NewT.none_ _ _ _, NewT.none_ _ _ _⟩, H10.out.done.2⟩
  · have RDH := Lib.hid (RDB.out hh)
    have hh2 : (ho == 1) = false := by simpa using hh
    have hh3 : (ho != 1) = true := by simpa using hh
    clear hh
    go_upto_region 12 with (first | (go_at_call 92; (with_reducible refine (C10.out _ _ _ _ H10.out).mono ?_); rintro e w11 ⟨rfl, hS11⟩; have hz11 := blkFrozen hS11.bx; have hy11 := blkCell hS11.bx))
    obtain ⟨U11, hU11⟩ : ∃ W, W = (w11.setCell ⟨w.heap.size + 1, 12, none⟩ (.int .i64 ro)) := ⟨_, rfl⟩
    have H11 : Hid (Rd w b s s11 (rcA lsn prev txn 2 pa 0 0 ok os oo on ho ro ⟨#[]⟩ 0 0 (.slice none 0 0) (.slice none 0 0)) f #[.bool true, .bool true, .bool false, .bool false, .bool true] (w11.setCell ⟨w.heap.size + 1, 12, none⟩ (.int .i64 ro))) := Lib.hid (by have h := (hS11.set 12 (.int .i64 ro)); first | exact h | simpa using h)
    rw [← hU11] at H11 ⊢
    clear hU11 hS11 hz11 hy11 H10 hF hcx
    go_upto_region 13 with (first | (go_at_call 92; (with_reducible refine (C11.out _ _ _ _ H11.out).mono ?_); rintro e w12 ⟨rfl, hS12⟩; have hz12 := blkFrozen hS12.bx; have hy12 := blkCell hS12.bx) | (go_at_call 92; (with_reducible refine (C12.out _ _ _ _ hS12).mono ?_); rintro e w13 ⟨rfl, hS13⟩; have hz13 := blkFrozen hS13.bx; have hy13 := blkCell hS13.bx))
    obtain ⟨U13, hU13⟩ : ∃ W, W = ((w13.setCell ⟨w.heap.size + 1, 14, none⟩ (.int .i64 ep)).setCell ⟨w.heap.size + 1, 15, none⟩ (.int .i64 es)) := ⟨_, rfl⟩
    have H13 : Hid (Rd w b s s13 (rcA lsn prev txn 2 pa 0 0 ok os oo on ho ro ⟨#[]⟩ ep es (.slice none 0 0) (.slice none 0 0)) f #[.bool true, .bool true, .bool false, .bool false, .bool true] ((w13.setCell ⟨w.heap.size + 1, 14, none⟩ (.int .i64 ep)).setCell ⟨w.heap.size + 1, 15, none⟩ (.int .i64 es))) := Lib.hid (by have h := ((hS13.set 14 (.int .i64 ep)).set 15 (.int .i64 es)); first | exact h | simpa using h)
    rw [← hU13] at H13 ⊢
    clear hU13 hS13 hz13 hy13 hS12 hz12 hy12 H11
    go_upto_region 14 with (first | (go_at_call 93; (with_reducible refine (C13.out _ _ _ _ H13.out).mono ?_); rintro e w14 ⟨rfl, hS14⟩; have hz14 := blkFrozen hS14.bx; have hy14 := blkCell hS14.bx))
    obtain ⟨U14, hU14⟩ : ∃ W, W = (w14.setCell ⟨w.heap.size + 1, 13, none⟩ (.string ek)) := ⟨_, rfl⟩
    have H14 : Hid (Rd w b s s14 (rcA lsn prev txn 2 pa 0 0 ok os oo on ho ro ek ep es (.slice none 0 0) (.slice none 0 0)) f #[.bool true, .bool true, .bool false, .bool false, .bool true] (w14.setCell ⟨w.heap.size + 1, 13, none⟩ (.string ek))) := Lib.hid (by have h := (hS14.set 13 (.string ek)); first | exact h | simpa using h)
    rw [← hU14] at H14 ⊢
    clear hU14 hS14 hz14 hy14 H13
    have hF := blkCell (H14.out.form (by omega))
    go_upto_region 26 with fail
    clear hF
    go_wp2_with (first | (with_reducible refine listLoad (by kernel_rfl) 42 (.tmp 3) rfl (w.heap.size + 1) rfl (rcA lsn prev txn 2 pa 0 0 ok os oo on ho ro ek ep es (.slice none 0 0) (.slice none 0 0)) _ H14.out.bx _ Tryz.underlying42 (by kernel_rfl) (by kernel_rfl) ?_) | (with_reducible refine listStore (by kernel_rfl) 42 (.tmp 2) (.tmp 124) rfl w.heap.size (rcA lsn prev txn 2 pa 0 0 ok os oo on ho ro ek ep es (.slice none 0 0) (.slice none 0 0)) _ _ rfl rfl H14.out.br (by kernel_rfl) (by kernel_rfl) (by kernel_rfl) ?_))
    refine bodyPost_ret (v := .agg (rcA lsn prev txn 2 pa 0 0 ok os oo on ho ro ek ep es (.slice none 0 0) (.slice none 0 0))) (results_cell rfl _ _ rfl (load_whole H14.out.done.1 Tryz.underlying42 (by kernel_rfl) (by kernel_rfl))) rfl ?_
    rw [RDH.out]
    exact ⟨none, 0, none, 0, rfl, ⟨⟨Reads.none_ _ _ _ _, Reads.none_ _ _ _ _, ⟨Nat.zero_le _, Nat.zero_le _⟩⟩, NewT.none_ _ _ _, NewT.none_ _ _ _⟩, H14.out.done.2⟩
end Go.Proofs.YtojaagnfjenhoaaGreat
/- The walk over package rec: a reader's record, of a checkpoint: words. -/
namespace Rc
theorem txn_step {l : List UInt8} {st : St} (h : st.at_ ≤ l.length) : ((txnM true l st).2.bad = false → (txnM true l st).2.at_ ≤ l.length) ∧ (txnM true l st).2.at_ ≤ l.length + 100 := by
  rcases h1 : numM true l st 6 with ⟨a, s1⟩
  rcases h2 : numM true l s1 6 with ⟨b, s2⟩
  rcases h3 : numM true l s2 6 with ⟨c, s3⟩
  rcases h4 : numM true l s3 1 with ⟨d, s4⟩
  have e : (txnM true l st).2 = s4 := by unfold txnM; simp only [h1, h2, h3, h4]
  rw [e]
  have a1 := numM_le h1
  have a2 := numM_le h2
  have a3 := numM_le h3
  have a4 := numM_le h4
  exact ⟨fun hb => (numM_in h4 hb).1, by omega⟩
theorem dirty_step {l : List UInt8} {st : St} (h : st.at_ ≤ l.length) : ((dirtyM true l st).2.bad = false → (dirtyM true l st).2.at_ ≤ l.length) ∧ (dirtyM true l st).2.at_ ≤ l.length + 100 := by
  rcases h1 : numM true l st 3 with ⟨a, s1⟩
  rcases h2 : numM true l s1 6 with ⟨b, s2⟩
  have e : (dirtyM true l st).2 = s2 := by unfold dirtyM; simp only [h1, h2]
  rw [e]
  have a1 := numM_le h1
  have a2 := numM_le h2
  exact ⟨fun hb => (numM_in h2 hb).1, by omega⟩
/-- What is still to come of a list that is read. -/
structure Rest {α : Type} (one : St → α × St) (len : Nat) (TS : List α) (sT : St) (ts : List α) (m : Nat) (st : St) : Prop where
  list : ts ++ (manyM one m st).1 = TS
  state : (manyM one m st).2 = sT
  inn : st.bad = false → st.at_ ≤ len
  lim : st.at_ ≤ len + 500
theorem Rest.stop {α : Type} {one : St → α × St} {len : Nat} {TS ts : List α} {sT st : St} (h : Rest one len TS sT ts 0 st) : ts = TS ∧ st = sT := ⟨by simpa [manyM] using h.list, by simpa [manyM] using h.state⟩
theorem many_bad {α : Type} {one : St → α × St} {m : Nat} {st : St} (hb : st.bad = true) : manyM one m st = ([], st) := by
  cases m with
  | zero => rfl
  | succ m => unfold manyM; rw [if_pos hb]
theorem Rest.bad {α : Type} {one : St → α × St} {len m : Nat} {TS ts : List α} {sT st : St} (h : Rest one len TS sT ts m st) (hb : st.bad = true) : ts = TS ∧ st = sT := by
  have h1 := h.list
  have h2 := h.state
  rw [many_bad hb] at h1 h2
  exact ⟨by simpa using h1, h2⟩
theorem Rest.next {α : Type} {one : St → α × St} {len m : Nat} {TS ts : List α} {sT st st' : St} {x : α} (h : Rest one len TS sT ts m st) (h0 : 0 < m) (hb : st.bad = false) (hx : one st = (x, st')) (h1 : st'.bad = false → st'.at_ ≤ len) (h2 : st'.at_ ≤ len + 100) :
    Rest one len TS sT (ts ++ [x]) (m - 1) st' := by
  obtain ⟨m, rfl⟩ : ∃ k, m = k + 1 := ⟨m - 1, by omega⟩
  have e : manyM one (m + 1) st = (x :: (manyM one m st').1, (manyM one m st').2) := by
    conv => lhs; unfold manyM
    rw [if_neg (by rw [hb]; simp), hx]
  have h3 := h.list
  have h4 := h.state
  rw [e] at h3 h4
  exact ⟨by rw [Nat.add_sub_cancel, List.append_assoc]; exact h3, h4, h1, by omega⟩
theorem many_le {α : Type} {one : St → α × St} {l : List UInt8} (hs : ∀ st, st.at_ ≤ l.length → ((one st).2.bad = false → (one st).2.at_ ≤ l.length) ∧ (one st).2.at_ ≤ l.length + 100) :
    ∀ (m : Nat) (st : St), (st.bad = false → st.at_ ≤ l.length) → st.at_ ≤ l.length + 400 → ((manyM one m st).2.bad = false → (manyM one m st).2.at_ ≤ l.length) ∧ (manyM one m st).2.at_ ≤ l.length + 400 ∧ (manyM one m st).1.length ≤ m := by
  intro m
  induction m with
  | zero => intro st h1 h2; exact ⟨h1, h2, Nat.le_refl _⟩
  | succ m ih =>
    intro st h1 h2
    cases hb : st.bad with
    | true => rw [many_bad hb]; exact ⟨h1, h2, Nat.zero_le _⟩
    | false =>
      have h3 := hs st (h1 hb)
      have h4 := ih (one st).2 h3.1 (by omega)
      unfold manyM
      rw [if_neg (by rw [hb]; simp)]
      exact ⟨h4.1, h4.2.1, by simpa using h4.2.2⟩
end Rc
namespace Go.Proofs.YtojaagnfjenhoaaGreat
open Go.RowKit
theorem Rd.numK {w u : World} {b f : Nat} {s : ByteArray} {st st' : Rc.St} {X F : Array Value} {n : Int} (h : Rd w b s st X f F u) (k : Nat) (h1 : 1 ≤ k) (h6 : k ≤ 6) (hn : Rc.numM true s.data.toList st k = (n, st')) (hm : s.size ≤ 1000000) (ha : st.at_ ≤ 2000000000) :
    Calls Tryz.prog 92 #[.pointer (some ⟨b, 0, none⟩), .int .i64 (k : Int)] u fun e v => e = .returned (.int .i64 n) ∧ Rd w b s st' X f F v ∧ KeptB u.heap.size b u v := by
  refine (rnum_any b s st k h1 h6 (by omega) ha u h.rd).mono ?_
  rintro e v ⟨rfl, h2, h3⟩
  rw [hn] at h2 ⊢
  exact ⟨rfl, h.turn h2 h3, h3⟩
theorem Rd.numK1 {w u : World} {b f : Nat} {s : ByteArray} {st st' : Rc.St} {X F : Array Value} {n : Int} (h : Rd w b s st X f F u) (hn : Rc.numM true s.data.toList st 1 = (n, st')) (hm : s.size ≤ 1000000) (ha : st.at_ ≤ 2000000000) :
    Calls Tryz.prog 92 #[.pointer (some ⟨b, 0, none⟩), .int .i64 1] u fun e v => e = .returned (.int .i64 n) ∧ Rd w b s st' X f F v ∧ KeptB u.heap.size b u v := h.numK 1 (by omega) (by omega) hn hm ha
theorem Rd.numK2 {w u : World} {b f : Nat} {s : ByteArray} {st st' : Rc.St} {X F : Array Value} {n : Int} (h : Rd w b s st X f F u) (hn : Rc.numM true s.data.toList st 2 = (n, st')) (hm : s.size ≤ 1000000) (ha : st.at_ ≤ 2000000000) :
    Calls Tryz.prog 92 #[.pointer (some ⟨b, 0, none⟩), .int .i64 2] u fun e v => e = .returned (.int .i64 n) ∧ Rd w b s st' X f F v ∧ KeptB u.heap.size b u v := h.numK 2 (by omega) (by omega) hn hm ha
theorem Rd.numK3 {w u : World} {b f : Nat} {s : ByteArray} {st st' : Rc.St} {X F : Array Value} {n : Int} (h : Rd w b s st X f F u) (hn : Rc.numM true s.data.toList st 3 = (n, st')) (hm : s.size ≤ 1000000) (ha : st.at_ ≤ 2000000000) :
    Calls Tryz.prog 92 #[.pointer (some ⟨b, 0, none⟩), .int .i64 3] u fun e v => e = .returned (.int .i64 n) ∧ Rd w b s st' X f F v ∧ KeptB u.heap.size b u v := h.numK 3 (by omega) (by omega) hn hm ha
theorem Rd.numK6 {w u : World} {b f : Nat} {s : ByteArray} {st st' : Rc.St} {X F : Array Value} {n : Int} (h : Rd w b s st X f F u) (hn : Rc.numM true s.data.toList st 6 = (n, st')) (hm : s.size ≤ 1000000) (ha : st.at_ ≤ 2000000000) :
    Calls Tryz.prog 92 #[.pointer (some ⟨b, 0, none⟩), .int .i64 6] u fun e v => e = .returned (.int .i64 n) ∧ Rd w b s st' X f F v ∧ KeptB u.heap.size b u v := h.numK 6 (by omega) (by omega) hn hm ha
theorem Rd.under {w u v : World} {b f : Nat} {s : ByteArray} {st : Rc.St} {X F : Array Value} (h : Rd w b s st X f F u) (hf : w.heap.size + 1 < f) (hb : Below (f + 1) u v) : Rd w b s st X f F v := by
  have hw := h.bw
  refine ⟨(hb.block _ (by omega)).trans h.rd, (hb.block _ (by omega)).trans h.br, (hb.block _ (by omega)).trans h.bx, .inr ⟨hf, (hb.block _ (by omega)).trans (h.form (by omega))⟩, hw, h.kept.trans ⟨hb.os, hb.tape, hb.output, hb.size, fun k hk _ => hb.block k (by omega)⟩⟩
theorem ownRowSet {w : World} {B : Nat} {e : TypeId} {size n : Nat} {v : Value} {xs : List Value} (h : w.ownsRow B e size v n xs) (b : Nat) (cs : Array Value) (hb : b < B) : (w.setRow b cs).ownsRow B e size v n xs := by
  refine ⟨h.1, ?_⟩
  rcases h.2 with hz | ⟨g, cap, cur, hv, hg, hh, r⟩
  · exact .inl hz
  · exact .inr ⟨g, cap, cur, hv, hg, by rw [heap_setRow_ne _ _ _ _ (by omega)]; exact hh, r⟩
theorem info_txn : (Tryz.prog.info? 106).map (fun i => (i.zero, i.size, i.bytes)) = some (some (.agg #[.int .i64 0, .int .i64 0, .int .i64 0, .bool false]), 4, 32) := by kernel_rfl
theorem info_dirty : (Tryz.prog.info? 108).map (fun i => (i.zero, i.size, i.bytes)) = some (some (.agg #[.int .i64 0, .int .i64 0]), 2, 16) := by kernel_rfl
end Go.Proofs.YtojaagnfjenhoaaGreat
/- The walk over package rec: a reader's record, of a checkpoint. -/
namespace Go.Proofs.YtojaagnfjenhoaaGreat
open Go.RowKit
set_option maxRecDepth 100000 in
set_option maxHeartbeats 2000000 in
theorem record_check (b : Nat) (s : ByteArray) (hm : s.size ≤ 1000000) (s1 : Rc.St) (h0 : Rc.numM true s.data.toList ⟨0, false⟩ 1 = (9, s1)) (w : World) (hb : w.heap[b]? = some (.cells (rdC s 0 false) 102 (0, 0))) :
    Calls Tryz.prog 59 #[.pointer (some ⟨b, 0, none⟩)] w (RecOut (Rc.readM true s.data.toList) b w) := by
  have hl : s.data.toList.length = s.size := by simp
  have a1 : s1.at_ ≤ 1 := Rc.numM_le h0
  have C0 := Lib.hid (fun X f F u (hu : Rd w b s ⟨0, false⟩ X f F u) => hu.num1 h0 hm (by show 0 ≤ _; omega))
  rcases h1 : Rc.numM true s.data.toList s1 6 with ⟨lsn, s2⟩
  have a2 : s2.at_ ≤ s1.at_ + 6 := Rc.numM_le h1
  have C1 := Lib.hid (fun X f F u (hu : Rd w b s s1 X f F u) => hu.num6 h1 hm (by omega))
  rcases h2 : Rc.numM true s.data.toList s2 6 with ⟨prev, s3⟩
  have a3 : s3.at_ ≤ s2.at_ + 6 := Rc.numM_le h2
  have C2 := Lib.hid (fun X f F u (hu : Rd w b s s2 X f F u) => hu.num6 h2 hm (by omega))
  rcases h3 : Rc.numM true s.data.toList s3 6 with ⟨txn, s4⟩
  have a4 : s4.at_ ≤ s3.at_ + 6 := Rc.numM_le h3
  have C3 := Lib.hid (fun X f F u (hu : Rd w b s s3 X f F u) => hu.num6 h3 hm (by omega))
  rcases h4 : Rc.numM true s.data.toList s4 6 with ⟨nu, s5⟩
  have a5 : s5.at_ ≤ s4.at_ + 6 := Rc.numM_le h4
  have C4 := Lib.hid (fun X f F u (hu : Rd w b s s4 X f F u) => hu.num6 h4 hm (by omega))
  rcases h5 : Rc.numM true s.data.toList s5 2 with ⟨n1, s6⟩
  have a6 : s6.at_ ≤ s5.at_ + 2 := Rc.numM_le h5
  have C5 := Lib.hid (fun X f F u (hu : Rd w b s s5 X f F u) => hu.num2 h5 hm (by omega))
  have e0 : Rc.headM true s.data.toList = (Rc.bare 9 lsn prev txn, s4) := by
    unfold Rc.headM; simp only [h0, h1, h2, h3]
  have p5 := Rc.numM_nat h5
  obtain ⟨m1, rfl⟩ := Int.eq_ofNat_of_zero_le p5.1
  have hm1 : m1 ≤ 65535 := by have := p5.2; omega
  have a5b : s6.bad = false → s6.at_ ≤ s.data.toList.length := fun hb => (Rc.numM_in h5 hb).1
  rcases hT : Rc.manyM (Rc.txnM true s.data.toList) m1 s6 with ⟨TS, sT⟩
  have bT := Rc.many_le (one := Rc.txnM true s.data.toList) (l := s.data.toList) (fun st h => Rc.txn_step h) m1 s6 a5b (by omega)
  have hR0 : Rc.Rest (Rc.txnM true s.data.toList) s.data.toList.length TS sT [] m1 s6 := ⟨by rw [hT]; rfl, by rw [hT], a5b, by omega⟩
  rw [hT] at bT
  have bT2 : sT.at_ ≤ s.data.toList.length + 400 := bT.2.1
  rcases h6 : Rc.numM true s.data.toList sT 2 with ⟨n2, s7⟩
  have a7 : s7.at_ ≤ sT.at_ + 2 := Rc.numM_le h6
  have C6 := Lib.hid (fun X f F u (hu : Rd w b s sT X f F u) => hu.numK2 h6 hm (by omega))
  have p6 := Rc.numM_nat h6
  obtain ⟨m2, rfl⟩ := Int.eq_ofNat_of_zero_le p6.1
  have hm2 : m2 ≤ 65535 := by have := p6.2; omega
  have a7b : s7.bad = false → s7.at_ ≤ s.data.toList.length := fun hb => (Rc.numM_in h6 hb).1
  rcases hD : Rc.manyM (Rc.dirtyM true s.data.toList) m2 s7 with ⟨DS, sD⟩
  have hR1 : Rc.Rest (Rc.dirtyM true s.data.toList) s.data.toList.length DS sD [] m2 s7 := ⟨by rw [hD]; rfl, by rw [hD], a7b, by omega⟩
  have hTS : TS.length ≤ 65535 := by have := bT.2.2; simp only at this; omega
  have hDS : DS.length ≤ 65535 := by
    have bD : (Rc.manyM (Rc.dirtyM true s.data.toList) m2 s7).1.length ≤ m2 := by
      cases hq : s7.bad with
      | true => rw [Rc.many_bad hq]; exact Nat.zero_le _
      | false => exact (Rc.many_le (one := Rc.dirtyM true s.data.toList) (l := s.data.toList) (fun st h => Rc.dirty_step h) m2 s7 a7b (by have := a7b hq; omega)).2.2
    rw [hD] at bD
    simp only at bD
    omega
  have RD : Rc.readM true s.data.toList = ⟨lsn, prev, txn, 9, 0, 0, nu, Rc.noOp, 0, 0, Rc.noKey, TS, DS⟩ := by
    unfold Rc.readM
    rw [e0]
    show Rc.restM true _ (Rc.bare 9 lsn prev txn) s4 = _
    rw [Rc.restM_9 rfl]
    unfold Rc.listsM
    simp only [h4, h5, Int.toNat_natCast, hT, h6, hD]
    rfl
  have HR0 := Lib.hid hR0
  have HR1 := Lib.hid hR1
  clear hT bT p5 p6 hD a5b a7b h6 a7 hR0 hR1
  have HOF := Lib.hid (fun W => of_any 9 W)
  rw [show ofV 9 = .tuple #[formV false false false true true, .bool true] from rfl] at HOF
  have RDH := Lib.hid RD
  clear RD
  have HX := Lib.hid (rd_new (st := ⟨0, false⟩) hb)
  clear hb e0 h0 a1 h1 a2 h2 a3 h3 a4 h4 a5 h5 a6
  go_enter Tryz.func59, Tryz.ntmps59
  go_upto_region 2 with fail
  obtain ⟨W0, hW0⟩ : ∃ W, W = (w.alloc (.cells (rcA 0 0 0 0 0 0 0 0 0 ⟨#[]⟩ ⟨#[]⟩ 0 0 ⟨#[]⟩ 0 0 (.slice none 0 0) (.slice none 0 0)) 42)).alloc (.cells (rcA 0 0 0 0 0 0 0 0 0 ⟨#[]⟩ ⟨#[]⟩ 0 0 ⟨#[]⟩ 0 0 (.slice none 0 0) (.slice none 0 0)) 42) := ⟨_, rfl⟩
  rw [← hW0] at HX ⊢
  clear hW0
  go_upto_region 3 with (first | (go_at_call 92; (with_reducible refine (C0.out _ _ _ _ HX.out).mono ?_); rintro e w1 ⟨rfl, hS1⟩; have hz1 := blkFrozen hS1.bx; have hy1 := blkCell hS1.bx))
  obtain ⟨U1, hU1⟩ : ∃ W, W = (w1.setCell ⟨w.heap.size + 1, 3, none⟩ (.int .i64 9)) := ⟨_, rfl⟩
  have H1 : Hid (Rd w b s s1 (rcA 0 0 0 9 0 0 0 0 0 ⟨#[]⟩ ⟨#[]⟩ 0 0 ⟨#[]⟩ 0 0 (.slice none 0 0) (.slice none 0 0)) w.heap.size #[] (w1.setCell ⟨w.heap.size + 1, 3, none⟩ (.int .i64 9))) := Lib.hid (by have h := (hS1.set 3 (.int .i64 9)); first | exact h | simpa using h)
  rw [← hU1] at H1 ⊢
  clear hU1 hS1 hz1 hy1 HX
  have hcx := blkCell H1.out.bx
  go_upto_region 4 with (go_at_call 63; (with_reducible refine (HOF.out _).mono ?_); rintro e w9 ⟨rfl, hb9⟩)
  have HF := Lib.hid ((H1.out.step hb9).formed #[.bool false, .bool false, .bool false, .bool true, .bool true])
  have hf : w.heap.size + 1 < w9.heap.size := by have h1 := H1.out.size; have h2 := hb9.size; omega
  obtain ⟨f, hfe⟩ : ∃ f, f = w9.heap.size := ⟨_, rfl⟩
  rw [← hfe] at HF hf ⊢
  obtain ⟨WF, hWF⟩ : ∃ W, W = w9.alloc (.cells #[.bool false, .bool false, .bool false, .bool true, .bool true] 110) := ⟨_, rfl⟩
  rw [← hWF] at HF ⊢
  clear hWF hfe hb9 hcx H1
  have hF := blkCell (HF.out.form (by omega))
  go_upto_region 5 with (first | (go_at_call 92; (with_reducible refine (C1.out _ _ _ _ HF.out).mono ?_); rintro e w2 ⟨rfl, hS2⟩; have hz2 := blkFrozen hS2.bx; have hy2 := blkCell hS2.bx) | (go_at_call 92; (with_reducible refine (C2.out _ _ _ _ hS2).mono ?_); rintro e w3 ⟨rfl, hS3⟩; have hz3 := blkFrozen hS3.bx; have hy3 := blkCell hS3.bx) | (go_at_call 92; (with_reducible refine (C3.out _ _ _ _ hS3).mono ?_); rintro e w4 ⟨rfl, hS4⟩; have hz4 := blkFrozen hS4.bx; have hy4 := blkCell hS4.bx))
  obtain ⟨U4, hU4⟩ : ∃ W, W = (((w4.setCell ⟨w.heap.size + 1, 0, none⟩ (.int .i64 lsn)).setCell ⟨w.heap.size + 1, 1, none⟩ (.int .i64 prev)).setCell ⟨w.heap.size + 1, 2, none⟩ (.int .i64 txn)) := ⟨_, rfl⟩
  have H4 : Hid (Rd w b s s4 (rcA lsn prev txn 9 0 0 0 0 0 ⟨#[]⟩ ⟨#[]⟩ 0 0 ⟨#[]⟩ 0 0 (.slice none 0 0) (.slice none 0 0)) f #[.bool false, .bool false, .bool false, .bool true, .bool true] (((w4.setCell ⟨w.heap.size + 1, 0, none⟩ (.int .i64 lsn)).setCell ⟨w.heap.size + 1, 1, none⟩ (.int .i64 prev)).setCell ⟨w.heap.size + 1, 2, none⟩ (.int .i64 txn))) := Lib.hid (by have h := (((hS4.set 0 (.int .i64 lsn)).set 1 (.int .i64 prev)).set 2 (.int .i64 txn)); first | exact h | simpa using h)
  rw [← hU4] at H4 ⊢
  clear hU4 hS4 hz4 hy4 hS3 hz3 hy3 hS2 hz2 hy2 HF hF
  have hF := blkCell (H4.out.form (by omega))
  go_upto_region 18 with (first | (go_at_call 92; (with_reducible refine (C4.out _ _ _ _ H4.out).mono ?_); rintro e w5 ⟨rfl, hS5⟩; have hz5 := blkFrozen hS5.bx; have hy5 := blkCell hS5.bx))
  obtain ⟨U5, hU5⟩ : ∃ W, W = (w5.setCell ⟨w.heap.size + 1, 6, none⟩ (.int .i64 nu)) := ⟨_, rfl⟩
  have H5 : Hid (Rd w b s s5 (rcA lsn prev txn 9 0 0 nu 0 0 ⟨#[]⟩ ⟨#[]⟩ 0 0 ⟨#[]⟩ 0 0 (.slice none 0 0) (.slice none 0 0)) f #[.bool false, .bool false, .bool false, .bool true, .bool true] (w5.setCell ⟨w.heap.size + 1, 6, none⟩ (.int .i64 nu))) := Lib.hid (by have h := (hS5.set 6 (.int .i64 nu)); first | exact h | simpa using h)
  rw [← hU5] at H5 ⊢
  clear hU5 hS5 hz5 hy5 H4 hF
  go_upto_block 0 with (go_at_call 92; (with_reducible refine (C5.out _ _ _ _ H5.out).mono ?_); rintro e w8 ⟨rfl, hS8⟩)
  have HS8 := Lib.hid hS8
  clear hS8 H5 
  go_cut [] (fun wc => ∃ v, Rd w b s sT (rcA lsn prev txn 9 0 0 nu 0 0 ⟨#[]⟩ ⟨#[]⟩ 0 0 ⟨#[]⟩ 0 0 (v) (.slice none 0 0)) f #[.bool false, .bool false, .bool false, .bool true, .bool true] wc ∧ OwnL txC 4 106 (f + 1) wc v TS)
  case first =>
    go_wp2_with fail
    go_loopw [6] (fun i wr => ∃ (m : Nat) (ts : List Rc.TxnAt) (st : Rc.St) (v : Value), i = .int .i64 (m : Int) ∧ ts.length + m ≤ 65535 ∧ Rc.Rest (Rc.txnM true s.data.toList) s.data.toList.length TS sT ts m st ∧ Rd w b s st (rcA lsn prev txn 9 0 0 nu 0 0 ⟨#[]⟩ ⟨#[]⟩ 0 0 ⟨#[]⟩ 0 0 (v) (.slice none 0 0)) f #[.bool false, .bool false, .bool false, .bool true, .bool true] wr ∧ OwnL txC 4 106 (f + 1) wr v ts) (fun i _ => (intOf i).toNat)
    case atStart => exact ⟨m1, [], s6, .slice none 0 0, rfl, by simp; omega, HR0.out, HS8.out, ownNil _ _ _ _⟩
    case round =>
      obtain ⟨m, ts, st, v, rfl, hlen, hR, hS, hO⟩ := hrel
      have HR := Lib.hid hR
      have HS := Lib.hid hS
      have HO := Lib.hid hO
      clear hR hS hO
      by_cases h0 : m = 0
      · subst h0
        obtain ⟨e1, e2⟩ := HR.out.stop
        subst e1 e2
        go_wp2_with fail
        go_meet
        case rel => exact ⟨v, HS.out, HO.out⟩
      have hm0 : (0 : Int) < (m : Int) := by omega
      have hmN : 0 < m := by omega
      cases hbad : st.bad with
      | true =>
        obtain ⟨e1, e2⟩ := HR.out.bad hbad
        have hcr := blkCell HS.out.rd
        rw [hbad] at hcr
        have HBD := Lib.hid hbad
        subst e1 e2
        clear hbad h0 hmN
        go_wp2_with fail
        go_meet
        case rel => exact ⟨v, HS.out, HO.out⟩
      | false =>
        have hin := HR.out.inn hbad
        have hcr := blkCell HS.out.rd
        rw [hbad] at hcr
        rcases hta : Rc.numM true s.data.toList st 6 with ⟨ta, sta⟩
        have ata : sta.at_ ≤ st.at_ + 6 := Rc.numM_le hta
        have Cta := Lib.hid (fun X f F u (hu : Rd w b s st X f F u) => hu.numK6 hta hm (by omega))
        rcases htb : Rc.numM true s.data.toList sta 6 with ⟨tb, stb⟩
        have atb : stb.at_ ≤ sta.at_ + 6 := Rc.numM_le htb
        have Ctb := Lib.hid (fun X f F u (hu : Rd w b s sta X f F u) => hu.numK6 htb hm (by omega))
        rcases htc : Rc.numM true s.data.toList stb 6 with ⟨tc, stc⟩
        have atc : stc.at_ ≤ stb.at_ + 6 := Rc.numM_le htc
        have Ctc := Lib.hid (fun X f F u (hu : Rd w b s stb X f F u) => hu.numK6 htc hm (by omega))
        rcases htd : Rc.numM true s.data.toList stc 1 with ⟨td, std⟩
        have atd : std.at_ ≤ stc.at_ + 1 := Rc.numM_le htd
        have Ctd := Lib.hid (fun X f F u (hu : Rd w b s stc X f F u) => hu.numK1 htd hm (by omega))
        have hone : Rc.txnM true s.data.toList st = (⟨ta, tb, tc, td == 1⟩, std) := by unfold Rc.txnM; simp only [hta, htb, htc, htd]
        have hst := Rc.txn_step hin
        rw [hone] at hst
        have HN := Lib.hid (HR.out.next hmN hbad hone hst.1 hst.2)
        clear hone hst hbad hin h0 HR hta ata htb atb htc atc htd atd
        obtain ⟨A, c, rfl⟩ := ownLen HO.out
        go_upto_region 21 with fail
        clear hcr
        have HSd := Lib.hid HS.out.drew
        have hO0 := ownBelow HO.out (Below.refl _ wr).drew
        refine wp_region_Z (S := (fun u => u.heap[w.heap.size + 1]? = some (.cells (rcA lsn prev txn 9 0 0 nu 0 0 ⟨#[]⟩ ⟨#[]⟩ 0 0 ⟨#[]⟩ 0 0 ((.slice A ts.length c)) (.slice none 0 0)) 42 (0, 0)))) 15 (by kernel_rfl) ?_ (fun hHeld => ?_)
        · first | exact hSn | exact HSd.out.bx
        refine wpAnyZ_take (i := 0) (oi := { dst := some 86, op := _, type := _, pos := _, after := _, guard := _ }) (v := ?_) (p := [15]) rfl (by kernel_rfl) (by kernel_rfl) (by kernel_rfl) (by kernel_rfl) (by kernel_rfl) (by kernel_rfl) (fun _ _ _ h => h) (Or.inl ⟨by rfl, ?_⟩) (by assumption) ?_
        rotate_left
        · intro u hSu; have hSv := blkCell hSu; clear hSu; go_simp; (try with_reducible rfl)
        try simp only [Act.put, pS]
        refine wpAnyZ_take (i := 1) (oi := { dst := some 87, op := _, type := _, pos := _, after := _, guard := _ }) (v := ?_) (p := [15]) rfl (by kernel_rfl) (by kernel_rfl) (by kernel_rfl) (by kernel_rfl) (by kernel_rfl) (by kernel_rfl) (fun _ _ _ h => h) (Or.inl ⟨by rfl, ?_⟩) (by assumption) ?_
        rotate_left
        · intro u hSu; have hSv := blkCell hSu; clear hSu; go_simp; (try with_reducible rfl)
        try simp only [Act.put, pS]
        refine wpAnyZ_take (i := 2) (oi := { dst := some 88, op := _, type := _, pos := _, after := _, guard := _ }) (v := ?_) (p := [15]) rfl (by kernel_rfl) (by kernel_rfl) (by kernel_rfl) (by kernel_rfl) (by kernel_rfl) (by kernel_rfl) (fun _ _ _ h => h) (Or.inl ⟨by rfl, ?_⟩) (by assumption) ?_
        rotate_left
        · intro u hSu; have hSv := blkCell hSu; clear hSu; go_simp; (try with_reducible rfl)
        try simp only [Act.put, pS]
        refine wpAnyZ_take (i := 4) (oi := { dst := some 90, op := _, type := _, pos := _, after := _, guard := _ }) (v := ?_) (p := [15]) rfl (by kernel_rfl) (by kernel_rfl) (by kernel_rfl) (by kernel_rfl) (by kernel_rfl) (by kernel_rfl) (fun _ _ _ h => h) (Or.inl ⟨by rfl, ?_⟩) (by assumption) ?_
        rotate_left
        · intro u hSu; have hSv := blkCell hSu; clear hSu; go_simp; (try with_reducible rfl)
        try simp only [Act.put, pS]
        refine wpAnyZ_take (i := 6) (oi := { dst := some 92, op := _, type := _, pos := _, after := _, guard := _ }) (v := ?_) (p := [15]) rfl (by kernel_rfl) (by kernel_rfl) (by kernel_rfl) (by kernel_rfl) (by kernel_rfl) (by kernel_rfl) (fun _ _ _ h => h) (Or.inl ⟨by rfl, ?_⟩) (by assumption) ?_
        rotate_left
        · intro u hSu; have hSv := blkCell hSu; clear hSu; go_simp; (try with_reducible rfl)
        try simp only [Act.put, pS]
        refine wpAnyZ_take (i := 8) (oi := { dst := some 94, op := _, type := _, pos := _, after := _, guard := _ }) (v := ?_) (p := [15]) rfl (by kernel_rfl) (by kernel_rfl) (by kernel_rfl) (by kernel_rfl) (by kernel_rfl) (by kernel_rfl) (fun _ _ _ h => h) (Or.inl ⟨by rfl, ?_⟩) (by assumption) ?_
        rotate_left
        · intro u hSu; have hSv := blkCell hSu; clear hSu; go_simp; (try with_reducible rfl)
        try simp only [Act.put, pS]
        refine wpAnyZ_ready (rs := [3]) (by kernel_rfl) (by simp) ?_
        refine AllReadyZ.cons (o := { dst := some 89, op := _, type := _, pos := _, after := _, guard := _ }) rfl (fun K hK => ?_) ?_
        rotate_left
        · exact AllReadyZ.nil
        go_simp
        (with_reducible refine (Cta.out _ _ _ _ HSd.out).mono ?_); rintro e w1 ⟨rfl, hS1, hk1⟩; have hSn := hS1.bx; have hO1 := ownKept hO0 (by have := HS.out.bw; omega) hk1; try go_simp
        refine hK.out _ _ ?_ (fun hHeld => ?_)
        · first | exact hSn | exact HSd.out.bx
        clear hK K
        try simp only [Act.put, pS]
        refine wpAnyZ_ready (rs := [5]) (by kernel_rfl) (by simp) ?_
        refine AllReadyZ.cons (o := { dst := some 91, op := _, type := _, pos := _, after := _, guard := _ }) rfl (fun K hK => ?_) ?_
        rotate_left
        · exact AllReadyZ.nil
        go_simp
        (with_reducible refine (Ctb.out _ _ _ _ hS1).mono ?_); rintro e w2 ⟨rfl, hS2, hk2⟩; have hSn := hS2.bx; have hO2 := ownKept hO1 (by have := HS.out.bw; omega) hk2; try go_simp
        refine hK.out _ _ ?_ (fun hHeld => ?_)
        · first | exact hSn | exact HSd.out.bx
        clear hK K
        try simp only [Act.put, pS]
        refine wpAnyZ_ready (rs := [7]) (by kernel_rfl) (by simp) ?_
        refine AllReadyZ.cons (o := { dst := some 93, op := _, type := _, pos := _, after := _, guard := _ }) rfl (fun K hK => ?_) ?_
        rotate_left
        · exact AllReadyZ.nil
        go_simp
        (with_reducible refine (Ctc.out _ _ _ _ hS2).mono ?_); rintro e w3 ⟨rfl, hS3, hk3⟩; have hSn := hS3.bx; have hO3 := ownKept hO2 (by have := HS.out.bw; omega) hk3; try go_simp
        refine hK.out _ _ ?_ (fun hHeld => ?_)
        · first | exact hSn | exact HSd.out.bx
        clear hK K
        try simp only [Act.put, pS]
        refine wpAnyZ_ready (rs := [9]) (by kernel_rfl) (by simp) ?_
        refine AllReadyZ.cons (o := { dst := some 95, op := _, type := _, pos := _, after := _, guard := _ }) rfl (fun K hK => ?_) ?_
        rotate_left
        · exact AllReadyZ.nil
        go_simp
        (with_reducible refine (Ctd.out _ _ _ _ hS3).mono ?_); rintro e w4 ⟨rfl, hS4, hk4⟩; have hSn := hS4.bx; have hO4 := ownKept hO3 (by have := HS.out.bw; omega) hk4; try go_simp
        refine hK.out _ _ ?_ (fun hHeld => ?_)
        · first | exact hSn | exact HSd.out.bx
        clear hK K
        try simp only [Act.put, pS]
        refine wpAnyZ_take (i := 10) (oi := { dst := some 96, op := _, type := _, pos := _, after := _, guard := _ }) (v := ?_) (p := [15]) rfl (by kernel_rfl) (by kernel_rfl) (by kernel_rfl) (by kernel_rfl) (by kernel_rfl) (by kernel_rfl) (fun _ _ _ h => h) (Or.inl ⟨by rfl, ?_⟩) (by assumption) ?_
        rotate_left
        · intro u hSu; have hSv := blkCell hSu; clear hSu; go_simp; (try with_reducible rfl)
        try simp only [Act.put, pS]
        refine wpAnyZ_take (i := 11) (oi := { dst := some 97, op := _, type := _, pos := _, after := _, guard := _ }) (v := ?_) (p := [15]) rfl (by kernel_rfl) (by kernel_rfl) (by kernel_rfl) (by kernel_rfl) (by kernel_rfl) (by kernel_rfl) (fun _ _ _ h => h) (Or.inl ⟨by rfl, ?_⟩) (by assumption) ?_
        rotate_left
        · intro u hSu; have hSv := blkCell hSu; clear hSu; go_simp; (try with_reducible rfl)
        try simp only [Act.put, pS]
        refine wpAnyZ_ready (rs := [12]) (by kernel_rfl) (by simp) ?_
        refine AllReadyZ.cons (o := { dst := some 98, op := _, type := _, pos := _, after := _, guard := _ }) rfl (fun K hK => ?_) ?_
        rotate_left
        · exact AllReadyZ.nil
        go_simp
        have hS9 := hS4.step (allocB w4 (.cells #[.int .i64 ta, .int .i64 tb, .int .i64 tc, .bool (td == 1)] 106)); have hSn := hS9.bx; have hO9 := ownBelow hO4 (allocB w4 (.cells #[.int .i64 ta, .int .i64 tb, .int .i64 tc, .bool (td == 1)] 106)); have hG := heap_alloc_new w4 (.cells #[.int .i64 ta, .int .i64 tb, .int .i64 tc, .bool (td == 1)] 106)
        refine hK.out _ _ ?_ (fun hHeld => ?_)
        · first | exact hSn | exact HSd.out.bx
        clear hK K
        try simp only [Act.put, pS]
        refine wpAnyZ_ready (rs := [13]) (by kernel_rfl) (by simp) ?_
        refine AllReadyZ.cons (o := { dst := some 99, op := _, type := _, pos := _, after := _, guard := _ }) rfl (fun K hK => ?_) ?_
        rotate_left
        · exact AllReadyZ.nil
        refine wantedIf (by rfl) ?_
        refine wp_push _ (.tmp 87) (.tmp 98) 39 106 Tryz.underlying39 info_txn rfl (by omega) (by omega) rfl (f + 1) _ ts.length (ts.flatMap txC) rfl hO9 w4.heap.size (txC ⟨ta, tb, tc, td == 1⟩) 106 rfl hG rfl (by simp [txC, Value.oneCell']) (by omega) (by have h1 := heapLt (hS9.form (by omega)); omega) ?_
        intro v7 w7 ho hg hb
        obtain ⟨A7, c7, rfl⟩ := ownLen ho
        have hS7 := hS9.under hf hb
        have hSn := hS7.bx
        have hcx7 := blkCell hS7.bx
        have hz7 := blkFrozen hS7.bx
        refine hK.out _ _ ?_ (fun hHeld => ?_)
        · first | exact hSn | exact HSd.out.bx
        clear hK K
        try simp only [Act.put, pS]
        refine wpAnyZ_take (i := 14) (oi := { dst := some 100, op := _, type := _, pos := _, after := _, guard := _ }) (v := ?_) (p := [15]) rfl (by kernel_rfl) (by kernel_rfl) (by kernel_rfl) (by kernel_rfl) (by kernel_rfl) (by kernel_rfl) (fun _ _ _ h => h) (Or.inl ⟨by rfl, ?_⟩) (by assumption) ?_
        rotate_left
        · intro u hSu; have hSv := blkCell hSu; clear hSu; go_simp; (try with_reducible rfl)
        try simp only [Act.put, pS]
        refine wpAnyZ_ready (rs := [15]) (by kernel_rfl) (by simp) ?_
        refine AllReadyZ.last (o := { dst := none, op := _, type := _, pos := _, after := _, guard := _ }) rfl (by kernel_rfl) (fun K hK => ?_) ?_
        rotate_left
        · exact AllReadyZ.nil
        go_simp
        refine hK.out _ _ ?_
        clear hK K
        try simp only [Act.put, pS]
        refine wpAnyZ_done (by kernel_rfl) ?_ _
        have HS6 := Lib.hid (hS7.set 16 (.slice A7 (ts.length + 1) c7))
        have HO6 := Lib.hid (ownSet (OwnL.push (enc := txC) ho) ⟨w.heap.size + 1, 16, none⟩ (.slice A7 (ts.length + 1) c7) (by show w.heap.size + 1 < f + 1; omega))
        have hwm : IntKind.i64.wrap ((m : Int) - 1) = (m : Int) - 1 := IntWalk.i64_in _ (by omega)
        go_wp2_with fail
        go_roundw
        case rel => exact ⟨m - 1, ts ++ [⟨ta, tb, tc, td == 1⟩], std, _, congrArg (Value.int .i64) (by omega), by rw [List.length_append, List.length_singleton]; omega, HN.out, (by have h := HS6.out; first | exact h | simpa using h), (by have h := HO6.out; first | exact h | simpa using h)⟩
        case measure => simp [intOf]; omega
  case rest =>
  obtain ⟨v, hS, hO⟩ := hcut
  obtain ⟨AT, cT, rfl⟩ := ownLen hO
  obtain ⟨wa, rfl⟩ : ∃ wm : World, wm = wc := ⟨_, rfl⟩
  have HSa := Lib.hid hS
  have HOa := Lib.hid hO
  clear hS hO HS8 HR0
  go_upto_block 2 with (go_at_call 92; (with_reducible refine (C6.out _ _ _ _ HSa.out).mono ?_); rintro e wb ⟨rfl, hSb, hkb⟩)
  have HSb := Lib.hid hSb
  have HOb := Lib.hid (ownKept HOa.out (by have := HSa.out.bw; omega) hkb)
  clear hSb hkb HSa HOa
  go_cut [] (fun wc => ∃ v, Rd w b s sD (rcA lsn prev txn 9 0 0 nu 0 0 ⟨#[]⟩ ⟨#[]⟩ 0 0 ⟨#[]⟩ 0 0 (.slice AT TS.length cT) (v)) f #[.bool false, .bool false, .bool false, .bool true, .bool true] wc ∧ OwnL diC 2 108 (f + 1) wc v DS ∧ OwnL txC 4 106 (f + 1) wc (.slice AT TS.length cT) TS)
  case first =>
    go_wp2_with fail
    go_loopw [7] (fun i wr => ∃ (m : Nat) (ts : List Rc.DirtyAt) (st : Rc.St) (v : Value), i = .int .i64 (m : Int) ∧ ts.length + m ≤ 65535 ∧ Rc.Rest (Rc.dirtyM true s.data.toList) s.data.toList.length DS sD ts m st ∧ Rd w b s st (rcA lsn prev txn 9 0 0 nu 0 0 ⟨#[]⟩ ⟨#[]⟩ 0 0 ⟨#[]⟩ 0 0 (.slice AT TS.length cT) (v)) f #[.bool false, .bool false, .bool false, .bool true, .bool true] wr ∧ OwnL diC 2 108 (f + 1) wr v ts ∧ OwnL txC 4 106 (f + 1) wr (.slice AT TS.length cT) TS) (fun i _ => (intOf i).toNat)
    case atStart => exact ⟨m2, [], s7, .slice none 0 0, rfl, by simp; omega, HR1.out, HSb.out, ownNil _ _ _ _, HOb.out⟩
    case round =>
      obtain ⟨m, ts, st, v, rfl, hlen, hR, hS, hO, hE⟩ := hrel
      have HR := Lib.hid hR
      have HS := Lib.hid hS
      have HO := Lib.hid hO
      have HE := Lib.hid hE
      clear hR hS hO hE
      by_cases h0 : m = 0
      · subst h0
        obtain ⟨e1, e2⟩ := HR.out.stop
        subst e1 e2
        go_wp2_with fail
        go_meet
        case rel => exact ⟨v, HS.out, HO.out, HE.out⟩
      have hm0 : (0 : Int) < (m : Int) := by omega
      have hmN : 0 < m := by omega
      cases hbad : st.bad with
      | true =>
        obtain ⟨e1, e2⟩ := HR.out.bad hbad
        have hcr := blkCell HS.out.rd
        rw [hbad] at hcr
        have HBD := Lib.hid hbad
        subst e1 e2
        clear hbad h0 hmN
        go_wp2_with fail
        go_meet
        case rel => exact ⟨v, HS.out, HO.out, HE.out⟩
      | false =>
        have hin := HR.out.inn hbad
        have hcr := blkCell HS.out.rd
        rw [hbad] at hcr
        rcases hda : Rc.numM true s.data.toList st 3 with ⟨da, sda⟩
        have ada : sda.at_ ≤ st.at_ + 3 := Rc.numM_le hda
        have Cda := Lib.hid (fun X f F u (hu : Rd w b s st X f F u) => hu.numK3 hda hm (by omega))
        rcases hdb : Rc.numM true s.data.toList sda 6 with ⟨db, sdb⟩
        have adb : sdb.at_ ≤ sda.at_ + 6 := Rc.numM_le hdb
        have Cdb := Lib.hid (fun X f F u (hu : Rd w b s sda X f F u) => hu.numK6 hdb hm (by omega))
        have hone : Rc.dirtyM true s.data.toList st = (⟨da, db⟩, sdb) := by unfold Rc.dirtyM; simp only [hda, hdb]
        have hst := Rc.dirty_step hin
        rw [hone] at hst
        have HN := Lib.hid (HR.out.next hmN hbad hone hst.1 hst.2)
        clear hone hst hbad hin h0 HR hda ada hdb adb
        obtain ⟨A, c, rfl⟩ := ownLen HO.out
        go_upto_region 25 with fail
        clear hcr
        have HSd := Lib.hid HS.out.drew
        have hO0 := ownBelow HO.out (Below.refl _ wr).drew
        have hE0 := ownBelow HE.out (Below.refl _ wr).drew
        refine wp_region_Z (S := (fun u => u.heap[w.heap.size + 1]? = some (.cells (rcA lsn prev txn 9 0 0 nu 0 0 ⟨#[]⟩ ⟨#[]⟩ 0 0 ⟨#[]⟩ 0 0 (.slice AT TS.length cT) ((.slice A ts.length c))) 42 (0, 0)))) 10 (by kernel_rfl) ?_ (fun hHeld => ?_)
        · first | exact hSn | exact HSd.out.bx
        refine wpAnyZ_take (i := 0) (oi := { dst := some 114, op := _, type := _, pos := _, after := _, guard := _ }) (v := ?_) (p := [10]) rfl (by kernel_rfl) (by kernel_rfl) (by kernel_rfl) (by kernel_rfl) (by kernel_rfl) (by kernel_rfl) (fun _ _ _ h => h) (Or.inl ⟨by rfl, ?_⟩) (by assumption) ?_
        rotate_left
        · intro u hSu; have hSv := blkCell hSu; clear hSu; go_simp; (try with_reducible rfl)
        try simp only [Act.put, pS]
        refine wpAnyZ_take (i := 1) (oi := { dst := some 115, op := _, type := _, pos := _, after := _, guard := _ }) (v := ?_) (p := [10]) rfl (by kernel_rfl) (by kernel_rfl) (by kernel_rfl) (by kernel_rfl) (by kernel_rfl) (by kernel_rfl) (fun _ _ _ h => h) (Or.inl ⟨by rfl, ?_⟩) (by assumption) ?_
        rotate_left
        · intro u hSu; have hSv := blkCell hSu; clear hSu; go_simp; (try with_reducible rfl)
        try simp only [Act.put, pS]
        refine wpAnyZ_take (i := 2) (oi := { dst := some 116, op := _, type := _, pos := _, after := _, guard := _ }) (v := ?_) (p := [10]) rfl (by kernel_rfl) (by kernel_rfl) (by kernel_rfl) (by kernel_rfl) (by kernel_rfl) (by kernel_rfl) (fun _ _ _ h => h) (Or.inl ⟨by rfl, ?_⟩) (by assumption) ?_
        rotate_left
        · intro u hSu; have hSv := blkCell hSu; clear hSu; go_simp; (try with_reducible rfl)
        try simp only [Act.put, pS]
        refine wpAnyZ_take (i := 4) (oi := { dst := some 118, op := _, type := _, pos := _, after := _, guard := _ }) (v := ?_) (p := [10]) rfl (by kernel_rfl) (by kernel_rfl) (by kernel_rfl) (by kernel_rfl) (by kernel_rfl) (by kernel_rfl) (fun _ _ _ h => h) (Or.inl ⟨by rfl, ?_⟩) (by assumption) ?_
        rotate_left
        · intro u hSu; have hSv := blkCell hSu; clear hSu; go_simp; (try with_reducible rfl)
        try simp only [Act.put, pS]
        refine wpAnyZ_ready (rs := [3]) (by kernel_rfl) (by simp) ?_
        refine AllReadyZ.cons (o := { dst := some 117, op := _, type := _, pos := _, after := _, guard := _ }) rfl (fun K hK => ?_) ?_
        rotate_left
        · exact AllReadyZ.nil
        go_simp
        (with_reducible refine (Cda.out _ _ _ _ HSd.out).mono ?_); rintro e w1 ⟨rfl, hS1, hk1⟩; have hSn := hS1.bx; have hO1 := ownKept hO0 (by have := HS.out.bw; omega) hk1; have hE1 := ownKept hE0 (by have := HS.out.bw; omega) hk1; try go_simp
        refine hK.out _ _ ?_ (fun hHeld => ?_)
        · first | exact hSn | exact HSd.out.bx
        clear hK K
        try simp only [Act.put, pS]
        refine wpAnyZ_ready (rs := [5]) (by kernel_rfl) (by simp) ?_
        refine AllReadyZ.cons (o := { dst := some 119, op := _, type := _, pos := _, after := _, guard := _ }) rfl (fun K hK => ?_) ?_
        rotate_left
        · exact AllReadyZ.nil
        go_simp
        (with_reducible refine (Cdb.out _ _ _ _ hS1).mono ?_); rintro e w2 ⟨rfl, hS2, hk2⟩; have hSn := hS2.bx; have hO2 := ownKept hO1 (by have := HS.out.bw; omega) hk2; have hE2 := ownKept hE1 (by have := HS.out.bw; omega) hk2; try go_simp
        refine hK.out _ _ ?_ (fun hHeld => ?_)
        · first | exact hSn | exact HSd.out.bx
        clear hK K
        try simp only [Act.put, pS]
        refine wpAnyZ_take (i := 6) (oi := { dst := some 120, op := _, type := _, pos := _, after := _, guard := _ }) (v := ?_) (p := [10]) rfl (by kernel_rfl) (by kernel_rfl) (by kernel_rfl) (by kernel_rfl) (by kernel_rfl) (by kernel_rfl) (fun _ _ _ h => h) (Or.inl ⟨by rfl, ?_⟩) (by assumption) ?_
        rotate_left
        · intro u hSu; have hSv := blkCell hSu; clear hSu; go_simp; (try with_reducible rfl)
        try simp only [Act.put, pS]
        refine wpAnyZ_ready (rs := [7]) (by kernel_rfl) (by simp) ?_
        refine AllReadyZ.cons (o := { dst := some 121, op := _, type := _, pos := _, after := _, guard := _ }) rfl (fun K hK => ?_) ?_
        rotate_left
        · exact AllReadyZ.nil
        go_simp
        have hS9 := hS2.step (allocB w2 (.cells #[.int .i64 da, .int .i64 db] 108)); have hSn := hS9.bx; have hO9 := ownBelow hO2 (allocB w2 (.cells #[.int .i64 da, .int .i64 db] 108)); have hG := heap_alloc_new w2 (.cells #[.int .i64 da, .int .i64 db] 108); have hE9 := ownBelow hE2 (allocB w2 (.cells #[.int .i64 da, .int .i64 db] 108))
        refine hK.out _ _ ?_ (fun hHeld => ?_)
        · first | exact hSn | exact HSd.out.bx
        clear hK K
        try simp only [Act.put, pS]
        refine wpAnyZ_ready (rs := [8]) (by kernel_rfl) (by simp) ?_
        refine AllReadyZ.cons (o := { dst := some 122, op := _, type := _, pos := _, after := _, guard := _ }) rfl (fun K hK => ?_) ?_
        rotate_left
        · exact AllReadyZ.nil
        refine wantedIf (by rfl) ?_
        refine wp_push _ (.tmp 115) (.tmp 121) 40 108 Tryz.underlying40 info_dirty rfl (by omega) (by omega) rfl (f + 1) _ ts.length (ts.flatMap diC) rfl hO9 w2.heap.size (diC ⟨da, db⟩) 108 rfl hG rfl (by simp [diC, Value.oneCell']) (by omega) (by have h1 := heapLt (hS9.form (by omega)); omega) ?_
        intro v7 w7 ho hg hb
        obtain ⟨A7, c7, rfl⟩ := ownLen ho
        have hS7 := hS9.under hf hb
        have hSn := hS7.bx
        have hcx7 := blkCell hS7.bx
        have hz7 := blkFrozen hS7.bx
        have hE7 := ownGrown hE9 hO9 (by decide) hg
        refine hK.out _ _ ?_ (fun hHeld => ?_)
        · first | exact hSn | exact HSd.out.bx
        clear hK K
        try simp only [Act.put, pS]
        refine wpAnyZ_take (i := 9) (oi := { dst := some 123, op := _, type := _, pos := _, after := _, guard := _ }) (v := ?_) (p := [10]) rfl (by kernel_rfl) (by kernel_rfl) (by kernel_rfl) (by kernel_rfl) (by kernel_rfl) (by kernel_rfl) (fun _ _ _ h => h) (Or.inl ⟨by rfl, ?_⟩) (by assumption) ?_
        rotate_left
        · intro u hSu; have hSv := blkCell hSu; clear hSu; go_simp; (try with_reducible rfl)
        try simp only [Act.put, pS]
        refine wpAnyZ_ready (rs := [10]) (by kernel_rfl) (by simp) ?_
        refine AllReadyZ.last (o := { dst := none, op := _, type := _, pos := _, after := _, guard := _ }) rfl (by kernel_rfl) (fun K hK => ?_) ?_
        rotate_left
        · exact AllReadyZ.nil
        go_simp
        refine hK.out _ _ ?_
        clear hK K
        try simp only [Act.put, pS]
        refine wpAnyZ_done (by kernel_rfl) ?_ _
        have HS6 := Lib.hid (hS7.set 17 (.slice A7 (ts.length + 1) c7))
        have HO6 := Lib.hid (ownSet (OwnL.push (enc := diC) ho) ⟨w.heap.size + 1, 17, none⟩ (.slice A7 (ts.length + 1) c7) (by show w.heap.size + 1 < f + 1; omega))
        have HE6 := Lib.hid (ownSet hE7 ⟨w.heap.size + 1, 17, none⟩ (.slice A7 (ts.length + 1) c7) (by show w.heap.size + 1 < f + 1; omega))
        have hwm : IntKind.i64.wrap ((m : Int) - 1) = (m : Int) - 1 := IntWalk.i64_in _ (by omega)
        go_wp2_with fail
        go_roundw
        case rel => exact ⟨m - 1, ts ++ [⟨da, db⟩], sdb, _, congrArg (Value.int .i64) (by omega), by rw [List.length_append, List.length_singleton]; omega, HN.out, (by have h := HS6.out; first | exact h | simpa using h), (by have h := HO6.out; first | exact h | simpa using h), (by have h := HE6.out; first | exact h | simpa using h)⟩
        case measure => simp [intOf]; omega
  case rest =>
  obtain ⟨v, hS, hO, hE⟩ := hcut
  obtain ⟨AD, cD, rfl⟩ := ownLen hO
  obtain ⟨wz, rfl⟩ : ∃ wm : World, wm = wc := ⟨_, rfl⟩
  have HSz := Lib.hid hS
  have HOz := Lib.hid hO
  have HEz := Lib.hid hE
  clear hS hO hE HSb HOb HR1
  go_wp2_with (first | (with_reducible refine listLoad (by kernel_rfl) 42 (.tmp 3) rfl (w.heap.size + 1) rfl (rcA lsn prev txn 9 0 0 nu 0 0 ⟨#[]⟩ ⟨#[]⟩ 0 0 ⟨#[]⟩ 0 0 (.slice AT TS.length cT) (.slice AD DS.length cD)) _ HSz.out.bx _ Tryz.underlying42 (by kernel_rfl) (by kernel_rfl) ?_) | (with_reducible refine listStore (by kernel_rfl) 42 (.tmp 2) (.tmp 124) rfl w.heap.size (rcA lsn prev txn 9 0 0 nu 0 0 ⟨#[]⟩ ⟨#[]⟩ 0 0 ⟨#[]⟩ 0 0 (.slice AT TS.length cT) (.slice AD DS.length cD)) _ _ rfl rfl HSz.out.br (by kernel_rfl) (by kernel_rfl) (by kernel_rfl) ?_))
  refine bodyPost_ret (v := .agg (rcA lsn prev txn 9 0 0 nu 0 0 ⟨#[]⟩ ⟨#[]⟩ 0 0 ⟨#[]⟩ 0 0 (.slice AT TS.length cT) (.slice AD DS.length cD))) (results_cell rfl _ _ rfl (load_whole HSz.out.done.1 Tryz.underlying42 (by kernel_rfl) (by kernel_rfl))) rfl ?_
  rw [RDH.out]
  exact ⟨AT, cT, AD, cD, rfl, ⟨⟨own_reads (ownRowSet HEz.out _ _ (by omega)), own_reads (ownRowSet HOz.out _ _ (by omega)), ⟨Nat.le_trans hTS (by omega), Nat.le_trans hDS (by omega)⟩⟩, (NewT.own (ownRowSet HEz.out _ _ (by omega))).mono (by omega), (NewT.own (ownRowSet HOz.out _ _ (by omega))).mono (by omega)⟩, HSz.out.done.2⟩
end Go.Proofs.YtojaagnfjenhoaaGreat
/- The walk over package rec: a reader's record, of any bytes. -/
namespace Go.Proofs.YtojaagnfjenhoaaGreat
open Go.RowKit
theorem record_any (b : Nat) (s : ByteArray) (hm : s.size ≤ 1000000) (w : World) (hb : w.heap[b]? = some (.cells (rdC s 0 false) 102 (0, 0))) :
    Calls Tryz.prog 59 #[.pointer (some ⟨b, 0, none⟩)] w (RecOut (Rc.readM true s.data.toList) b w) := by
  rcases h0 : Rc.numM true s.data.toList ⟨0, false⟩ 1 with ⟨kd, s1⟩
  by_cases k2 : kd = 2
  · subst k2; exact record_change b s hm s1 h0 w hb
  by_cases k3 : kd = 3
  · subst k3; exact record_clr b s hm s1 h0 w hb
  by_cases k4 : kd = 4
  · subst k4; exact record_nest b s hm s1 h0 w hb
  by_cases k8 : kd = 8
  · subst k8; exact record_image b s hm s1 h0 w hb
  by_cases k9 : kd = 9
  · subst k9; exact record_check b s hm s1 h0 w hb
  exact record_other b s hm s1 kd k2 k3 k4 k8 k9 h0 w hb
end Go.Proofs.YtojaagnfjenhoaaGreat
/- The walks over package rec: a change. -/
namespace Go.Proofs.YtojaagnfjenhoaaGreat
open Go.RowKit
set_option maxRecDepth 100000 in
set_option maxHeartbeats 400000 in
theorem op_any (o : Rc.Op) (w : World) :
    Calls Tryz.prog 66 #[opV o] w fun e w' => e = .returned (.bool (decide (Rc.opR o))) ∧ Below w.heap.size w w' := by
  obtain ⟨k, s, o, n⟩ := o
  by_cases h0 : 1 ≤ k
  rotate_left
  · have g0 : k < 1 := by omega
    clear h0
    rw [show decide (Rc.opR ⟨k, s, o, n⟩) = false from decide_eq_false (fun h => by obtain ⟨h1, h2, h3, h4, h5⟩ := h; simp only at h1 h2 h3 h4 h5; omega)]
    go_enter Tryz.func66, Tryz.ntmps66
    go_wp2_with fail
    go_ret
    exact ⟨by simp [*], allocB _ _⟩
  by_cases h1 : k ≤ 7
  rotate_left
  · have g1 : 7 < k := by omega
    clear h1
    rw [show decide (Rc.opR ⟨k, s, o, n⟩) = false from decide_eq_false (fun h => by obtain ⟨h1, h2, h3, h4, h5⟩ := h; simp only at h1 h2 h3 h4 h5; omega)]
    go_enter Tryz.func66, Tryz.ntmps66
    go_wp2_with fail
    go_ret
    exact ⟨by simp [*], allocB _ _⟩
  cases hs : decide (Rc.sl s) with
  | false =>
    rw [show decide (Rc.opR ⟨k, s, o, n⟩) = false from decide_eq_false (fun h => by obtain ⟨h1, h2, h3, h4, h5⟩ := h; simp only at h1 h2 h3 h4 h5; exact of_decide_eq_false hs h3)]
    have hS := Lib.hid hs
    clear hs
    go_enter Tryz.func66, Tryz.ntmps66
    go_wp2_with (first | (go_at_call 101; (with_reducible refine (slot1 s _ _ ?_).mono ?_); (first | with_reducible exact heap_alloc_new _ _ | with_reducible exact new2 _ _ _); rintro e w2 ⟨rfl, hb2⟩; rw [hS.out]; have hx := blkPast (heap_alloc_new w _) hb2; have h22 := blkCell hx 2; have h33 := blkCell hx 3; clear hx; simp at h22 h33))
    go_ret
    exact ⟨by simp [*], joinB (pastAlloc (allocB _ _)) hb2⟩
  | true =>
  have hS := Lib.hid hs
  have hS2 := Lib.hid (of_decide_eq_true hs)
  clear hs
  by_cases h3 : (o.size : Int) ≤ 512
  rotate_left
  · have g3 : 512 < (o.size : Int) := by omega
    clear h3
    rw [show decide (Rc.opR ⟨k, s, o, n⟩) = false from decide_eq_false (fun h => by obtain ⟨h1, h2, h3, h4, h5⟩ := h; simp only at h1 h2 h3 h4 h5; omega)]
    go_enter Tryz.func66, Tryz.ntmps66
    go_wp2_with (first | (go_at_call 101; (with_reducible refine (slot1 s _ _ ?_).mono ?_); (first | with_reducible exact heap_alloc_new _ _ | with_reducible exact new2 _ _ _); rintro e w2 ⟨rfl, hb2⟩; rw [hS.out]; have hx := blkPast (heap_alloc_new w _) hb2; have h22 := blkCell hx 2; have h33 := blkCell hx 3; clear hx; simp at h22 h33))
    go_ret
    exact ⟨by simp [*], joinB (pastAlloc (allocB _ _)) hb2⟩
  by_cases h4 : (n.size : Int) ≤ 512
  rotate_left
  · have g4 : 512 < (n.size : Int) := by omega
    clear h4
    rw [show decide (Rc.opR ⟨k, s, o, n⟩) = false from decide_eq_false (fun h => by obtain ⟨h1, h2, h3, h4, h5⟩ := h; simp only at h1 h2 h3 h4 h5; omega)]
    go_enter Tryz.func66, Tryz.ntmps66
    go_wp2_with (first | (go_at_call 101; (with_reducible refine (slot1 s _ _ ?_).mono ?_); (first | with_reducible exact heap_alloc_new _ _ | with_reducible exact new2 _ _ _); rintro e w2 ⟨rfl, hb2⟩; rw [hS.out]; have hx := blkPast (heap_alloc_new w _) hb2; have h22 := blkCell hx 2; have h33 := blkCell hx 3; clear hx; simp at h22 h33))
    go_ret
    exact ⟨by simp [*], joinB (pastAlloc (allocB _ _)) hb2⟩
  rw [show decide (Rc.opR ⟨k, s, o, n⟩) = true from decide_eq_true ⟨by assumption, by assumption, hS2.out, by show o.size ≤ 512; omega, by show n.size ≤ 512; omega⟩]
  go_enter Tryz.func66, Tryz.ntmps66
  go_wp2_with (first | (go_at_call 101; (with_reducible refine (slot1 s _ _ ?_).mono ?_); (first | with_reducible exact heap_alloc_new _ _ | with_reducible exact new2 _ _ _); rintro e w2 ⟨rfl, hb2⟩; rw [hS.out]; have hx := blkPast (heap_alloc_new w _) hb2; have h22 := blkCell hx 2; have h33 := blkCell hx 3; clear hx; simp at h22 h33))
  go_ret
  exact ⟨by simp [*], joinB (pastAlloc (allocB _ _)) hb2⟩
end Go.Proofs.YtojaagnfjenhoaaGreat
/- The walks over package rec: how a change is undone. -/
namespace Go.Proofs.YtojaagnfjenhoaaGreat
open Go.RowKit
set_option maxRecDepth 100000 in
set_option maxHeartbeats 400000 in
theorem tree_any (r : Rc.Rec) (T D : Value) (w : World) :
    Calls Tryz.prog 67 #[recV r T D] w fun e w' => e = .returned (.bool (decide (Rc.treeR r))) ∧ Below w.heap.size w w' := by
  obtain ⟨lsn, prev, txn, kind, page, next, num, ⟨ok, os, oo, on⟩, how, root, ⟨ek, ep, es⟩, ts, ds⟩ := r
  have HEQ := Lib.hid (fun W => key_equal ⟨ek, ep, es⟩ ⟨⟨#[]⟩, 0, 0⟩ W)
  by_cases hh : how = 1
  · subst hh
    by_cases hr : root = 0
    · subst hr
      have heq := HEQ.out
      have HT := Lib.hid (show decide (Rc.treeR ⟨lsn, prev, txn, kind, page, next, num, ⟨ok, os, oo, on⟩, 1, 0, ⟨ek, ep, es⟩, ts, ds⟩) = decide ((⟨ek, ep, es⟩ : Rc.Key) = ⟨⟨#[]⟩, 0, 0⟩) from decide_eq_decide.2 ⟨fun h => by
        rcases h with ⟨_, _, h3⟩ | ⟨h1, _⟩
        · exact h3
        · simp only at h1; omega, fun h => .inl ⟨rfl, rfl, h⟩⟩)
      rw [HT.out]
      generalize decide ((⟨ek, ep, es⟩ : Rc.Key) = ⟨⟨#[]⟩, 0, 0⟩) = b at heq ⊢
      go_enter Tryz.func67, Tryz.ntmps67
      go_wp2_with fail
      go_ret
      exact ⟨by simp, allocB _ _⟩
    · have h2 : (root == 0) = false := by simp [hr]
      rw [show decide (Rc.treeR ⟨lsn, prev, txn, kind, page, next, num, ⟨ok, os, oo, on⟩, 1, root, ⟨ek, ep, es⟩, ts, ds⟩) = false from decide_eq_false (fun h => by
        rcases h with ⟨_, h3, _⟩ | ⟨h1, _⟩
        · exact hr h3
        · simp only at h1; omega)]
      clear hr
      go_enter Tryz.func67, Tryz.ntmps67
      go_wp2_with fail
      go_ret
      exact ⟨by simp, allocB _ _⟩
  · have hh1 : (how == 1) = false := by simp [hh]
    have NOT := Lib.hid (show ∀ (h : ¬ ((how = 2 ∨ how = 3) ∧ Rc.pg root ∧ Rc.pg ep ∧ Rc.sl es ∧ ek.size ≤ 100)), decide (Rc.treeR ⟨lsn, prev, txn, kind, page, next, num, ⟨ok, os, oo, on⟩, how, root, ⟨ek, ep, es⟩, ts, ds⟩) = false from fun h => decide_eq_false (fun h' => by
      rcases h' with ⟨h1, _⟩ | h1
      · exact hh h1
      · exact h h1))
    by_cases hk : how = 2 ∨ how = 3
    rotate_left
    · rw [NOT.out (fun h => hk h.1)]
      have hh2 : (how == 2) = false := by simp; omega
      have hh3 : (how == 3) = false := by simp; omega
      clear hk hh
      go_enter Tryz.func67, Tryz.ntmps67
      go_wp2_with fail
      go_ret
      exact ⟨by simp, allocB _ _⟩
    rcases hk with rfl | rfl
    · clear hh
      cases hp : decide (Rc.pg root ∧ Rc.pg ep) with
      | false =>
        rw [NOT.out (fun h => of_decide_eq_false hp ⟨h.2.1, h.2.2.1⟩)]
        have hP := Lib.hid hp
        clear hp
        go_enter Tryz.func67, Tryz.ntmps67
        go_wp2_with (first | (go_at_call 65; (with_reducible refine (paged2 root ep _ _ ?_).mono ?_); (first | with_reducible exact heap_alloc_new _ _ | with_reducible exact new2 _ _ _); rintro e w2 ⟨rfl, hb2⟩; rw [hP.out]))
        go_ret
        exact ⟨by simp, joinB (pastAlloc (allocB _ _)) hb2⟩
      | true =>
        have hP := Lib.hid hp
        have hP2 := Lib.hid (of_decide_eq_true hp)
        clear hp
        cases hs : decide (Rc.sl es) with
        | false =>
          rw [NOT.out (fun h => of_decide_eq_false hs h.2.2.2.1)]
          have hS := Lib.hid hs
          clear hs
          go_enter Tryz.func67, Tryz.ntmps67
          go_wp2_with (first | (go_at_call 65; (with_reducible refine (paged2 root ep _ _ ?_).mono ?_); (first | with_reducible exact heap_alloc_new _ _ | with_reducible exact new2 _ _ _); rintro e w2 ⟨rfl, hb2⟩; rw [hP.out]; have hx := blkPast (heap_alloc_new w _) hb2; have h14 := blkCell hx 15; have h13 := blkCell hx 13; have HX := Lib.hid hx; clear hx; simp at h14 h13) | (go_at_call 101; (with_reducible refine (slot1 es _ _ ?_).mono ?_); (first | with_reducible exact heap_alloc_new _ _ | with_reducible exact new2 _ _ _); rintro e w3 ⟨rfl, hb3⟩; rw [hS.out]; have h23 := blkCell (blkPast HX.out hb3) 13; simp at h23))
          go_ret
          exact ⟨by simp, joinB (pastAlloc (joinB (pastAlloc (allocB _ _)) hb2)) hb3⟩
        | true =>
          have hS := Lib.hid hs
          have hS2 := Lib.hid (of_decide_eq_true hs)
          clear hs
          by_cases hl : (ek.size : Int) ≤ 100
          · have HY := Lib.hid (show decide (Rc.treeR ⟨lsn, prev, txn, kind, page, next, num, ⟨ok, os, oo, on⟩, 2, root, ⟨ek, ep, es⟩, ts, ds⟩) = true from decide_eq_true (.inr ⟨by simp, hP2.out.1, hP2.out.2, hS2.out, by show ek.size ≤ 100; omega⟩))
            rw [HY.out]
            go_enter Tryz.func67, Tryz.ntmps67
            go_wp2_with (first | (go_at_call 65; (with_reducible refine (paged2 root ep _ _ ?_).mono ?_); (first | with_reducible exact heap_alloc_new _ _ | with_reducible exact new2 _ _ _); rintro e w2 ⟨rfl, hb2⟩; rw [hP.out]; have hx := blkPast (heap_alloc_new w _) hb2; have h14 := blkCell hx 15; have h13 := blkCell hx 13; have HX := Lib.hid hx; clear hx; simp at h14 h13) | (go_at_call 101; (with_reducible refine (slot1 es _ _ ?_).mono ?_); (first | with_reducible exact heap_alloc_new _ _ | with_reducible exact new2 _ _ _); rintro e w3 ⟨rfl, hb3⟩; rw [hS.out]; have h23 := blkCell (blkPast HX.out hb3) 13; simp at h23))
            go_ret
            exact ⟨by simp [*], joinB (pastAlloc (joinB (pastAlloc (allocB _ _)) hb2)) hb3⟩
          · rw [NOT.out (fun h => by have := h.2.2.2.2; omega)]
            have hl2 : 100 < (ek.size : Int) := by omega
            clear hl
            go_enter Tryz.func67, Tryz.ntmps67
            go_wp2_with (first | (go_at_call 65; (with_reducible refine (paged2 root ep _ _ ?_).mono ?_); (first | with_reducible exact heap_alloc_new _ _ | with_reducible exact new2 _ _ _); rintro e w2 ⟨rfl, hb2⟩; rw [hP.out]; have hx := blkPast (heap_alloc_new w _) hb2; have h14 := blkCell hx 15; have h13 := blkCell hx 13; have HX := Lib.hid hx; clear hx; simp at h14 h13) | (go_at_call 101; (with_reducible refine (slot1 es _ _ ?_).mono ?_); (first | with_reducible exact heap_alloc_new _ _ | with_reducible exact new2 _ _ _); rintro e w3 ⟨rfl, hb3⟩; rw [hS.out]; have h23 := blkCell (blkPast HX.out hb3) 13; simp at h23))
            go_ret
            exact ⟨by simp [*], joinB (pastAlloc (joinB (pastAlloc (allocB _ _)) hb2)) hb3⟩
    
    · clear hh
      cases hp : decide (Rc.pg root ∧ Rc.pg ep) with
      | false =>
        rw [NOT.out (fun h => of_decide_eq_false hp ⟨h.2.1, h.2.2.1⟩)]
        have hP := Lib.hid hp
        clear hp
        go_enter Tryz.func67, Tryz.ntmps67
        go_wp2_with (first | (go_at_call 65; (with_reducible refine (paged2 root ep _ _ ?_).mono ?_); (first | with_reducible exact heap_alloc_new _ _ | with_reducible exact new2 _ _ _); rintro e w2 ⟨rfl, hb2⟩; rw [hP.out]))
        go_ret
        exact ⟨by simp, joinB (pastAlloc (allocB _ _)) hb2⟩
      | true =>
        have hP := Lib.hid hp
        have hP2 := Lib.hid (of_decide_eq_true hp)
        clear hp
        cases hs : decide (Rc.sl es) with
        | false =>
          rw [NOT.out (fun h => of_decide_eq_false hs h.2.2.2.1)]
          have hS := Lib.hid hs
          clear hs
          go_enter Tryz.func67, Tryz.ntmps67
          go_wp2_with (first | (go_at_call 65; (with_reducible refine (paged2 root ep _ _ ?_).mono ?_); (first | with_reducible exact heap_alloc_new _ _ | with_reducible exact new2 _ _ _); rintro e w2 ⟨rfl, hb2⟩; rw [hP.out]; have hx := blkPast (heap_alloc_new w _) hb2; have h14 := blkCell hx 15; have h13 := blkCell hx 13; have HX := Lib.hid hx; clear hx; simp at h14 h13) | (go_at_call 101; (with_reducible refine (slot1 es _ _ ?_).mono ?_); (first | with_reducible exact heap_alloc_new _ _ | with_reducible exact new2 _ _ _); rintro e w3 ⟨rfl, hb3⟩; rw [hS.out]; have h23 := blkCell (blkPast HX.out hb3) 13; simp at h23))
          go_ret
          exact ⟨by simp, joinB (pastAlloc (joinB (pastAlloc (allocB _ _)) hb2)) hb3⟩
        | true =>
          have hS := Lib.hid hs
          have hS2 := Lib.hid (of_decide_eq_true hs)
          clear hs
          by_cases hl : (ek.size : Int) ≤ 100
          · have HY := Lib.hid (show decide (Rc.treeR ⟨lsn, prev, txn, kind, page, next, num, ⟨ok, os, oo, on⟩, 3, root, ⟨ek, ep, es⟩, ts, ds⟩) = true from decide_eq_true (.inr ⟨by simp, hP2.out.1, hP2.out.2, hS2.out, by show ek.size ≤ 100; omega⟩))
            rw [HY.out]
            go_enter Tryz.func67, Tryz.ntmps67
            go_wp2_with (first | (go_at_call 65; (with_reducible refine (paged2 root ep _ _ ?_).mono ?_); (first | with_reducible exact heap_alloc_new _ _ | with_reducible exact new2 _ _ _); rintro e w2 ⟨rfl, hb2⟩; rw [hP.out]; have hx := blkPast (heap_alloc_new w _) hb2; have h14 := blkCell hx 15; have h13 := blkCell hx 13; have HX := Lib.hid hx; clear hx; simp at h14 h13) | (go_at_call 101; (with_reducible refine (slot1 es _ _ ?_).mono ?_); (first | with_reducible exact heap_alloc_new _ _ | with_reducible exact new2 _ _ _); rintro e w3 ⟨rfl, hb3⟩; rw [hS.out]; have h23 := blkCell (blkPast HX.out hb3) 13; simp at h23))
            go_ret
            exact ⟨by simp [*], joinB (pastAlloc (joinB (pastAlloc (allocB _ _)) hb2)) hb3⟩
          · rw [NOT.out (fun h => by have := h.2.2.2.2; omega)]
            have hl2 : 100 < (ek.size : Int) := by omega
            clear hl
            go_enter Tryz.func67, Tryz.ntmps67
            go_wp2_with (first | (go_at_call 65; (with_reducible refine (paged2 root ep _ _ ?_).mono ?_); (first | with_reducible exact heap_alloc_new _ _ | with_reducible exact new2 _ _ _); rintro e w2 ⟨rfl, hb2⟩; rw [hP.out]; have hx := blkPast (heap_alloc_new w _) hb2; have h14 := blkCell hx 15; have h13 := blkCell hx 13; have HX := Lib.hid hx; clear hx; simp at h14 h13) | (go_at_call 101; (with_reducible refine (slot1 es _ _ ?_).mono ?_); (first | with_reducible exact heap_alloc_new _ _ | with_reducible exact new2 _ _ _); rintro e w3 ⟨rfl, hb3⟩; rw [hS.out]; have h23 := blkCell (blkPast HX.out hb3) 13; simp at h23))
            go_ret
            exact ⟨by simp [*], joinB (pastAlloc (joinB (pastAlloc (allocB _ _)) hb2)) hb3⟩
end Go.Proofs.YtojaagnfjenhoaaGreat
/- The walk over package rec: Right: its three boxes. -/
namespace Rc
section
open Classical
/-- May a record be? -/
noncomputable def rightB (r : Rec) : Bool := decide (Right r)
theorem rightB_of {r : Rec} {b : Bool} (h : Right r ↔ b = true) : rightB r = b := by
  unfold rightB
  cases b with
  | true => exact decide_eq_true (h.2 rfl)
  | false => exact decide_eq_false (fun hr => by have := h.1 hr; cases this)
theorem rightB_no {r : Rec} (h : ¬ Right r) : rightB r = false := by unfold rightB; exact decide_eq_false h
theorem rightB_yes {r : Rec} (h : Right r) : rightB r = true := by unfold rightB; exact decide_eq_true h
theorem rightB_iff {r : Rec} : rightB r = true ↔ Right r := by unfold rightB; exact decide_eq_true_iff
end
end Rc
namespace Go.Proofs.YtojaagnfjenhoaaGreat
open Go.RowKit
/-- The three boxes of Right: the record, its form, what it may have. -/
structure Boxes (w : World) (a f b : Nat) (R F X : Array Value) (u : World) : Prop where
  br : u.heap[a]? = some (.cells R 42 (0, 0))
  bf : u.heap[f]? = some (.cells F 110 (0, 0))
  bx : u.heap[b]? = some (.cells X 42 (0, 0))
  ab : a < b ∧ f < b
  low : w.heap.size ≤ a
  below : Below w.heap.size w u
theorem Boxes.step {w u v : World} {a f b : Nat} {R F X : Array Value} (h : Boxes w a f b R F X u) (hb : Below u.heap.size u v) : Boxes w a f b R F X v :=
  ⟨blkOld h.br hb, blkOld h.bf hb, blkOld h.bx hb, h.ab, h.low, joinB h.below hb⟩
theorem Boxes.set {w u : World} {a f b : Nat} {R F X : Array Value} (h : Boxes w a f b R F X u) (i : Nat) (v : Value) : Boxes w a f b R F (X.setIfInBounds i v) (u.setCell ⟨b, i, none⟩ v) :=
  ⟨by rw [Below.heap_setCell _ _ _ _ (by have := h.ab; show a ≠ b; omega)]; exact h.br, by rw [Below.heap_setCell _ _ _ _ (by have := h.ab; show f ≠ b; omega)]; exact h.bf, blkSet i h.bx v, h.ab, h.low, h.below.setCell (by have := h.ab; have := h.low; show _ ≤ b; omega) v⟩
theorem Boxes.drew {w u : World} {a f b : Nat} {R F X : Array Value} (h : Boxes w a f b R F X u) : Boxes w a f b R F X u.drew := ⟨h.br, h.bf, h.bx, h.ab, h.low, h.below.drew⟩
theorem Boxes.alloc {w u : World} {a f b : Nat} {R F X : Array Value} (h : Boxes w a f b R F X u) (o : Obj) : Boxes w a f b R F X (u.alloc o) := h.step (allocB u o)
theorem boxes_new {w w1 w2 : World} {R F X : Array Value} {o : Obj} (hb1 : Below (w.alloc (.cells R 42)).heap.size (w.alloc (.cells R 42)) w1)
    (hb2 : Below ((w1.alloc (.cells F 110)).alloc o).heap.size ((w1.alloc (.cells F 110)).alloc o) w2) : Boxes w w.heap.size w1.heap.size w2.heap.size R F X (w2.alloc (.cells X 42)) := by
  have h1 : Below w.heap.size w w1 := joinB (allocB _ _) hb1
  have h2 : Below w1.heap.size w1 w2 := joinB (pastAlloc (allocB _ _)) hb2
  have hs1 := hb1.size
  have hs2 := hb2.size
  simp at hs1 hs2
  refine ⟨?_, ?_, heap_alloc_new w2 _, ⟨by omega, by omega⟩, Nat.le_refl _, pastAlloc (joinB h1 h2)⟩
  · rw [Below.heap_alloc _ _ _ (by omega)]; exact blkOld (blkNew hb1) h2
  · rw [Below.heap_alloc _ _ _ (by omega)]; exact blkOld (new21 _ _ _) hb2
end Go.Proofs.YtojaagnfjenhoaaGreat
/- The walks over package rec: Same. -/
namespace Go.Proofs.YtojaagnfjenhoaaGreat
open Go.RowKit
set_option maxRecDepth 100000 in
set_option maxHeartbeats 8000000 in
theorem same_any (r s : Rc.Rec) (A A' B B' : Option Addr) (c c' d d' : Nat) (w : World) (hr : RecR w r A c B d) (hs : RecR w s A' c' B' d') :
    Calls Tryz.prog 72 #[recV r (.slice A r.txns.length c) (.slice B r.dirty.length d), recV s (.slice A' s.txns.length c') (.slice B' s.dirty.length d')] w fun e w' => e = .returned (.bool (decide (r = s))) ∧ Below w.heap.size w w' := by
  have HT := Lib.hid (fun W hb => equal_txn r.txns s.txns hr.small.1 hs.small.1 A A' c c' W (hr.txns.below hb) (hs.txns.below hb))
  have HD := Lib.hid (fun W hb => equal_dirty r.dirty s.dirty hr.small.2 hs.small.2 B B' d d' W (hr.dirty.below hb) (hs.dirty.below hb))
  have ht1 := hr.small.1
  have ht2 := hs.small.1
  have hd1 := hr.small.2
  have hd2 := hs.small.2
  have HO := Lib.hid (fun W => op_equal r.op s.op W)
  have HK := Lib.hid (fun W => key_equal r.e s.e W)
  clear hr hs
  obtain ⟨rls, rpr, rtx, rki, rpa, rne, rnu, rop, rho, rro, rek, rts, rds⟩ := r
  obtain ⟨sls, spr, stx, ski, spa, sne, snu, sop, sho, sro, sek, sts, sds⟩ := s
  simp only at HT HD HO HK ht1 ht2 hd1 hd2 ⊢
  by_cases hls : rls = sls
  rotate_left
  · rw [decide_eq_false (fun e => hls (congrArg Rc.Rec.lsn e))]
    have nls : (rls == sls) = false := by simp [hls]
    have mls : (rls != sls) = true := by simp [hls]
    clear hls
    obtain ⟨rk, rs, rx, ry⟩ := rop
    obtain ⟨sk, ss, sx, sy⟩ := sop
    obtain ⟨rek1, rek2, rek3⟩ := rek
    obtain ⟨sek1, sek2, sek3⟩ := sek
    go_enter Tryz.func72, Tryz.ntmps72
    go_wp2_with fail
    go_ret
    exact ⟨by simp, pastAlloc (allocB _ _)⟩
  subst hls
  by_cases hpr : rpr = spr
  rotate_left
  · rw [decide_eq_false (fun e => hpr (congrArg Rc.Rec.prev e))]
    have npr : (rpr == spr) = false := by simp [hpr]
    have mpr : (rpr != spr) = true := by simp [hpr]
    clear hpr
    obtain ⟨rk, rs, rx, ry⟩ := rop
    obtain ⟨sk, ss, sx, sy⟩ := sop
    obtain ⟨rek1, rek2, rek3⟩ := rek
    obtain ⟨sek1, sek2, sek3⟩ := sek
    go_enter Tryz.func72, Tryz.ntmps72
    go_wp2_with fail
    go_ret
    exact ⟨by simp, pastAlloc (allocB _ _)⟩
  subst hpr
  by_cases htx : rtx = stx
  rotate_left
  · rw [decide_eq_false (fun e => htx (congrArg Rc.Rec.txn e))]
    have ntx : (rtx == stx) = false := by simp [htx]
    have mtx : (rtx != stx) = true := by simp [htx]
    clear htx
    obtain ⟨rk, rs, rx, ry⟩ := rop
    obtain ⟨sk, ss, sx, sy⟩ := sop
    obtain ⟨rek1, rek2, rek3⟩ := rek
    obtain ⟨sek1, sek2, sek3⟩ := sek
    go_enter Tryz.func72, Tryz.ntmps72
    go_wp2_with fail
    go_ret
    exact ⟨by simp, pastAlloc (allocB _ _)⟩
  subst htx
  by_cases hki : rki = ski
  rotate_left
  · rw [decide_eq_false (fun e => hki (congrArg Rc.Rec.kind e))]
    have nki : (rki == ski) = false := by simp [hki]
    have mki : (rki != ski) = true := by simp [hki]
    clear hki
    obtain ⟨rk, rs, rx, ry⟩ := rop
    obtain ⟨sk, ss, sx, sy⟩ := sop
    obtain ⟨rek1, rek2, rek3⟩ := rek
    obtain ⟨sek1, sek2, sek3⟩ := sek
    go_enter Tryz.func72, Tryz.ntmps72
    go_wp2_with fail
    go_ret
    exact ⟨by simp, pastAlloc (allocB _ _)⟩
  subst hki
  by_cases hpa : rpa = spa
  rotate_left
  · rw [decide_eq_false (fun e => hpa (congrArg Rc.Rec.page e))]
    have npa : (rpa == spa) = false := by simp [hpa]
    have mpa : (rpa != spa) = true := by simp [hpa]
    clear hpa
    obtain ⟨rk, rs, rx, ry⟩ := rop
    obtain ⟨sk, ss, sx, sy⟩ := sop
    obtain ⟨rek1, rek2, rek3⟩ := rek
    obtain ⟨sek1, sek2, sek3⟩ := sek
    go_enter Tryz.func72, Tryz.ntmps72
    go_wp2_with fail
    go_ret
    exact ⟨by simp, pastAlloc (allocB _ _)⟩
  subst hpa
  by_cases hne : rne = sne
  rotate_left
  · rw [decide_eq_false (fun e => hne (congrArg Rc.Rec.next e))]
    have nne : (rne == sne) = false := by simp [hne]
    have mne : (rne != sne) = true := by simp [hne]
    clear hne
    obtain ⟨rk, rs, rx, ry⟩ := rop
    obtain ⟨sk, ss, sx, sy⟩ := sop
    obtain ⟨rek1, rek2, rek3⟩ := rek
    obtain ⟨sek1, sek2, sek3⟩ := sek
    go_enter Tryz.func72, Tryz.ntmps72
    go_wp2_with fail
    go_ret
    exact ⟨by simp, pastAlloc (allocB _ _)⟩
  subst hne
  by_cases hnu : rnu = snu
  rotate_left
  · rw [decide_eq_false (fun e => hnu (congrArg Rc.Rec.num e))]
    have nnu : (rnu == snu) = false := by simp [hnu]
    have mnu : (rnu != snu) = true := by simp [hnu]
    clear hnu
    obtain ⟨rk, rs, rx, ry⟩ := rop
    obtain ⟨sk, ss, sx, sy⟩ := sop
    obtain ⟨rek1, rek2, rek3⟩ := rek
    obtain ⟨sek1, sek2, sek3⟩ := sek
    go_enter Tryz.func72, Tryz.ntmps72
    go_wp2_with fail
    go_ret
    exact ⟨by simp, pastAlloc (allocB _ _)⟩
  subst hnu
  cases hop : decide (rop = sop) with
  | false =>
    rw [decide_eq_false (fun e => of_decide_eq_false hop (congrArg Rc.Rec.op e))]
    have eop := HO.out
    rw [hop] at eop
    clear hop
    obtain ⟨rk, rs, rx, ry⟩ := rop
    obtain ⟨sk, ss, sx, sy⟩ := sop
    obtain ⟨rek1, rek2, rek3⟩ := rek
    obtain ⟨sek1, sek2, sek3⟩ := sek
    go_enter Tryz.func72, Tryz.ntmps72
    go_wp2_with fail
    go_ret
    exact ⟨by simp, pastAlloc (allocB _ _)⟩
  | true =>
  have eop := HO.out
  rw [hop] at eop
  have Dop := Lib.hid (of_decide_eq_true hop)
  clear hop HO
  by_cases hho : rho = sho
  rotate_left
  · rw [decide_eq_false (fun e => hho (congrArg Rc.Rec.how e))]
    have nho : (rho == sho) = false := by simp [hho]
    have mho : (rho != sho) = true := by simp [hho]
    clear hho
    obtain ⟨rk, rs, rx, ry⟩ := rop
    obtain ⟨sk, ss, sx, sy⟩ := sop
    obtain ⟨rek1, rek2, rek3⟩ := rek
    obtain ⟨sek1, sek2, sek3⟩ := sek
    go_enter Tryz.func72, Tryz.ntmps72
    go_wp2_with fail
    go_ret
    exact ⟨by simp, pastAlloc (allocB _ _)⟩
  subst hho
  by_cases hro : rro = sro
  rotate_left
  · rw [decide_eq_false (fun e => hro (congrArg Rc.Rec.root e))]
    have nro : (rro == sro) = false := by simp [hro]
    have mro : (rro != sro) = true := by simp [hro]
    clear hro
    obtain ⟨rk, rs, rx, ry⟩ := rop
    obtain ⟨sk, ss, sx, sy⟩ := sop
    obtain ⟨rek1, rek2, rek3⟩ := rek
    obtain ⟨sek1, sek2, sek3⟩ := sek
    go_enter Tryz.func72, Tryz.ntmps72
    go_wp2_with fail
    go_ret
    exact ⟨by simp, pastAlloc (allocB _ _)⟩
  subst hro
  cases hek : decide (rek = sek) with
  | false =>
    rw [decide_eq_false (fun e => of_decide_eq_false hek (congrArg Rc.Rec.e e))]
    have eek := HK.out
    rw [hek] at eek
    clear hek
    obtain ⟨rk, rs, rx, ry⟩ := rop
    obtain ⟨sk, ss, sx, sy⟩ := sop
    obtain ⟨rek1, rek2, rek3⟩ := rek
    obtain ⟨sek1, sek2, sek3⟩ := sek
    go_enter Tryz.func72, Tryz.ntmps72
    go_wp2_with fail
    go_ret
    exact ⟨by simp, pastAlloc (allocB _ _)⟩
  | true =>
  have eek := HK.out
  rw [hek] at eek
  have Dek := Lib.hid (of_decide_eq_true hek)
  clear hek HK
  cases hts' : decide (rts = sts) with
  | false =>
    have Dts := Lib.hid hts'
    rw [decide_eq_false (fun e => of_decide_eq_false hts' (congrArg Rc.Rec.txns e))]
    clear hts'
    obtain ⟨rk, rs, rx, ry⟩ := rop
    obtain ⟨sk, ss, sx, sy⟩ := sop
    obtain ⟨rek1, rek2, rek3⟩ := rek
    obtain ⟨sek1, sek2, sek3⟩ := sek
    go_enter Tryz.func72, Tryz.ntmps72
    go_wp2_with (first | (go_at_call 104; (with_reducible refine (HT.out _ ?_).mono ?_); (exact pastAlloc (allocB _ _)); rintro e w2 ⟨rfl, hb2⟩; have hx1 := blkOld (new21 _ _ _) hb2; have hx2 := blkOld (new2 _ _ _) hb2; have q1 := blkCell hx1 17; have q2 := blkCell hx2 17; clear hx1 hx2; simp at q1 q2; rw [Dts.out]))
    go_ret
    exact ⟨by simp, joinB (pastAlloc (allocB _ _)) hb2⟩
  | true =>
  have Bts := Lib.hid hts'
  have Dts := Lib.hid (of_decide_eq_true hts')
  clear hts'
  cases hds' : decide (rds = sds) with
  | false =>
    have Dds := Lib.hid hds'
    rw [decide_eq_false (fun e => of_decide_eq_false hds' (congrArg Rc.Rec.dirty e))]
    clear hds'
    obtain ⟨rk, rs, rx, ry⟩ := rop
    obtain ⟨sk, ss, sx, sy⟩ := sop
    obtain ⟨rek1, rek2, rek3⟩ := rek
    obtain ⟨sek1, sek2, sek3⟩ := sek
    go_enter Tryz.func72, Tryz.ntmps72
    go_wp2_with (first | (go_at_call 104; (with_reducible refine (HT.out _ ?_).mono ?_); (exact pastAlloc (allocB _ _)); rintro e w2 ⟨rfl, hb2⟩; have hx1 := blkOld (new21 _ _ _) hb2; have hx2 := blkOld (new2 _ _ _) hb2; have q1 := blkCell hx1 17; have q2 := blkCell hx2 17; clear hx1 hx2; simp at q1 q2; rw [Bts.out]) | (go_at_call 105; (with_reducible refine (HD.out _ ?_).mono ?_); (exact joinB (pastAlloc (allocB _ _)) hb2); rintro e w3 ⟨rfl, hb3⟩; rw [Dds.out]))
    go_ret
    exact ⟨by simp, joinB (joinB (pastAlloc (allocB _ _)) hb2) hb3⟩
  | true =>
  have Bds := Lib.hid hds'
  have Dds := Lib.hid (of_decide_eq_true hds')
  clear hds'
  rw [decide_eq_true (by rw [Dop.out, Dek.out, Dts.out, Dds.out])]
  clear Dop Dek Dts Dds
  obtain ⟨rk, rs, rx, ry⟩ := rop
  obtain ⟨sk, ss, sx, sy⟩ := sop
  obtain ⟨rek1, rek2, rek3⟩ := rek
  obtain ⟨sek1, sek2, sek3⟩ := sek
  go_enter Tryz.func72, Tryz.ntmps72
  go_wp2_with (first | (go_at_call 104; (with_reducible refine (HT.out _ ?_).mono ?_); (exact pastAlloc (allocB _ _)); rintro e w2 ⟨rfl, hb2⟩; have hx1 := blkOld (new21 _ _ _) hb2; have hx2 := blkOld (new2 _ _ _) hb2; have q1 := blkCell hx1 17; have q2 := blkCell hx2 17; clear hx1 hx2; simp at q1 q2; rw [Bts.out]) | (go_at_call 105; (with_reducible refine (HD.out _ ?_).mono ?_); (exact joinB (pastAlloc (allocB _ _)) hb2); rintro e w3 ⟨rfl, hb3⟩; rw [Bds.out]))
  go_ret
  exact ⟨by simp, joinB (joinB (pastAlloc (allocB _ _)) hb2) hb3⟩
end Go.Proofs.YtojaagnfjenhoaaGreat
