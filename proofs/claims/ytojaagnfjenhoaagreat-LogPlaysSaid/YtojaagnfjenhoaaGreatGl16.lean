/- The walks over the reference of records: the bytes of any record that may be. -/
import Derived.Test.YtojaagnfjenhoaaGreatGl14
import Derived.Test.YtojaagnfjenhoaaGreatGl15
import Derived.BigRegion
import Derived.Test.YtojaagnfjenhoaaGreatGl13
import Derived.Test.YtojaagnfjenhoaaGreatGl08
namespace Go.Proofs.YtojaagnfjenhoaaGreat
open Go.RowKit
set_option maxRecDepth 100000 in
set_option maxHeartbeats 16000000 in
/-- The reference's body, of any record that may be. -/
theorem rbody_any (r : Rc.Rec) (hR0 : Rc.Right r) (A B : Option Addr) (c d : Nat) (w : World) (hr : RecR w r A c B d) :
    Calls Tryz.prog 43 #[recV r (.slice A r.txns.length c) (.slice B r.dirty.length d)] w fun e w' => e = .returned (.string (Rc.mk (Rc.bodyB r))) ∧ Below w.heap.size w w' := by
  have HF := Lib.hid (Rc.form_of hR0)
  have HRR := Lib.hid hr
  clear hR0 hr
  obtain ⟨lsn, prev, txn, kind, page, next, nu, ⟨ok, os, oo, on⟩, how, root, ⟨ek, ep, es⟩, ts, ds⟩ := r
  have hk := HF.out.kind
  dsimp only at hk
  have h9 : (kind = 1 ∨ kind = 5 ∨ kind = 6 ∨ kind = 7) ∨ kind = 2 ∨ kind = 3 ∨ kind = 4 ∨ kind = 8 ∨ kind = 9 := by omega
  have HK := Lib.hid h9
  clear hk h9
  dsimp only [recV, recA]
  obtain ⟨w0, hw0⟩ : ∃ W, W = w.alloc (.cells (rcA lsn prev txn kind page next nu ok os oo on how root ek ep es (.slice A ts.length c) (.slice B ds.length d)) 42) := ⟨_, rfl⟩
  have HB0 := Lib.hid (show Below w.heap.size w w0 from by rw [hw0]; exact allocB _ _)
  have HX0 := Lib.hid (show w0.heap[w.heap.size]? = some (.cells (rcA lsn prev txn kind page next nu ok os oo on how root ek ep es (.slice A ts.length c) (.slice B ds.length d)) 42 (0, 0)) from by rw [hw0]; exact heap_alloc_new _ _)
  obtain ⟨R, hR⟩ : ∃ R, R = Rc.mk (Rc.bodyB ⟨lsn, prev, txn, kind, page, next, nu, ⟨ok, os, oo, on⟩, how, root, ⟨ek, ep, es⟩, ts, ds⟩) := ⟨_, rfl⟩
  rw [← hR]
  have HR := Lib.hid hR
  clear hR
  obtain ⟨B1, hB1⟩ : ∃ b, b = Rc.mk (Rc.p kind 1) := ⟨_, rfl⟩
  have hl1 : ((Rc.p kind 1)).length = 1 := Rc.p_length _ _
  have HC1 := Lib.hid (show ∀ W, Calls Tryz.prog 44 #[.int .i64 kind, .int .i64 1] W fun e w' => e = .returned (.string B1) ∧ Below W.heap.size W w' from fun W => by rw [hB1]; exact rput_mk kind 1 (by omega) W)
  obtain ⟨B2, hB2⟩ : ∃ b, b = Rc.mk (Rc.p lsn 6) := ⟨_, rfl⟩
  have hl2 : ((Rc.p lsn 6)).length = 6 := Rc.p_length _ _
  have HC2 := Lib.hid (show ∀ W, Calls Tryz.prog 44 #[.int .i64 lsn, .int .i64 6] W fun e w' => e = .returned (.string B2) ∧ Below W.heap.size W w' from fun W => by rw [hB2]; exact rput_mk lsn 6 (by omega) W)
  obtain ⟨S2, hS2⟩ : ∃ b, b = Rc.mk ((Rc.p kind 1) ++ (Rc.p lsn 6)) := ⟨_, rfl⟩
  have ha2 : ∀ W : World, (Op.stringOp .add B1 B2).run Tryz.prog W = .ok (.string S2) W := fun W => by rw [hB1, hB2, hS2]; exact add_mk _ _ (by (try simp only [Rc.p_length]); omega) W
  obtain ⟨B3, hB3⟩ : ∃ b, b = Rc.mk (Rc.p prev 6) := ⟨_, rfl⟩
  have hl3 : ((Rc.p prev 6)).length = 6 := Rc.p_length _ _
  have HC3 := Lib.hid (show ∀ W, Calls Tryz.prog 44 #[.int .i64 prev, .int .i64 6] W fun e w' => e = .returned (.string B3) ∧ Below W.heap.size W w' from fun W => by rw [hB3]; exact rput_mk prev 6 (by omega) W)
  obtain ⟨S3, hS3⟩ : ∃ b, b = Rc.mk (((Rc.p kind 1) ++ (Rc.p lsn 6)) ++ (Rc.p prev 6)) := ⟨_, rfl⟩
  have ha3 : ∀ W : World, (Op.stringOp .add S2 B3).run Tryz.prog W = .ok (.string S3) W := fun W => by rw [hS2, hB3, hS3]; exact add_mk _ _ (by (try simp only [List.length_append, Rc.p_length]); omega) W
  obtain ⟨B4, hB4⟩ : ∃ b, b = Rc.mk (Rc.p txn 6) := ⟨_, rfl⟩
  have hl4 : ((Rc.p txn 6)).length = 6 := Rc.p_length _ _
  have HC4 := Lib.hid (show ∀ W, Calls Tryz.prog 44 #[.int .i64 txn, .int .i64 6] W fun e w' => e = .returned (.string B4) ∧ Below W.heap.size W w' from fun W => by rw [hB4]; exact rput_mk txn 6 (by omega) W)
  obtain ⟨S4, hS4⟩ : ∃ b, b = Rc.mk ((((Rc.p kind 1) ++ (Rc.p lsn 6)) ++ (Rc.p prev 6)) ++ (Rc.p txn 6)) := ⟨_, rfl⟩
  have ha4 : ∀ W : World, (Op.stringOp .add S3 B4).run Tryz.prog W = .ok (.string S4) W := fun W => by rw [hS3, hB4, hS4]; exact add_mk _ _ (by (try simp only [List.length_append, Rc.p_length]); omega) W
  have HS4 := Lib.hid hS4
  have hl0 : ((((Rc.p kind 1) ++ (Rc.p lsn 6)) ++ (Rc.p prev 6)) ++ (Rc.p txn 6)).length = 19 := by simp only [List.length_append]; omega
  have HL0 := Lib.hid hl0
  clear hB1 hl1
  clear hB2 hl2
  clear hB3 hl3
  clear hB4 hl4
  clear hS2
  clear hS3
  clear hS4
  clear hl0
  go_enter Tryz.func43, Tryz.ntmps43
  go_upto_region 1 with fail
  rw [← hw0]
  clear hw0
  obtain ⟨g, hg⟩ : ∃ g, g = w.heap.size := ⟨_, rfl⟩
  rw [← hg] at HX0
  rw [← hg]
  have hg0 : w.heap.size ≤ g := Nat.le_of_eq hg.symm
  clear hg
  go_cut [3] (fun s3 wc => s3 = .string S4 ∧ wc.heap[g]? = some (.cells (rcA lsn prev txn kind page next nu ok os oo on how root ek ep es (.slice A ts.length c) (.slice B ds.length d)) 42 (0, 0)) ∧ Below w.heap.size w wc)
  case first =>
    go_upto_region 1 with fail
    have Xb0 := blkOld HX0.out (Below.refl _ w0).drew
    have Yb0 := joinB HB0.out (Below.refl _ w0).drew
    refine wp_region_held_drew (S := (fun u => u.heap[g]? = some (.cells (rcA lsn prev txn kind page next nu ok os oo on how root ek ep es (.slice A ts.length c) (.slice B ds.length d)) 42 (0, 0)))) (by kernel_rfl) ?_ (fun hHeld => ?_)
    · first | exact hSn | exact Xb0
    refine tkW 0 (some 4) (v := ?_) rfl ?_ (tkW 1 (some 5) (v := ?_) rfl ?_ (tkW 3 (some 7) (v := ?_) rfl ?_ (tkW 4 (some 8) (v := ?_) rfl ?_ (tkW 7 (some 11) (v := ?_) rfl ?_ (tkW 8 (some 12) (v := ?_) rfl ?_ (tkW 11 (some 15) (v := ?_) rfl ?_ (tkW 12 (some 16) (v := ?_) rfl ?_ ?_)))))))
    iterate 8 (rotate_left; focus (intro u hSu; have hSv := blkCell hSu; clear hSu; go_simp; (try with_reducible rfl)))
    try simp only [Act.put, pS]
    refine rdH 2 (some 6) rfl (fun K hK => ?_)
    go_simp
    refine (HC1.out _).mono ?_; rintro e vb1 ⟨rfl, hb⟩; have Xb1 := blkOld Xb0 hb; have Yb1 := joinB Yb0 hb; try clear hSn
    have hSn := Xb1
    clear hb
    refine hK.out _ _ ?_ (fun hHeld => ?_)
    · first | exact hSn | exact Xb0
    clear hK K
    try simp only [Act.put, pS]
    refine rdH 5 (some 9) rfl (fun K hK => ?_)
    go_simp
    refine (HC2.out _).mono ?_; rintro e vb2 ⟨rfl, hb⟩; have Xb2 := blkOld Xb1 hb; have Yb2 := joinB Yb1 hb; try clear hSn
    have hSn := Xb2
    clear hb
    refine hK.out _ _ ?_ (fun hHeld => ?_)
    · first | exact hSn | exact Xb0
    clear hK K
    try simp only [Act.put, pS]
    refine tkW 6 (some 10) (v := ?_) rfl ?_ ?_
    rotate_left
    · intro u hSu; have hSv := blkCell hSu; clear hSu; go_simp; (try with_reducible rfl)
    try simp only [Act.put, pS]
    refine rdH 9 (some 13) rfl (fun K hK => ?_)
    go_simp
    refine (HC3.out _).mono ?_; rintro e vb3 ⟨rfl, hb⟩; have Xb3 := blkOld Xb2 hb; have Yb3 := joinB Yb2 hb; try clear hSn
    have hSn := Xb3
    clear hb
    refine hK.out _ _ ?_ (fun hHeld => ?_)
    · first | exact hSn | exact Xb0
    clear hK K
    try simp only [Act.put, pS]
    refine tkW 10 (some 14) (v := ?_) rfl ?_ ?_
    rotate_left
    · intro u hSu; have hSv := blkCell hSu; clear hSu; go_simp; (try with_reducible rfl)
    try simp only [Act.put, pS]
    refine rdH 13 (some 17) rfl (fun K hK => ?_)
    go_simp
    refine (HC4.out _).mono ?_; rintro e vb4 ⟨rfl, hb⟩; have Xb4 := blkOld Xb3 hb; have Yb4 := joinB Yb3 hb; try clear hSn
    have hSn := Xb4
    clear hb
    refine hK.out _ _ ?_ (fun hHeld => ?_)
    · first | exact hSn | exact Xb0
    clear hK K
    try simp only [Act.put, pS]
    refine tkW 14 (some 18) (v := ?_) rfl ?_ (tkW 15 (some 3) (v := ?_) rfl ?_ ?_)
    iterate 2 (rotate_left; focus (intro u hSu; have hSv := blkCell hSu; clear hSu; go_simp; (try with_reducible rfl)))
    try simp only [Act.put, pS]
    refine wpAnyH_done (by kernel_rfl) ?_ _
    have HX1 := Lib.hid Xb4
    have HB1 := Lib.hid Yb4
    clear hHeld hSn Xb0 Yb0 Xb1 Yb1 Xb2 Yb2 Xb3 Yb3 Xb4 Yb4
    go_wp2_with fail
    go_meet
    case rel => exact ⟨rfl, HX1.out, HB1.out⟩
  case rest =>
    obtain ⟨rfl, hx1, hb1⟩ := hcut
    obtain ⟨w1, rfl⟩ : ∃ wm : World, wm = wc := ⟨_, rfl⟩
    have HX1 := Lib.hid hx1
    have HB1 := Lib.hid hb1
    clear hx1 hb1 HX0 HB0 HC1 HC2 HC3 HC4 ha2 ha3 ha4 hg0
    rcases HK.out with h9 | rfl | rfl | rfl | rfl | rfl
    · rcases h9 with rfl | rfl | rfl | rfl <;> (
      have hS4 := HS4.out
      have HE := Lib.hid (show S4 = R from by rw [hS4, HR.out]; (congr 1) <;> (unfold Rc.bodyB; rw [show Rc.restB _ = [] from by unfold Rc.restB; rfl]; unfold Rc.headB; simp only [List.append_assoc, List.append_nil]))
      have hcg1 := blkCell HX1.out
      clear hS4
      go_wp2_with fail
      go_ret
      exact ⟨by rw [← HE.out]; rfl, HB1.out⟩)
    · have hS4 := HS4.out
      have hl0 := HL0.out
      have hcg1 := blkCell HX1.out
      obtain ⟨-, -, -, h4, h5⟩ := (HF.out.change (by unfold Rc.hasChange; simp)).2
      dsimp only at h4 h5
      have hoo : oo.size ≤ 65535 := by omega
      have hon : on.size ≤ 65535 := by omega
      clear h4 h5
      obtain ⟨B5, hB5⟩ : ∃ b, b = Rc.mk (Rc.p page 3) := ⟨_, rfl⟩
      have hl5 : ((Rc.p page 3)).length = 3 := Rc.p_length _ _
      have HC5 := Lib.hid (show ∀ W, Calls Tryz.prog 44 #[.int .i64 page, .int .i64 3] W fun e w' => e = .returned (.string B5) ∧ Below W.heap.size W w' from fun W => by rw [hB5]; exact rput_mk page 3 (by omega) W)
      obtain ⟨S5, hS5⟩ : ∃ b, b = Rc.mk (((((Rc.p 2 1) ++ (Rc.p lsn 6)) ++ (Rc.p prev 6)) ++ (Rc.p txn 6)) ++ (Rc.p page 3)) := ⟨_, rfl⟩
      have ha5 : ∀ W : World, (Op.stringOp .add S4 B5).run Tryz.prog W = .ok (.string S5) W := fun W => by rw [hS4, hB5, hS5]; exact add_mk _ _ (by (try simp only [List.length_append, Rc.p_length]); omega) W
      obtain ⟨B6, hB6⟩ : ∃ b, b = Rc.mk (Rc.opB ⟨ok, os, oo, on⟩) := ⟨_, rfl⟩
      have hl6 : ((Rc.opB ⟨ok, os, oo, on⟩)).length ≤ 140000 := by unfold Rc.opB; simp only [List.length_append, Rc.p_length, Rc.t_len]; omega
      have HC6 := Lib.hid (show ∀ W, Calls Tryz.prog 83 #[.agg #[.int .i64 ok, .int .i64 os, .string oo, .string on]] W fun e w' => e = .returned (.string B6) ∧ Below W.heap.size W w' from fun W => by rw [hB6]; exact ropb_any ⟨ok, os, oo, on⟩ hoo hon W)
      obtain ⟨S6, hS6⟩ : ∃ b, b = Rc.mk ((((((Rc.p 2 1) ++ (Rc.p lsn 6)) ++ (Rc.p prev 6)) ++ (Rc.p txn 6)) ++ (Rc.p page 3)) ++ (Rc.opB ⟨ok, os, oo, on⟩)) := ⟨_, rfl⟩
      have ha6 : ∀ W : World, (Op.stringOp .add S5 B6).run Tryz.prog W = .ok (.string S6) W := fun W => by rw [hS5, hB6, hS6]; exact add_mk _ _ (by (try simp only [List.length_append, Rc.p_length]); omega) W
      obtain ⟨B7, hB7⟩ : ∃ b, b = Rc.mk (Rc.p how 1) := ⟨_, rfl⟩
      have hl7 : ((Rc.p how 1)).length = 1 := Rc.p_length _ _
      have HC7 := Lib.hid (show ∀ W, Calls Tryz.prog 44 #[.int .i64 how, .int .i64 1] W fun e w' => e = .returned (.string B7) ∧ Below W.heap.size W w' from fun W => by rw [hB7]; exact rput_mk how 1 (by omega) W)
      obtain ⟨S7, hS7⟩ : ∃ b, b = Rc.mk (((((((Rc.p 2 1) ++ (Rc.p lsn 6)) ++ (Rc.p prev 6)) ++ (Rc.p txn 6)) ++ (Rc.p page 3)) ++ (Rc.opB ⟨ok, os, oo, on⟩)) ++ (Rc.p how 1)) := ⟨_, rfl⟩
      have ha7 : ∀ W : World, (Op.stringOp .add S6 B7).run Tryz.prog W = .ok (.string S7) W := fun W => by rw [hS6, hB7, hS7]; exact add_mk _ _ (by (try simp only [List.length_append, Rc.p_length]); omega) W
      by_cases hh : how = 1
      · have hh1 : (how == 1) = true := by simpa using hh
        have HE := Lib.hid (show S7 = R from by rw [hS7, HR.out]; (congr 1) <;> (unfold Rc.bodyB; rw [Rc.restB_2 rfl]; unfold Rc.headB; unfold Rc.treeB; rw [if_pos hh]; simp only [List.append_assoc, List.append_nil]))
        clear hh hB5 hl5 hS5 hB6 hl6 hS6 hB7 hl7 hS7 hS4 hl0
        go_upto_region 4 with fail
        have Xc0 := blkOld HX1.out (Below.refl _ w1).drew
        have Yc0 := joinB HB1.out (Below.refl _ w1).drew
        refine wp_region_held_drew (S := (fun u => u.heap[g]? = some (.cells (rcA lsn prev txn 2 page next nu ok os oo on how root ek ep es (.slice A ts.length c) (.slice B ds.length d)) 42 (0, 0)))) (by kernel_rfl) ?_ (fun hHeld => ?_)
        · first | exact hSn | exact Xc0
        refine tkW 0 (some 23) (v := ?_) rfl ?_ (tkW 1 (some 24) (v := ?_) rfl ?_ (tkW 2 (some 25) (v := ?_) rfl ?_ (tkW 5 (some 28) (v := ?_) rfl ?_ (tkW 6 (some 29) (v := ?_) rfl ?_ (tkW 9 (some 32) (v := ?_) rfl ?_ (tkW 10 (some 33) (v := ?_) rfl ?_ ?_))))))
        iterate 7 (rotate_left; focus (intro u hSu; have hSv := blkCell hSu; clear hSu; go_simp; (try with_reducible rfl)))
        try simp only [Act.put, pS]
        refine rdH 3 (some 26) rfl (fun K hK => ?_)
        go_simp
        refine (HC5.out _).mono ?_; rintro e vc1 ⟨rfl, hb⟩; have Xc1 := blkOld Xc0 hb; have Yc1 := joinB Yc0 hb; try clear hSn
        have hSn := Xc1
        clear hb
        refine hK.out _ _ ?_ (fun hHeld => ?_)
        · first | exact hSn | exact Xc0
        clear hK K
        try simp only [Act.put, pS]
        refine tkW 4 (some 27) (v := ?_) rfl ?_ ?_
        rotate_left
        · intro u hSu; have hSv := blkCell hSu; clear hSu; go_simp; (try with_reducible rfl)
        try simp only [Act.put, pS]
        refine rdH 7 (some 30) rfl (fun K hK => ?_)
        go_simp
        refine (HC6.out _).mono ?_; rintro e vc2 ⟨rfl, hb⟩; have Xc2 := blkOld Xc1 hb; have Yc2 := joinB Yc1 hb; try clear hSn
        have hSn := Xc2
        clear hb
        refine hK.out _ _ ?_ (fun hHeld => ?_)
        · first | exact hSn | exact Xc0
        clear hK K
        try simp only [Act.put, pS]
        refine tkW 8 (some 31) (v := ?_) rfl ?_ ?_
        rotate_left
        · intro u hSu; have hSv := blkCell hSu; clear hSu; go_simp; (try with_reducible rfl)
        try simp only [Act.put, pS]
        refine rdH 11 (some 34) rfl (fun K hK => ?_)
        go_simp
        refine (HC7.out _).mono ?_; rintro e vc3 ⟨rfl, hb⟩; have Xc3 := blkOld Xc2 hb; have Yc3 := joinB Yc2 hb; try clear hSn
        have hSn := Xc3
        clear hb
        refine hK.out _ _ ?_ (fun hHeld => ?_)
        · first | exact hSn | exact Xc0
        clear hK K
        try simp only [Act.put, pS]
        refine tkW 12 (some 35) (v := ?_) rfl ?_ (tkW 13 (some 3) (v := ?_) rfl ?_ ?_)
        iterate 2 (rotate_left; focus (intro u hSu; have hSv := blkCell hSu; clear hSu; go_simp; (try with_reducible rfl)))
        try simp only [Act.put, pS]
        refine wpAnyH_done (by kernel_rfl) ?_ _
        have HX2 := Lib.hid Xc3
        have HB2 := Lib.hid Yc3
        clear hHeld hSn Xc0 Yc0 Xc1 Yc1 Xc2 Yc2 Xc3 Yc3
        have hcg2 := blkCell HX2.out
        go_wp2_with fail
        go_ret
        exact ⟨by rw [← HE.out]; rfl, HB2.out⟩
      · have hh1 : (how == 1) = false := by simpa using hh
        have hek : ek.size ≤ 65535 := by
          rcases HF.out.tree rfl with ⟨h7, _⟩ | ⟨_, _, _, _, h8⟩
          · exact absurd h7 hh
          · dsimp only at h8; omega
        obtain ⟨B8, hB8⟩ : ∃ b, b = Rc.mk (Rc.p root 3) := ⟨_, rfl⟩
        have hl8 : ((Rc.p root 3)).length = 3 := Rc.p_length _ _
        have HC8 := Lib.hid (show ∀ W, Calls Tryz.prog 44 #[.int .i64 root, .int .i64 3] W fun e w' => e = .returned (.string B8) ∧ Below W.heap.size W w' from fun W => by rw [hB8]; exact rput_mk root 3 (by omega) W)
        obtain ⟨S8, hS8⟩ : ∃ b, b = Rc.mk ((((((((Rc.p 2 1) ++ (Rc.p lsn 6)) ++ (Rc.p prev 6)) ++ (Rc.p txn 6)) ++ (Rc.p page 3)) ++ (Rc.opB ⟨ok, os, oo, on⟩)) ++ (Rc.p how 1)) ++ (Rc.p root 3)) := ⟨_, rfl⟩
        have ha8 : ∀ W : World, (Op.stringOp .add S7 B8).run Tryz.prog W = .ok (.string S8) W := fun W => by rw [hS7, hB8, hS8]; exact add_mk _ _ (by (try simp only [List.length_append, Rc.p_length]); omega) W
        obtain ⟨B9, hB9⟩ : ∃ b, b = Rc.mk (Rc.p ep 3) := ⟨_, rfl⟩
        have hl9 : ((Rc.p ep 3)).length = 3 := Rc.p_length _ _
        have HC9 := Lib.hid (show ∀ W, Calls Tryz.prog 44 #[.int .i64 ep, .int .i64 3] W fun e w' => e = .returned (.string B9) ∧ Below W.heap.size W w' from fun W => by rw [hB9]; exact rput_mk ep 3 (by omega) W)
        obtain ⟨S9, hS9⟩ : ∃ b, b = Rc.mk (((((((((Rc.p 2 1) ++ (Rc.p lsn 6)) ++ (Rc.p prev 6)) ++ (Rc.p txn 6)) ++ (Rc.p page 3)) ++ (Rc.opB ⟨ok, os, oo, on⟩)) ++ (Rc.p how 1)) ++ (Rc.p root 3)) ++ (Rc.p ep 3)) := ⟨_, rfl⟩
        have ha9 : ∀ W : World, (Op.stringOp .add S8 B9).run Tryz.prog W = .ok (.string S9) W := fun W => by rw [hS8, hB9, hS9]; exact add_mk _ _ (by (try simp only [List.length_append, Rc.p_length]); omega) W
        obtain ⟨B10, hB10⟩ : ∃ b, b = Rc.mk (Rc.p es 2) := ⟨_, rfl⟩
        have hl10 : ((Rc.p es 2)).length = 2 := Rc.p_length _ _
        have HC10 := Lib.hid (show ∀ W, Calls Tryz.prog 44 #[.int .i64 es, .int .i64 2] W fun e w' => e = .returned (.string B10) ∧ Below W.heap.size W w' from fun W => by rw [hB10]; exact rput_mk es 2 (by omega) W)
        obtain ⟨S10, hS10⟩ : ∃ b, b = Rc.mk ((((((((((Rc.p 2 1) ++ (Rc.p lsn 6)) ++ (Rc.p prev 6)) ++ (Rc.p txn 6)) ++ (Rc.p page 3)) ++ (Rc.opB ⟨ok, os, oo, on⟩)) ++ (Rc.p how 1)) ++ (Rc.p root 3)) ++ (Rc.p ep 3)) ++ (Rc.p es 2)) := ⟨_, rfl⟩
        have ha10 : ∀ W : World, (Op.stringOp .add S9 B10).run Tryz.prog W = .ok (.string S10) W := fun W => by rw [hS9, hB10, hS10]; exact add_mk _ _ (by (try simp only [List.length_append, Rc.p_length]); omega) W
        obtain ⟨B11, hB11⟩ : ∃ b, b = Rc.mk (Rc.t ek) := ⟨_, rfl⟩
        have hl11 : ((Rc.t ek)).length ≤ 70000 := by rw [Rc.t_len]; omega
        have HC11 := Lib.hid (show ∀ W, Calls Tryz.prog 84 #[.string ek] W fun e w' => e = .returned (.string B11) ∧ Below W.heap.size W w' from fun W => by rw [hB11]; exact rputtext_any ek hek W)
        obtain ⟨S11, hS11⟩ : ∃ b, b = Rc.mk (((((((((((Rc.p 2 1) ++ (Rc.p lsn 6)) ++ (Rc.p prev 6)) ++ (Rc.p txn 6)) ++ (Rc.p page 3)) ++ (Rc.opB ⟨ok, os, oo, on⟩)) ++ (Rc.p how 1)) ++ (Rc.p root 3)) ++ (Rc.p ep 3)) ++ (Rc.p es 2)) ++ (Rc.t ek)) := ⟨_, rfl⟩
        have ha11 : ∀ W : World, (Op.stringOp .add S10 B11).run Tryz.prog W = .ok (.string S11) W := fun W => by rw [hS10, hB11, hS11]; exact add_mk _ _ (by (try simp only [List.length_append, Rc.p_length]); omega) W
        have HE := Lib.hid (show S11 = R from by rw [hS11, HR.out]; (congr 1) <;> (unfold Rc.bodyB; rw [Rc.restB_2 rfl]; unfold Rc.headB; unfold Rc.treeB; rw [if_neg hh]; simp only [List.append_assoc]))
        clear hh hek
        clear hB5 hl5 hS5
        clear hB6 hl6 hS6
        clear hB7 hl7 hS7
        clear hB8 hl8 hS8
        clear hB9 hl9 hS9
        clear hB10 hl10 hS10
        clear hB11 hl11 hS11
        clear hS4 hl0
        go_upto_region 4 with fail
        have Xc0 := blkOld HX1.out (Below.refl _ w1).drew
        have Yc0 := joinB HB1.out (Below.refl _ w1).drew
        refine wp_region_held_drew (S := (fun u => u.heap[g]? = some (.cells (rcA lsn prev txn 2 page next nu ok os oo on how root ek ep es (.slice A ts.length c) (.slice B ds.length d)) 42 (0, 0)))) (by kernel_rfl) ?_ (fun hHeld => ?_)
        · first | exact hSn | exact Xc0
        refine tkW 0 (some 23) (v := ?_) rfl ?_ (tkW 1 (some 24) (v := ?_) rfl ?_ (tkW 2 (some 25) (v := ?_) rfl ?_ (tkW 5 (some 28) (v := ?_) rfl ?_ (tkW 6 (some 29) (v := ?_) rfl ?_ (tkW 9 (some 32) (v := ?_) rfl ?_ (tkW 10 (some 33) (v := ?_) rfl ?_ ?_))))))
        iterate 7 (rotate_left; focus (intro u hSu; have hSv := blkCell hSu; clear hSu; go_simp; (try with_reducible rfl)))
        try simp only [Act.put, pS]
        refine rdH 3 (some 26) rfl (fun K hK => ?_)
        go_simp
        refine (HC5.out _).mono ?_; rintro e vc1 ⟨rfl, hb⟩; have Xc1 := blkOld Xc0 hb; have Yc1 := joinB Yc0 hb; try clear hSn
        have hSn := Xc1
        clear hb
        refine hK.out _ _ ?_ (fun hHeld => ?_)
        · first | exact hSn | exact Xc0
        clear hK K
        try simp only [Act.put, pS]
        refine tkW 4 (some 27) (v := ?_) rfl ?_ ?_
        rotate_left
        · intro u hSu; have hSv := blkCell hSu; clear hSu; go_simp; (try with_reducible rfl)
        try simp only [Act.put, pS]
        refine rdH 7 (some 30) rfl (fun K hK => ?_)
        go_simp
        refine (HC6.out _).mono ?_; rintro e vc2 ⟨rfl, hb⟩; have Xc2 := blkOld Xc1 hb; have Yc2 := joinB Yc1 hb; try clear hSn
        have hSn := Xc2
        clear hb
        refine hK.out _ _ ?_ (fun hHeld => ?_)
        · first | exact hSn | exact Xc0
        clear hK K
        try simp only [Act.put, pS]
        refine tkW 8 (some 31) (v := ?_) rfl ?_ ?_
        rotate_left
        · intro u hSu; have hSv := blkCell hSu; clear hSu; go_simp; (try with_reducible rfl)
        try simp only [Act.put, pS]
        refine rdH 11 (some 34) rfl (fun K hK => ?_)
        go_simp
        refine (HC7.out _).mono ?_; rintro e vc3 ⟨rfl, hb⟩; have Xc3 := blkOld Xc2 hb; have Yc3 := joinB Yc2 hb; try clear hSn
        have hSn := Xc3
        clear hb
        refine hK.out _ _ ?_ (fun hHeld => ?_)
        · first | exact hSn | exact Xc0
        clear hK K
        try simp only [Act.put, pS]
        refine tkW 12 (some 35) (v := ?_) rfl ?_ (tkW 13 (some 3) (v := ?_) rfl ?_ ?_)
        iterate 2 (rotate_left; focus (intro u hSu; have hSv := blkCell hSu; clear hSu; go_simp; (try with_reducible rfl)))
        try simp only [Act.put, pS]
        refine wpAnyH_done (by kernel_rfl) ?_ _
        have HX2 := Lib.hid Xc3
        have HB2 := Lib.hid Yc3
        clear hHeld hSn Xc0 Yc0 Xc1 Yc1 Xc2 Yc2 Xc3 Yc3
        have hcg2 := blkCell HX2.out
        go_upto_region 7 with fail
        have Xd0 := blkOld HX2.out (Below.refl _ vc3).drew
        have Yd0 := joinB HB2.out (Below.refl _ vc3).drew
        refine wp_region_held_drew (S := (fun u => u.heap[g]? = some (.cells (rcA lsn prev txn 2 page next nu ok os oo on how root ek ep es (.slice A ts.length c) (.slice B ds.length d)) 42 (0, 0)))) (by kernel_rfl) ?_ (fun hHeld => ?_)
        · first | exact hSn | exact Xd0
        refine tkW 0 (some 40) (v := ?_) rfl ?_ (tkW 1 (some 41) (v := ?_) rfl ?_ (tkW 2 (some 42) (v := ?_) rfl ?_ (tkW 5 (some 45) (v := ?_) rfl ?_ (tkW 6 (some 46) (v := ?_) rfl ?_ (tkW 7 (some 47) (v := ?_) rfl ?_ (tkW 8 (some 48) (v := ?_) rfl ?_ (tkW 11 (some 51) (v := ?_) rfl ?_ (tkW 12 (some 52) (v := ?_) rfl ?_ (tkW 13 (some 53) (v := ?_) rfl ?_ (tkW 14 (some 54) (v := ?_) rfl ?_ (tkW 17 (some 57) (v := ?_) rfl ?_ (tkW 18 (some 58) (v := ?_) rfl ?_ (tkW 19 (some 59) (v := ?_) rfl ?_ ?_)))))))))))))
        iterate 14 (rotate_left; focus (intro u hSu; have hSv := blkCell hSu; clear hSu; go_simp; (try with_reducible rfl)))
        try simp only [Act.put, pS]
        refine rdH 3 (some 43) rfl (fun K hK => ?_)
        go_simp
        refine (HC8.out _).mono ?_; rintro e vd1 ⟨rfl, hb⟩; have Xd1 := blkOld Xd0 hb; have Yd1 := joinB Yd0 hb; try clear hSn
        have hSn := Xd1
        clear hb
        refine hK.out _ _ ?_ (fun hHeld => ?_)
        · first | exact hSn | exact Xd0
        clear hK K
        try simp only [Act.put, pS]
        refine tkW 4 (some 44) (v := ?_) rfl ?_ ?_
        rotate_left
        · intro u hSu; have hSv := blkCell hSu; clear hSu; go_simp; (try with_reducible rfl)
        try simp only [Act.put, pS]
        refine rdH 9 (some 49) rfl (fun K hK => ?_)
        go_simp
        refine (HC9.out _).mono ?_; rintro e vd2 ⟨rfl, hb⟩; have Xd2 := blkOld Xd1 hb; have Yd2 := joinB Yd1 hb; try clear hSn
        have hSn := Xd2
        clear hb
        refine hK.out _ _ ?_ (fun hHeld => ?_)
        · first | exact hSn | exact Xd0
        clear hK K
        try simp only [Act.put, pS]
        refine tkW 10 (some 50) (v := ?_) rfl ?_ ?_
        rotate_left
        · intro u hSu; have hSv := blkCell hSu; clear hSu; go_simp; (try with_reducible rfl)
        try simp only [Act.put, pS]
        refine rdH 15 (some 55) rfl (fun K hK => ?_)
        go_simp
        refine (HC10.out _).mono ?_; rintro e vd3 ⟨rfl, hb⟩; have Xd3 := blkOld Xd2 hb; have Yd3 := joinB Yd2 hb; try clear hSn
        have hSn := Xd3
        clear hb
        refine hK.out _ _ ?_ (fun hHeld => ?_)
        · first | exact hSn | exact Xd0
        clear hK K
        try simp only [Act.put, pS]
        refine tkW 16 (some 56) (v := ?_) rfl ?_ ?_
        rotate_left
        · intro u hSu; have hSv := blkCell hSu; clear hSu; go_simp; (try with_reducible rfl)
        try simp only [Act.put, pS]
        refine rdH 20 (some 60) rfl (fun K hK => ?_)
        go_simp
        refine (HC11.out _).mono ?_; rintro e vd4 ⟨rfl, hb⟩; have Xd4 := blkOld Xd3 hb; have Yd4 := joinB Yd3 hb; try clear hSn
        have hSn := Xd4
        clear hb
        refine hK.out _ _ ?_ (fun hHeld => ?_)
        · first | exact hSn | exact Xd0
        clear hK K
        try simp only [Act.put, pS]
        refine tkW 21 (some 61) (v := ?_) rfl ?_ (tkW 22 (some 2) (v := ?_) rfl ?_ ?_)
        iterate 2 (rotate_left; focus (intro u hSu; have hSv := blkCell hSu; clear hSu; go_simp; (try with_reducible rfl)))
        try simp only [Act.put, pS]
        refine wpAnyH_done (by kernel_rfl) ?_ _
        have HX3 := Lib.hid Xd4
        have HB3 := Lib.hid Yd4
        clear hHeld hSn Xd0 Yd0 Xd1 Yd1 Xd2 Yd2 Xd3 Yd3 Xd4 Yd4
        go_wp2_with fail
        go_ret
        exact ⟨by rw [← HE.out]; rfl, HB3.out⟩
    · have hS4 := HS4.out
      have hl0 := HL0.out
      have hcg1 := blkCell HX1.out
      obtain ⟨-, -, -, h4, h5⟩ := (HF.out.change (by unfold Rc.hasChange; simp)).2
      dsimp only at h4 h5
      have hoo : oo.size ≤ 65535 := by omega
      have hon : on.size ≤ 65535 := by omega
      clear h4 h5
      obtain ⟨B5, hB5⟩ : ∃ b, b = Rc.mk (Rc.p page 3) := ⟨_, rfl⟩
      have hl5 : ((Rc.p page 3)).length = 3 := Rc.p_length _ _
      have HC5 := Lib.hid (show ∀ W, Calls Tryz.prog 44 #[.int .i64 page, .int .i64 3] W fun e w' => e = .returned (.string B5) ∧ Below W.heap.size W w' from fun W => by rw [hB5]; exact rput_mk page 3 (by omega) W)
      obtain ⟨S5, hS5⟩ : ∃ b, b = Rc.mk (((((Rc.p 3 1) ++ (Rc.p lsn 6)) ++ (Rc.p prev 6)) ++ (Rc.p txn 6)) ++ (Rc.p page 3)) := ⟨_, rfl⟩
      have ha5 : ∀ W : World, (Op.stringOp .add S4 B5).run Tryz.prog W = .ok (.string S5) W := fun W => by rw [hS4, hB5, hS5]; exact add_mk _ _ (by (try simp only [List.length_append, Rc.p_length]); omega) W
      obtain ⟨B6, hB6⟩ : ∃ b, b = Rc.mk (Rc.opB ⟨ok, os, oo, on⟩) := ⟨_, rfl⟩
      have hl6 : ((Rc.opB ⟨ok, os, oo, on⟩)).length ≤ 140000 := by unfold Rc.opB; simp only [List.length_append, Rc.p_length, Rc.t_len]; omega
      have HC6 := Lib.hid (show ∀ W, Calls Tryz.prog 83 #[.agg #[.int .i64 ok, .int .i64 os, .string oo, .string on]] W fun e w' => e = .returned (.string B6) ∧ Below W.heap.size W w' from fun W => by rw [hB6]; exact ropb_any ⟨ok, os, oo, on⟩ hoo hon W)
      obtain ⟨S6, hS6⟩ : ∃ b, b = Rc.mk ((((((Rc.p 3 1) ++ (Rc.p lsn 6)) ++ (Rc.p prev 6)) ++ (Rc.p txn 6)) ++ (Rc.p page 3)) ++ (Rc.opB ⟨ok, os, oo, on⟩)) := ⟨_, rfl⟩
      have ha6 : ∀ W : World, (Op.stringOp .add S5 B6).run Tryz.prog W = .ok (.string S6) W := fun W => by rw [hS5, hB6, hS6]; exact add_mk _ _ (by (try simp only [List.length_append, Rc.p_length]); omega) W
      obtain ⟨B7, hB7⟩ : ∃ b, b = Rc.mk (Rc.p next 6) := ⟨_, rfl⟩
      have hl7 : ((Rc.p next 6)).length = 6 := Rc.p_length _ _
      have HC7 := Lib.hid (show ∀ W, Calls Tryz.prog 44 #[.int .i64 next, .int .i64 6] W fun e w' => e = .returned (.string B7) ∧ Below W.heap.size W w' from fun W => by rw [hB7]; exact rput_mk next 6 (by omega) W)
      obtain ⟨S7, hS7⟩ : ∃ b, b = Rc.mk (((((((Rc.p 3 1) ++ (Rc.p lsn 6)) ++ (Rc.p prev 6)) ++ (Rc.p txn 6)) ++ (Rc.p page 3)) ++ (Rc.opB ⟨ok, os, oo, on⟩)) ++ (Rc.p next 6)) := ⟨_, rfl⟩
      have ha7 : ∀ W : World, (Op.stringOp .add S6 B7).run Tryz.prog W = .ok (.string S7) W := fun W => by rw [hS6, hB7, hS7]; exact add_mk _ _ (by (try simp only [List.length_append, Rc.p_length]); omega) W
      have HE := Lib.hid (show S7 = R from by rw [hS7, HR.out]; (congr 1) <;> (unfold Rc.bodyB; rw [Rc.restB_3 rfl]; unfold Rc.headB; simp only [List.append_assoc]))
      clear hB5 hl5 hS5
      clear hB6 hl6 hS6
      clear hB7 hl7 hS7
      clear hS4 hl0
      go_upto_region 9 with fail
      have Xc0 := blkOld HX1.out (Below.refl _ w1).drew
      have Yc0 := joinB HB1.out (Below.refl _ w1).drew
      refine wp_region_held_drew (S := (fun u => u.heap[g]? = some (.cells (rcA lsn prev txn 3 page next nu ok os oo on how root ek ep es (.slice A ts.length c) (.slice B ds.length d)) 42 (0, 0)))) (by kernel_rfl) ?_ (fun hHeld => ?_)
      · first | exact hSn | exact Xc0
      refine tkW 0 (some 64) (v := ?_) rfl ?_ (tkW 1 (some 65) (v := ?_) rfl ?_ (tkW 2 (some 66) (v := ?_) rfl ?_ (tkW 5 (some 69) (v := ?_) rfl ?_ (tkW 6 (some 70) (v := ?_) rfl ?_ (tkW 9 (some 73) (v := ?_) rfl ?_ (tkW 10 (some 74) (v := ?_) rfl ?_ ?_))))))
      iterate 7 (rotate_left; focus (intro u hSu; have hSv := blkCell hSu; clear hSu; go_simp; (try with_reducible rfl)))
      try simp only [Act.put, pS]
      refine rdH 3 (some 67) rfl (fun K hK => ?_)
      go_simp
      refine (HC5.out _).mono ?_; rintro e vc1 ⟨rfl, hb⟩; have Xc1 := blkOld Xc0 hb; have Yc1 := joinB Yc0 hb; try clear hSn
      have hSn := Xc1
      clear hb
      refine hK.out _ _ ?_ (fun hHeld => ?_)
      · first | exact hSn | exact Xc0
      clear hK K
      try simp only [Act.put, pS]
      refine tkW 4 (some 68) (v := ?_) rfl ?_ ?_
      rotate_left
      · intro u hSu; have hSv := blkCell hSu; clear hSu; go_simp; (try with_reducible rfl)
      try simp only [Act.put, pS]
      refine rdH 7 (some 71) rfl (fun K hK => ?_)
      go_simp
      refine (HC6.out _).mono ?_; rintro e vc2 ⟨rfl, hb⟩; have Xc2 := blkOld Xc1 hb; have Yc2 := joinB Yc1 hb; try clear hSn
      have hSn := Xc2
      clear hb
      refine hK.out _ _ ?_ (fun hHeld => ?_)
      · first | exact hSn | exact Xc0
      clear hK K
      try simp only [Act.put, pS]
      refine tkW 8 (some 72) (v := ?_) rfl ?_ ?_
      rotate_left
      · intro u hSu; have hSv := blkCell hSu; clear hSu; go_simp; (try with_reducible rfl)
      try simp only [Act.put, pS]
      refine rdH 11 (some 75) rfl (fun K hK => ?_)
      go_simp
      refine (HC7.out _).mono ?_; rintro e vc3 ⟨rfl, hb⟩; have Xc3 := blkOld Xc2 hb; have Yc3 := joinB Yc2 hb; try clear hSn
      have hSn := Xc3
      clear hb
      refine hK.out _ _ ?_ (fun hHeld => ?_)
      · first | exact hSn | exact Xc0
      clear hK K
      try simp only [Act.put, pS]
      refine tkW 12 (some 76) (v := ?_) rfl ?_ (tkW 13 (some 2) (v := ?_) rfl ?_ ?_)
      iterate 2 (rotate_left; focus (intro u hSu; have hSv := blkCell hSu; clear hSu; go_simp; (try with_reducible rfl)))
      try simp only [Act.put, pS]
      refine wpAnyH_done (by kernel_rfl) ?_ _
      have HX2 := Lib.hid Xc3
      have HB2 := Lib.hid Yc3
      clear hHeld hSn Xc0 Yc0 Xc1 Yc1 Xc2 Yc2 Xc3 Yc3
      go_wp2_with fail
      go_ret
      exact ⟨by rw [← HE.out]; rfl, HB2.out⟩
    · have hS4 := HS4.out
      have hl0 := HL0.out
      have hcg1 := blkCell HX1.out
      obtain ⟨B5, hB5⟩ : ∃ b, b = Rc.mk (Rc.p next 6) := ⟨_, rfl⟩
      have hl5 : ((Rc.p next 6)).length = 6 := Rc.p_length _ _
      have HC5 := Lib.hid (show ∀ W, Calls Tryz.prog 44 #[.int .i64 next, .int .i64 6] W fun e w' => e = .returned (.string B5) ∧ Below W.heap.size W w' from fun W => by rw [hB5]; exact rput_mk next 6 (by omega) W)
      obtain ⟨S5, hS5⟩ : ∃ b, b = Rc.mk (((((Rc.p 4 1) ++ (Rc.p lsn 6)) ++ (Rc.p prev 6)) ++ (Rc.p txn 6)) ++ (Rc.p next 6)) := ⟨_, rfl⟩
      have ha5 : ∀ W : World, (Op.stringOp .add S4 B5).run Tryz.prog W = .ok (.string S5) W := fun W => by rw [hS4, hB5, hS5]; exact add_mk _ _ (by (try simp only [List.length_append, Rc.p_length]); omega) W
      have HE := Lib.hid (show S5 = R from by rw [hS5, HR.out]; (congr 1) <;> (unfold Rc.bodyB; rw [Rc.restB_4 rfl]; unfold Rc.headB; simp only [List.append_assoc]))
      clear hB5 hl5 hS5
      clear hS4 hl0
      go_wp2_with (go_at_call 44; (with_reducible refine (HC5.out _).mono ?_); rintro e w9 ⟨rfl, hb9⟩)
      go_ret
      exact ⟨by rw [← HE.out]; rfl, joinB HB1.out hb9⟩
    · have hS4 := HS4.out
      have hl0 := HL0.out
      have hcg1 := blkCell HX1.out
      obtain ⟨-, -, -, h4, h5⟩ := (HF.out.change (by unfold Rc.hasChange; simp)).2
      dsimp only at h4 h5
      have hoo : oo.size ≤ 65535 := by omega
      have hon : on.size ≤ 65535 := by omega
      clear h4 h5
      obtain ⟨B5, hB5⟩ : ∃ b, b = Rc.mk (Rc.p page 3) := ⟨_, rfl⟩
      have hl5 : ((Rc.p page 3)).length = 3 := Rc.p_length _ _
      have HC5 := Lib.hid (show ∀ W, Calls Tryz.prog 44 #[.int .i64 page, .int .i64 3] W fun e w' => e = .returned (.string B5) ∧ Below W.heap.size W w' from fun W => by rw [hB5]; exact rput_mk page 3 (by omega) W)
      obtain ⟨S5, hS5⟩ : ∃ b, b = Rc.mk (((((Rc.p 8 1) ++ (Rc.p lsn 6)) ++ (Rc.p prev 6)) ++ (Rc.p txn 6)) ++ (Rc.p page 3)) := ⟨_, rfl⟩
      have ha5 : ∀ W : World, (Op.stringOp .add S4 B5).run Tryz.prog W = .ok (.string S5) W := fun W => by rw [hS4, hB5, hS5]; exact add_mk _ _ (by (try simp only [List.length_append, Rc.p_length]); omega) W
      obtain ⟨B6, hB6⟩ : ∃ b, b = Rc.mk (Rc.opB ⟨ok, os, oo, on⟩) := ⟨_, rfl⟩
      have hl6 : ((Rc.opB ⟨ok, os, oo, on⟩)).length ≤ 140000 := by unfold Rc.opB; simp only [List.length_append, Rc.p_length, Rc.t_len]; omega
      have HC6 := Lib.hid (show ∀ W, Calls Tryz.prog 83 #[.agg #[.int .i64 ok, .int .i64 os, .string oo, .string on]] W fun e w' => e = .returned (.string B6) ∧ Below W.heap.size W w' from fun W => by rw [hB6]; exact ropb_any ⟨ok, os, oo, on⟩ hoo hon W)
      obtain ⟨S6, hS6⟩ : ∃ b, b = Rc.mk ((((((Rc.p 8 1) ++ (Rc.p lsn 6)) ++ (Rc.p prev 6)) ++ (Rc.p txn 6)) ++ (Rc.p page 3)) ++ (Rc.opB ⟨ok, os, oo, on⟩)) := ⟨_, rfl⟩
      have ha6 : ∀ W : World, (Op.stringOp .add S5 B6).run Tryz.prog W = .ok (.string S6) W := fun W => by rw [hS5, hB6, hS6]; exact add_mk _ _ (by (try simp only [List.length_append, Rc.p_length]); omega) W
      have HE := Lib.hid (show S6 = R from by rw [hS6, HR.out]; (congr 1) <;> (unfold Rc.bodyB; rw [Rc.restB_8 rfl]; unfold Rc.headB; simp only [List.append_assoc]))
      clear hB5 hl5 hS5
      clear hB6 hl6 hS6
      clear hS4 hl0
      go_upto_region 13 with fail
      have Xc0 := blkOld HX1.out (Below.refl _ w1).drew
      have Yc0 := joinB HB1.out (Below.refl _ w1).drew
      refine wp_region_held_drew (S := (fun u => u.heap[g]? = some (.cells (rcA lsn prev txn 8 page next nu ok os oo on how root ek ep es (.slice A ts.length c) (.slice B ds.length d)) 42 (0, 0)))) (by kernel_rfl) ?_ (fun hHeld => ?_)
      · first | exact hSn | exact Xc0
      refine tkW 0 (some 86) (v := ?_) rfl ?_ (tkW 1 (some 87) (v := ?_) rfl ?_ (tkW 2 (some 88) (v := ?_) rfl ?_ (tkW 5 (some 91) (v := ?_) rfl ?_ (tkW 6 (some 92) (v := ?_) rfl ?_ ?_))))
      iterate 5 (rotate_left; focus (intro u hSu; have hSv := blkCell hSu; clear hSu; go_simp; (try with_reducible rfl)))
      try simp only [Act.put, pS]
      refine rdH 3 (some 89) rfl (fun K hK => ?_)
      go_simp
      refine (HC5.out _).mono ?_; rintro e vc1 ⟨rfl, hb⟩; have Xc1 := blkOld Xc0 hb; have Yc1 := joinB Yc0 hb; try clear hSn
      have hSn := Xc1
      clear hb
      refine hK.out _ _ ?_ (fun hHeld => ?_)
      · first | exact hSn | exact Xc0
      clear hK K
      try simp only [Act.put, pS]
      refine tkW 4 (some 90) (v := ?_) rfl ?_ ?_
      rotate_left
      · intro u hSu; have hSv := blkCell hSu; clear hSu; go_simp; (try with_reducible rfl)
      try simp only [Act.put, pS]
      refine rdH 7 (some 93) rfl (fun K hK => ?_)
      go_simp
      refine (HC6.out _).mono ?_; rintro e vc2 ⟨rfl, hb⟩; have Xc2 := blkOld Xc1 hb; have Yc2 := joinB Yc1 hb; try clear hSn
      have hSn := Xc2
      clear hb
      refine hK.out _ _ ?_ (fun hHeld => ?_)
      · first | exact hSn | exact Xc0
      clear hK K
      try simp only [Act.put, pS]
      refine tkW 8 (some 94) (v := ?_) rfl ?_ (tkW 9 (some 2) (v := ?_) rfl ?_ ?_)
      iterate 2 (rotate_left; focus (intro u hSu; have hSv := blkCell hSu; clear hSu; go_simp; (try with_reducible rfl)))
      try simp only [Act.put, pS]
      refine wpAnyH_done (by kernel_rfl) ?_ _
      have HX2 := Lib.hid Xc2
      have HB2 := Lib.hid Yc2
      clear hHeld hSn Xc0 Yc0 Xc1 Yc1 Xc2 Yc2
      go_wp2_with fail
      go_ret
      exact ⟨by rw [← HE.out]; rfl, HB2.out⟩
    · have hS4 := HS4.out
      have hl0 := HL0.out
      have hcg1 := blkCell HX1.out
      have h6 := (HF.out.lists rfl).2
      obtain ⟨B5, hB5⟩ : ∃ b, b = Rc.mk (Rc.listsB ⟨lsn, prev, txn, 9, page, next, nu, ⟨ok, os, oo, on⟩, how, root, ⟨ek, ep, es⟩, ts, ds⟩) := ⟨_, rfl⟩
      have hl5 : (Rc.listsB ⟨lsn, prev, txn, 9, page, next, nu, ⟨ok, os, oo, on⟩, how, root, ⟨ek, ep, es⟩, ts, ds⟩).length ≤ 40000 := by have h7 := h6.1; have h8 := h6.2.1; dsimp only at h7 h8; unfold Rc.listsB; simp only [List.length_append, Rc.p_length, Rc.flat_len Rc.txnB 19 Rc.txnB_len, Rc.flat_len Rc.dirtyB 9 Rc.dirtyB_len]; omega
      have HCK := Lib.hid (fun W (hb : Below w.heap.size w W) => by have h := rcheck_any ⟨lsn, prev, txn, 9, page, next, nu, ⟨ok, os, oo, on⟩, how, root, ⟨ek, ep, es⟩, ts, ds⟩ A B c d h6.1 h6.2.1 W (HRR.out.below hb); rw [← hB5] at h; exact h)
      dsimp only [recV, recA] at HCK
      have ha5 : ∀ W : World, (Op.stringOp .add S4 B5).run Tryz.prog W = .ok (.string R) W := fun W => by
        have h1 := add_mk ((((Rc.p 9 1) ++ (Rc.p lsn 6)) ++ (Rc.p prev 6)) ++ (Rc.p txn 6)) (Rc.listsB ⟨lsn, prev, txn, 9, page, next, nu, ⟨ok, os, oo, on⟩, how, root, ⟨ek, ep, es⟩, ts, ds⟩) (by omega) W
        rw [← hS4, ← hB5] at h1
        have h2 : Rc.mk (((((Rc.p 9 1) ++ (Rc.p lsn 6)) ++ (Rc.p prev 6)) ++ (Rc.p txn 6)) ++ Rc.listsB ⟨lsn, prev, txn, 9, page, next, nu, ⟨ok, os, oo, on⟩, how, root, ⟨ek, ep, es⟩, ts, ds⟩) = R := by rw [HR.out]; (congr 1) <;> (unfold Rc.bodyB; rw [Rc.restB_9 rfl]; unfold Rc.headB; simp only [List.append_assoc])
        rw [h2] at h1
        exact h1
      clear hB5 hl5 hS4 hl0 h6
      go_wp2_with (first | (with_reducible refine listLoad (by kernel_rfl) 42 (.tmp 1) rfl g rfl (rcA lsn prev txn 9 page next nu ok os oo on how root ek ep es (.slice A ts.length c) (.slice B ds.length d)) _ HX1.out _ Tryz.underlying42 (by kernel_rfl) (by kernel_rfl) ?_) | (go_at_call 85; (with_reducible refine (HCK.out _ HB1.out).mono ?_); rintro e w9 ⟨rfl, hb9⟩))
      go_ret
      exact ⟨rfl, joinB HB1.out hb9⟩
end Go.Proofs.YtojaagnfjenhoaaGreat
/- The walk over the reference of records: Get. -/
namespace Lg
/-- The reference's reader serves as well. -/
theorem getO_wrongF {s : List UInt8} {a : Nat} (h : ¬ Rc.Right (Rc.readM false (bodyAt s a))) : getO s a = none := getO_no fun hI => h (Rc.read_both _ |>.1 hI.2.2).1
theorem getO_otherF {s : List UInt8} {a : Nat} (h : Rc.bodyB (Rc.readM false (bodyAt s a)) ≠ bodyAt s a) : getO s a = none := getO_no fun hI => h (Rc.read_both _ |>.1 hI.2.2).2
theorem getO_yesF {s : List UInt8} {a : Nat} (h1 : a + 8 + Oct.getN s a 4 ≤ s.length) (h2 : Oct.getN s (a + 4) 4 = Oct.sumN (bodyAt s a)) (h3 : Rc.Right (Rc.readM false (bodyAt s a))) (h4 : Rc.bodyB (Rc.readM false (bodyAt s a)) = bodyAt s a) :
    getO s a = some (Rc.readM false (bodyAt s a), a + 8 + Oct.getN s a 4) := by
  have h5 := (Rc.read_both _).2 ⟨h3, h4⟩
  rw [getO_yes ⟨h1, h2, h5.1, h5.2⟩]
  have e := Rc.read_body false h5.1
  rw [h5.2] at e
  rw [e]
end Lg
namespace Go.Proofs.YtojaagnfjenhoaaGreat
open Go.RowKit
theorem rget4_yes (s : ByteArray) (a n : Nat) (hm : s.size ≤ 1000000) (hx : a + 4 ≤ s.size) (hn : Oct.getN s.data.toList a 4 = n) (W : World) :
    Calls Tryz.prog 61 #[.string s, .int .i64 (a : Int), .int .i64 4] W fun e w' => e = .returned (.tuple #[.int .i64 (n : Int), .bool true]) ∧ W = w' := by
  have h := rget_yes s a 4 (by omega) (by omega) hx (by omega) W
  have h1 := getN_small s.data.toList a 4
  rw [show Oct.intOf (Oct.getN s.data.toList a 4) = (n : Int) by rw [← hn]; unfold Oct.intOf; rw [if_pos (by have : (256 : Nat) ^ 4 = 4294967296 := rfl; omega)]] at h
  exact h
theorem rget4_no (s : ByteArray) (a : Nat) (hm : s.size ≤ 1000000) (ha : a ≤ 2000000) (hx : s.size < a + 4) (W : World) :
    Calls Tryz.prog 61 #[.string s, .int .i64 (a : Int), .int .i64 4] W fun e w' => e = .returned (.tuple #[.int .i64 0, .bool false]) ∧ W = w' :=
  rget_no s a 4 (by omega) (by omega) (by omega) (by omega) (by omega) W
set_option maxRecDepth 100000 in
set_option maxHeartbeats 4000000 in
theorem refget_far (s : ByteArray) (a : Int) (ha : a < 0 ∨ (s.size : Int) < a) (o : Option (Rc.Rec × Nat)) (ho : o = none) (w : World) :
    Calls Tryz.prog 35 #[.string s, .int .i64 a] w (GetOut o w) := by
  have HN := Lib.hid ho
  clear ho
  have HZ := Lib.hid (heap_alloc_new w (.cells (rcA 0 0 0 0 0 0 0 0 0 ⟨#[]⟩ ⟨#[]⟩ 0 0 ⟨#[]⟩ 0 0 (.slice none 0 0) (.slice none 0 0)) 42))
  rcases ha with ha | ha
  · go_enter Tryz.func35, Tryz.ntmps35
    go_wp2_with (with_reducible refine listStore (by kernel_rfl) 42 (.tmp 4) (.tmp 21) rfl w.heap.size (rcA 0 0 0 0 0 0 0 0 0 ⟨#[]⟩ ⟨#[]⟩ 0 0 ⟨#[]⟩ 0 0 (.slice none 0 0) (.slice none 0 0)) _ _ rfl rfl HZ.out (by kernel_rfl) (by kernel_rfl) (by kernel_rfl) ?_)
    refine bodyPost_ret (v := .tuple #[.agg (rcA 0 0 0 0 0 0 0 0 0 ⟨#[]⟩ ⟨#[]⟩ 0 0 ⟨#[]⟩ 0 0 (.slice none 0 0) (.slice none 0 0)), .int .i64 0, .int .i64 1]) (results_cell3 rfl _ _ rfl (load_whole (setRow_heap _ _ _ _ _ _ HZ.out) Tryz.underlying42 (by kernel_rfl) (by kernel_rfl)) rfl rfl) rfl ?_
    exact get_none HN.out (below_row (allocB _ _) _) 1 (by omega)
  · have h0 : ¬ a < 0 := by omega
    go_enter Tryz.func35, Tryz.ntmps35
    go_wp2_with (with_reducible refine listStore (by kernel_rfl) 42 (.tmp 4) (.tmp 21) rfl w.heap.size (rcA 0 0 0 0 0 0 0 0 0 ⟨#[]⟩ ⟨#[]⟩ 0 0 ⟨#[]⟩ 0 0 (.slice none 0 0) (.slice none 0 0)) _ _ rfl rfl HZ.out (by kernel_rfl) (by kernel_rfl) (by kernel_rfl) ?_)
    refine bodyPost_ret (v := .tuple #[.agg (rcA 0 0 0 0 0 0 0 0 0 ⟨#[]⟩ ⟨#[]⟩ 0 0 ⟨#[]⟩ 0 0 (.slice none 0 0) (.slice none 0 0)), .int .i64 0, .int .i64 1]) (results_cell3 rfl _ _ rfl (load_whole (setRow_heap _ _ _ _ _ _ HZ.out) Tryz.underlying42 (by kernel_rfl) (by kernel_rfl)) rfl rfl) rfl ?_
    exact get_none HN.out (below_row (allocB _ _) _) 1 (by omega)
set_option maxRecDepth 100000 in
set_option maxHeartbeats 4000000 in
theorem refget_short4 (s : ByteArray) (a : Nat) (hm : s.size ≤ 1000000) (ha : a ≤ s.size) (h4 : s.size < a + 4) (o : Option (Rc.Rec × Nat)) (ho : o = none) (w : World) :
    Calls Tryz.prog 35 #[.string s, .int .i64 (a : Int)] w (GetOut o w) := by
  have HN := Lib.hid ho
  have h1 : ¬ (a : Int) < 0 := by omega
  have h2 : ¬ (s.size : Int) < (a : Int) := by omega
  obtain ⟨b, hb⟩ : ∃ b : Nat, b = a + 4 := ⟨_, rfl⟩
  have hw : IntKind.i64.wrap ((a : Int) + 4) = (b : Int) := by rw [hb, Int.natCast_add]; exact IntWalk.i64_in _ (by omega)
  have HG1 := Lib.hid (fun W => rget4_no s a hm (by omega) h4 W)
  have HG2 := Lib.hid (fun W => rget4_no s b hm (by omega) (by omega) W)
  have HZ := Lib.hid (heap_alloc_new w (.cells (rcA 0 0 0 0 0 0 0 0 0 ⟨#[]⟩ ⟨#[]⟩ 0 0 ⟨#[]⟩ 0 0 (.slice none 0 0) (.slice none 0 0)) 42))
  clear ho hb
  go_enter Tryz.func35, Tryz.ntmps35
  go_wp2_with (first
    | (go_at_call 61; (with_reducible refine (HG1.out _).mono ?_); rintro e w1 ⟨rfl, rfl⟩)
    | (go_at_call 61; (with_reducible refine (HG2.out _).mono ?_); rintro e w1 ⟨rfl, rfl⟩)
    | (with_reducible refine listStore (by kernel_rfl) 42 (.tmp 4) (.tmp 50) rfl w.heap.size (rcA 0 0 0 0 0 0 0 0 0 ⟨#[]⟩ ⟨#[]⟩ 0 0 ⟨#[]⟩ 0 0 (.slice none 0 0) (.slice none 0 0)) _ _ rfl rfl HZ.out (by kernel_rfl) (by kernel_rfl) (by kernel_rfl) ?_))
  refine bodyPost_ret (v := .tuple #[.agg (rcA 0 0 0 0 0 0 0 0 0 ⟨#[]⟩ ⟨#[]⟩ 0 0 ⟨#[]⟩ 0 0 (.slice none 0 0) (.slice none 0 0)), .int .i64 0, .int .i64 3]) (results_cell3 rfl _ _ rfl (load_whole (setRow_heap _ _ _ _ _ _ HZ.out) Tryz.underlying42 (by kernel_rfl) (by kernel_rfl)) rfl rfl) rfl ?_
  exact get_none HN.out (below_row (allocB _ _) _) 3 (by omega)
set_option maxRecDepth 100000 in
set_option maxHeartbeats 4000000 in
theorem refget_short8 (s : ByteArray) (a : Nat) (hm : s.size ≤ 1000000) (_ha : a ≤ s.size) (n : Nat) (hx : a + 4 ≤ s.size) (hn : Oct.getN s.data.toList a 4 = n) (h8 : s.size < a + 8) (o : Option (Rc.Rec × Nat)) (ho : o = none) (w : World) :
    Calls Tryz.prog 35 #[.string s, .int .i64 (a : Int)] w (GetOut o w) := by
  have HN := Lib.hid ho
  have h1 : ¬ (a : Int) < 0 := by omega
  have h2 : ¬ (s.size : Int) < (a : Int) := by omega
  obtain ⟨b, hb⟩ : ∃ b : Nat, b = a + 4 := ⟨_, rfl⟩
  have hw : IntKind.i64.wrap ((a : Int) + 4) = (b : Int) := by rw [hb, Int.natCast_add]; exact IntWalk.i64_in _ (by omega)
  have HG1 := Lib.hid (fun W => rget4_yes s a n hm hx hn W)
  have HG2 := Lib.hid (fun W => rget4_no s b hm (by omega) (by omega) W)
  clear hn
  have HZ := Lib.hid (heap_alloc_new w (.cells (rcA 0 0 0 0 0 0 0 0 0 ⟨#[]⟩ ⟨#[]⟩ 0 0 ⟨#[]⟩ 0 0 (.slice none 0 0) (.slice none 0 0)) 42))
  clear ho hb
  go_enter Tryz.func35, Tryz.ntmps35
  go_wp2_with (first
    | (go_at_call 61; (with_reducible refine (HG1.out _).mono ?_); rintro e w1 ⟨rfl, rfl⟩)
    | (go_at_call 61; (with_reducible refine (HG2.out _).mono ?_); rintro e w1 ⟨rfl, rfl⟩)
    | (with_reducible refine listStore (by kernel_rfl) 42 (.tmp 4) (.tmp 50) rfl w.heap.size (rcA 0 0 0 0 0 0 0 0 0 ⟨#[]⟩ ⟨#[]⟩ 0 0 ⟨#[]⟩ 0 0 (.slice none 0 0) (.slice none 0 0)) _ _ rfl rfl HZ.out (by kernel_rfl) (by kernel_rfl) (by kernel_rfl) ?_))
  refine bodyPost_ret (v := .tuple #[.agg (rcA 0 0 0 0 0 0 0 0 0 ⟨#[]⟩ ⟨#[]⟩ 0 0 ⟨#[]⟩ 0 0 (.slice none 0 0) (.slice none 0 0)), .int .i64 0, .int .i64 3]) (results_cell3 rfl _ _ rfl (load_whole (setRow_heap _ _ _ _ _ _ HZ.out) Tryz.underlying42 (by kernel_rfl) (by kernel_rfl)) rfl rfl) rfl ?_
  exact get_none HN.out (below_row (allocB _ _) _) 3 (by omega)
set_option maxRecDepth 100000 in
set_option maxHeartbeats 4000000 in
theorem refget_shortn (s : ByteArray) (a : Nat) (hm : s.size ≤ 1000000) (_ha : a ≤ s.size) (n : Nat) (hx : a + 8 ≤ s.size) (hn : Oct.getN s.data.toList a 4 = n) (hs : s.size < a + 8 + n) (o : Option (Rc.Rec × Nat)) (ho : o = none) (w : World) :
    Calls Tryz.prog 35 #[.string s, .int .i64 (a : Int)] w (GetOut o w) := by
  have HN := Lib.hid ho
  have h1 : ¬ (a : Int) < 0 := by omega
  have h2 : ¬ (s.size : Int) < (a : Int) := by omega
  obtain ⟨b, hb⟩ : ∃ b : Nat, b = a + 4 := ⟨_, rfl⟩
  have hw : IntKind.i64.wrap ((a : Int) + 4) = (b : Int) := by rw [hb, Int.natCast_add]; exact IntWalk.i64_in _ (by omega)
  have HG1 := Lib.hid (fun W => rget4_yes s a n hm (by omega) hn W)
  have HG2 := Lib.hid (fun W => rget4_yes s b _ hm (by omega) rfl W)
  have hw1 : IntKind.i64.wrap ((s.size : Int) - (a : Int)) = (s.size : Int) - (a : Int) := IntWalk.i64_in _ (by omega)
  have hw2 : IntKind.i64.wrap ((s.size : Int) - (a : Int) - 8) = (s.size : Int) - (a : Int) - 8 := IntWalk.i64_in _ (by omega)
  have h3 : (s.size : Int) - (a : Int) - 8 < (n : Int) := by omega
  clear hn
  have HZ := Lib.hid (heap_alloc_new w (.cells (rcA 0 0 0 0 0 0 0 0 0 ⟨#[]⟩ ⟨#[]⟩ 0 0 ⟨#[]⟩ 0 0 (.slice none 0 0) (.slice none 0 0)) 42))
  clear ho hb
  go_enter Tryz.func35, Tryz.ntmps35
  go_wp2_with (first
    | (go_at_call 61; (with_reducible refine (HG1.out _).mono ?_); rintro e w1 ⟨rfl, rfl⟩)
    | (go_at_call 61; (with_reducible refine (HG2.out _).mono ?_); rintro e w1 ⟨rfl, rfl⟩)
    | (with_reducible refine listStore (by kernel_rfl) 42 (.tmp 4) (.tmp 50) rfl w.heap.size (rcA 0 0 0 0 0 0 0 0 0 ⟨#[]⟩ ⟨#[]⟩ 0 0 ⟨#[]⟩ 0 0 (.slice none 0 0) (.slice none 0 0)) _ _ rfl rfl HZ.out (by kernel_rfl) (by kernel_rfl) (by kernel_rfl) ?_))
  refine bodyPost_ret (v := .tuple #[.agg (rcA 0 0 0 0 0 0 0 0 0 ⟨#[]⟩ ⟨#[]⟩ 0 0 ⟨#[]⟩ 0 0 (.slice none 0 0) (.slice none 0 0)), .int .i64 0, .int .i64 3]) (results_cell3 rfl _ _ rfl (load_whole (setRow_heap _ _ _ _ _ _ HZ.out) Tryz.underlying42 (by kernel_rfl) (by kernel_rfl)) rfl rfl) rfl ?_
  exact get_none HN.out (below_row (allocB _ _) _) 3 (by omega)
set_option maxRecDepth 100000 in
set_option maxHeartbeats 4000000 in
theorem refget_sum (s : ByteArray) (a n q : Nat) (hm : s.size ≤ 1000000) (hn : Oct.getN s.data.toList a 4 = n) (hq : Oct.getN s.data.toList (a + 4) 4 = q) (hx : a + 8 + n ≤ s.size) (hs : q ≠ Oct.sumN (Lg.bodyAt s.data.toList a)) (w : World) :
    Calls Tryz.prog 35 #[.string s, .int .i64 (a : Int)] w (GetOut (Lg.getO s.data.toList a) w) := by
  have HN := Lib.hid (Lg.getO_sum (s := s.data.toList) (a := a) (by rw [hq]; exact hs))
  have h1 : ¬ (a : Int) < 0 := by omega
  have h2 : ¬ (s.size : Int) < (a : Int) := by omega
  obtain ⟨b, hb⟩ : ∃ b : Nat, b = a + 4 := ⟨_, rfl⟩
  have hw : IntKind.i64.wrap ((a : Int) + 4) = (b : Int) := by rw [hb, Int.natCast_add]; exact IntWalk.i64_in _ (by omega)
  have HG1 := Lib.hid (fun W => rget4_yes s a n hm (by omega) hn W)
  have HG2 := Lib.hid (fun W => rget4_yes s b q hm (by omega) (by rw [hb]; exact hq) W)
  have hw1 : IntKind.i64.wrap ((s.size : Int) - (a : Int)) = (s.size : Int) - (a : Int) := IntWalk.i64_in _ (by omega)
  have hw2 : IntKind.i64.wrap ((s.size : Int) - (a : Int) - 8) = (s.size : Int) - (a : Int) - 8 := IntWalk.i64_in _ (by omega)
  have h3 : ¬ (s.size : Int) - (a : Int) - 8 < (n : Int) := by omega
  obtain ⟨c8, hc8⟩ : ∃ c : Nat, c = a + 8 := ⟨_, rfl⟩
  have hw3 : IntKind.i64.wrap ((a : Int) + 8) = (c8 : Int) := by rw [hc8, Int.natCast_add]; exact IntWalk.i64_in _ (by omega)
  obtain ⟨cn, hcn⟩ : ∃ c : Nat, c = a + 8 + n := ⟨_, rfl⟩
  have hw4 : IntKind.i64.wrap ((c8 : Int) + (n : Int)) = (cn : Int) := by rw [hcn, hc8, ← Int.natCast_add]; exact IntWalk.i64_in _ (by omega)
  have h5 : c8 ≤ cn := by omega
  have h6 : cn ≤ s.size := by omega
  have h5i : (c8 : Int) ≤ (cn : Int) := by omega
  have h6i : (cn : Int) ≤ (s.size : Int) := by omega
  obtain ⟨y, hy⟩ : ∃ y, y = s.extract c8 cn := ⟨_, rfl⟩
  have hyl : y.data.toList = Lg.bodyAt s.data.toList a := by
    rw [hy, hcn, hc8, extract_list]; unfold Lg.bodyAt; rw [hn]
  have hys : y.size = n := by rw [hy, ByteArray.size_extract]; omega
  have HSM := Lib.hid (fun W => rsum_any y (by omega) W)
  rw [hyl] at HSM
  have HRD := Lib.hid (fun W => iread_any y (by omega) W)
  rw [hyl] at HRD
  have HYL := Lib.hid hyl
  have HZ := Lib.hid (heap_alloc_new w (.cells (rcA 0 0 0 0 0 0 0 0 0 ⟨#[]⟩ ⟨#[]⟩ 0 0 ⟨#[]⟩ 0 0 (.slice none 0 0) (.slice none 0 0)) 42))
  generalize Oct.sumN (Lg.bodyAt s.data.toList a) = S at *
  have hs1 : ((S : Int) == (q : Int)) = false := by simp only [beq_eq_false_iff_ne, ne_eq]; omega
  have hs2 : ((S : Int) != (q : Int)) = true := by simp only [bne_iff_ne, ne_eq]; omega
  clear hb hc8 hcn hyl hys hn hq HRD HYL hs
  go_enter Tryz.func35, Tryz.ntmps35
  go_upto_region 8 with (first
    | (go_at_call 61; (with_reducible refine (HG1.out _).mono ?_); rintro e w1 ⟨rfl, rfl⟩)
    | (go_at_call 61; (with_reducible refine (HG2.out _).mono ?_); rintro e w1 ⟨rfl, rfl⟩))
  rw [← hy]
  clear hy
  go_wp2_with (first
    | (go_at_call 45; (with_reducible refine (HSM.out _).mono ?_); rintro e w1 ⟨rfl, rfl⟩)
    | (with_reducible refine listStore (by kernel_rfl) 42 (.tmp 4) (.tmp 63) rfl w.heap.size (rcA 0 0 0 0 0 0 0 0 0 ⟨#[]⟩ ⟨#[]⟩ 0 0 ⟨#[]⟩ 0 0 (.slice none 0 0) (.slice none 0 0)) _ _ rfl rfl HZ.out (by kernel_rfl) (by kernel_rfl) (by kernel_rfl) ?_))
  refine bodyPost_ret (v := .tuple #[.agg (rcA 0 0 0 0 0 0 0 0 0 ⟨#[]⟩ ⟨#[]⟩ 0 0 ⟨#[]⟩ 0 0 (.slice none 0 0) (.slice none 0 0)), .int .i64 0, .int .i64 19]) (results_cell3 rfl _ _ rfl (load_whole (setRow_heap _ _ _ _ _ _ HZ.out) Tryz.underlying42 (by kernel_rfl) (by kernel_rfl)) rfl rfl) rfl ?_
  exact get_none HN.out (below_row (allocB _ _) _) 19 (by omega)
set_option maxRecDepth 100000 in
set_option maxHeartbeats 4000000 in
theorem refget_wrong (s : ByteArray) (a n q : Nat) (hm : s.size ≤ 1000000) (hn : Oct.getN s.data.toList a 4 = n) (hq : Oct.getN s.data.toList (a + 4) 4 = q) (hx : a + 8 + n ≤ s.size) (hs : q = Oct.sumN (Lg.bodyAt s.data.toList a)) (hr : Rc.rightB (Rc.readM false (Lg.bodyAt s.data.toList a)) = false) (w : World) :
    Calls Tryz.prog 35 #[.string s, .int .i64 (a : Int)] w (GetOut (Lg.getO s.data.toList a) w) := by
  have HN := Lib.hid (Lg.getO_wrongF (s := s.data.toList) (a := a) (fun h => by rw [Rc.rightB_yes h] at hr; cases hr))
  have h1 : ¬ (a : Int) < 0 := by omega
  have h2 : ¬ (s.size : Int) < (a : Int) := by omega
  obtain ⟨b, hb⟩ : ∃ b : Nat, b = a + 4 := ⟨_, rfl⟩
  have hw : IntKind.i64.wrap ((a : Int) + 4) = (b : Int) := by rw [hb, Int.natCast_add]; exact IntWalk.i64_in _ (by omega)
  have HG1 := Lib.hid (fun W => rget4_yes s a n hm (by omega) hn W)
  have HG2 := Lib.hid (fun W => rget4_yes s b q hm (by omega) (by rw [hb]; exact hq) W)
  have hw1 : IntKind.i64.wrap ((s.size : Int) - (a : Int)) = (s.size : Int) - (a : Int) := IntWalk.i64_in _ (by omega)
  have hw2 : IntKind.i64.wrap ((s.size : Int) - (a : Int) - 8) = (s.size : Int) - (a : Int) - 8 := IntWalk.i64_in _ (by omega)
  have h3 : ¬ (s.size : Int) - (a : Int) - 8 < (n : Int) := by omega
  obtain ⟨c8, hc8⟩ : ∃ c : Nat, c = a + 8 := ⟨_, rfl⟩
  have hw3 : IntKind.i64.wrap ((a : Int) + 8) = (c8 : Int) := by rw [hc8, Int.natCast_add]; exact IntWalk.i64_in _ (by omega)
  obtain ⟨cn, hcn⟩ : ∃ c : Nat, c = a + 8 + n := ⟨_, rfl⟩
  have hw4 : IntKind.i64.wrap ((c8 : Int) + (n : Int)) = (cn : Int) := by rw [hcn, hc8, ← Int.natCast_add]; exact IntWalk.i64_in _ (by omega)
  have h5 : c8 ≤ cn := by omega
  have h6 : cn ≤ s.size := by omega
  have h5i : (c8 : Int) ≤ (cn : Int) := by omega
  have h6i : (cn : Int) ≤ (s.size : Int) := by omega
  obtain ⟨y, hy⟩ : ∃ y, y = s.extract c8 cn := ⟨_, rfl⟩
  have hyl : y.data.toList = Lg.bodyAt s.data.toList a := by
    rw [hy, hcn, hc8, extract_list]; unfold Lg.bodyAt; rw [hn]
  have hys : y.size = n := by rw [hy, ByteArray.size_extract]; omega
  have HSM := Lib.hid (fun W => rsum_any y (by omega) W)
  rw [hyl] at HSM
  have HRD := Lib.hid (fun W => iread_any y (by omega) W)
  rw [hyl] at HRD
  have HYL := Lib.hid hyl
  have HZ := Lib.hid (heap_alloc_new w (.cells (rcA 0 0 0 0 0 0 0 0 0 ⟨#[]⟩ ⟨#[]⟩ 0 0 ⟨#[]⟩ 0 0 (.slice none 0 0) (.slice none 0 0)) 42))
  have HRI := Lib.hid (fun A B c d W (h : RecR W (Rc.readM false (Lg.bodyAt s.data.toList a)) A c B d) => rright_any _ A B c d W h)
  rw [hr] at HRI
  clear hr hcn
  generalize Lg.bodyAt s.data.toList a = M at *
  generalize Oct.sumN M = S at *
  generalize Rc.readM false M = r at *
  subst hs
  have hs1 : ((q : Int) == (q : Int)) = true := by simp
  have hs2 : ((q : Int) != (q : Int)) = false := by simp
  clear hb hc8 hyl hys hn hq HYL
  dsimp only [recV, recA] at HRI
  go_enter Tryz.func35, Tryz.ntmps35
  go_upto_region 8 with (first
    | (go_at_call 61; (with_reducible refine (HG1.out _).mono ?_); rintro e w1 ⟨rfl, rfl⟩)
    | (go_at_call 61; (with_reducible refine (HG2.out _).mono ?_); rintro e w1 ⟨rfl, rfl⟩))
  rw [← hy]
  clear hy
  go_upto_region 10 with (go_at_call 45; (with_reducible refine (HSM.out _).mono ?_); rintro e w1 ⟨rfl, rfl⟩)
  obtain ⟨W0, hW0⟩ : ∃ W, W = w.alloc (.cells (rcA 0 0 0 0 0 0 0 0 0 ⟨#[]⟩ ⟨#[]⟩ 0 0 ⟨#[]⟩ 0 0 (.slice none 0 0) (.slice none 0 0)) 42) := ⟨_, rfl⟩
  have HB0 := Lib.hid (show Below w.heap.size w W0 from by rw [hW0]; exact allocB _ _)
  rw [← hW0] at HZ
  rw [← hW0]
  have hs0 := Lib.hid (show W0.heap.size = w.heap.size + 1 by rw [hW0]; simp)
  clear hW0
  go_upto_region 11 with (first
    | (go_at_call 62; (with_reducible refine (HRD.out _).mono ?_); rintro e w3 ⟨A, c, B, d, rfl, hrn, hb3⟩; (try dsimp only [recV, recA]))
    | (with_reducible refine wpList_store_new rfl 42 (.tmp 12) (.tmp 65) rfl (rcA r.lsn r.prev r.txn r.kind r.page r.next r.num r.op.kind r.op.slot r.op.old r.op.new r.how r.root r.e.key r.e.page r.e.slot (.slice A r.txns.length c) (.slice B r.dirty.length d)) _ _ rfl (by kernel_rfl) (by kernel_rfl) (by kernel_rfl) (by kernel_rfl) ?_))
  have HX4 := Lib.hid (heap_alloc_new w3 (.cells (rcA r.lsn r.prev r.txn r.kind r.page r.next r.num r.op.kind r.op.slot r.op.old r.op.new r.how r.root r.e.key r.e.page r.e.slot (.slice A r.txns.length c) (.slice B r.dirty.length d)) 42))
  have HA4 := Lib.hid (hrn.below (allocB w3 (.cells (rcA r.lsn r.prev r.txn r.kind r.page r.next r.num r.op.kind r.op.slot r.op.old r.op.new r.how r.root r.e.key r.e.page r.e.slot (.slice A r.txns.length c) (.slice B r.dirty.length d)) 42)))
  have HR4 := Lib.hid HA4.out.rr
  have HZ4 := Lib.hid (blkOld (blkOld HZ.out hb3) (allocB w3 (.cells (rcA r.lsn r.prev r.txn r.kind r.page r.next r.num r.op.kind r.op.slot r.op.old r.op.new r.how r.root r.e.key r.e.page r.e.slot (.slice A r.txns.length c) (.slice B r.dirty.length d)) 42)))
  have HB4 := Lib.hid (joinB (joinB HB0.out hb3) (allocB w3 (.cells (rcA r.lsn r.prev r.txn r.kind r.page r.next r.num r.op.kind r.op.slot r.op.old r.op.new r.how r.root r.e.key r.e.page r.e.slot (.slice A r.txns.length c) (.slice B r.dirty.length d)) 42)))
  obtain ⟨g, hg⟩ : ∃ g, g = w3.heap.size := ⟨_, rfl⟩
  obtain ⟨w4, hw4⟩ : ∃ W, W = w3.alloc (.cells (rcA r.lsn r.prev r.txn r.kind r.page r.next r.num r.op.kind r.op.slot r.op.old r.op.new r.how r.root r.e.key r.e.page r.e.slot (.slice A r.txns.length c) (.slice B r.dirty.length d)) 42) := ⟨_, rfl⟩
  rw [← hg, ← hw4] at HX4
  rw [← hw4] at HA4 HR4 HZ4 HB4
  rw [← hg, ← hw4]
  clear hg hw4 hrn hb3 HZ HB0
  go_wp2_with (first
    | (with_reducible refine listLoad (by kernel_rfl) 42 (.tmp 12) rfl g rfl (rcA r.lsn r.prev r.txn r.kind r.page r.next r.num r.op.kind r.op.slot r.op.old r.op.new r.how r.root r.e.key r.e.page r.e.slot (.slice A r.txns.length c) (.slice B r.dirty.length d)) _ HX4.out _ Tryz.underlying42 (by kernel_rfl) (by kernel_rfl) ?_)
    | (go_at_call 42; (with_reducible refine (HRI.out _ _ _ _ _ HR4.out).mono ?_); rintro e w5 ⟨rfl, hb5⟩; have HX5 := Lib.hid (blkOld HX4.out hb5); have HR5 := Lib.hid (HR4.out.below hb5); have HZ5 := Lib.hid (blkOld HZ4.out hb5); have HB5 := Lib.hid (joinB HB4.out hb5); have HA5 := Lib.hid (HA4.out.below hb5); clear hb5)
    | (with_reducible refine listStore (by kernel_rfl) 42 (.tmp 4) (.tmp 75) rfl w.heap.size (rcA 0 0 0 0 0 0 0 0 0 ⟨#[]⟩ ⟨#[]⟩ 0 0 ⟨#[]⟩ 0 0 (.slice none 0 0) (.slice none 0 0)) _ _ rfl rfl HZ5.out (by kernel_rfl) (by kernel_rfl) (by kernel_rfl) ?_))
  refine bodyPost_ret (v := .tuple #[.agg (rcA 0 0 0 0 0 0 0 0 0 ⟨#[]⟩ ⟨#[]⟩ 0 0 ⟨#[]⟩ 0 0 (.slice none 0 0) (.slice none 0 0)), .int .i64 0, .int .i64 2]) (results_cell3 rfl _ _ rfl (load_whole (setRow_heap _ _ _ _ _ _ HZ5.out) Tryz.underlying42 (by kernel_rfl) (by kernel_rfl)) rfl rfl) rfl ?_
  exact get_none HN.out (below_row HB5.out _) 2 (by omega)
set_option maxRecDepth 100000 in
set_option maxHeartbeats 4000000 in
theorem refget_other (s : ByteArray) (a n q : Nat) (hm : s.size ≤ 1000000) (hn : Oct.getN s.data.toList a 4 = n) (hq : Oct.getN s.data.toList (a + 4) 4 = q) (hx : a + 8 + n ≤ s.size) (hs : q = Oct.sumN (Lg.bodyAt s.data.toList a)) (hr : Rc.rightB (Rc.readM false (Lg.bodyAt s.data.toList a)) = true) (ho : Rc.bodyB (Rc.readM false (Lg.bodyAt s.data.toList a)) ≠ Lg.bodyAt s.data.toList a) (w : World) :
    Calls Tryz.prog 35 #[.string s, .int .i64 (a : Int)] w (GetOut (Lg.getO s.data.toList a) w) := by
  have HN := Lib.hid (Lg.getO_otherF (s := s.data.toList) (a := a) ho)
  have h1 : ¬ (a : Int) < 0 := by omega
  have h2 : ¬ (s.size : Int) < (a : Int) := by omega
  obtain ⟨b, hb⟩ : ∃ b : Nat, b = a + 4 := ⟨_, rfl⟩
  have hw : IntKind.i64.wrap ((a : Int) + 4) = (b : Int) := by rw [hb, Int.natCast_add]; exact IntWalk.i64_in _ (by omega)
  have HG1 := Lib.hid (fun W => rget4_yes s a n hm (by omega) hn W)
  have HG2 := Lib.hid (fun W => rget4_yes s b q hm (by omega) (by rw [hb]; exact hq) W)
  have hw1 : IntKind.i64.wrap ((s.size : Int) - (a : Int)) = (s.size : Int) - (a : Int) := IntWalk.i64_in _ (by omega)
  have hw2 : IntKind.i64.wrap ((s.size : Int) - (a : Int) - 8) = (s.size : Int) - (a : Int) - 8 := IntWalk.i64_in _ (by omega)
  have h3 : ¬ (s.size : Int) - (a : Int) - 8 < (n : Int) := by omega
  obtain ⟨c8, hc8⟩ : ∃ c : Nat, c = a + 8 := ⟨_, rfl⟩
  have hw3 : IntKind.i64.wrap ((a : Int) + 8) = (c8 : Int) := by rw [hc8, Int.natCast_add]; exact IntWalk.i64_in _ (by omega)
  obtain ⟨cn, hcn⟩ : ∃ c : Nat, c = a + 8 + n := ⟨_, rfl⟩
  have hw4 : IntKind.i64.wrap ((c8 : Int) + (n : Int)) = (cn : Int) := by rw [hcn, hc8, ← Int.natCast_add]; exact IntWalk.i64_in _ (by omega)
  have h5 : c8 ≤ cn := by omega
  have h6 : cn ≤ s.size := by omega
  have h5i : (c8 : Int) ≤ (cn : Int) := by omega
  have h6i : (cn : Int) ≤ (s.size : Int) := by omega
  obtain ⟨y, hy⟩ : ∃ y, y = s.extract c8 cn := ⟨_, rfl⟩
  have hyl : y.data.toList = Lg.bodyAt s.data.toList a := by
    rw [hy, hcn, hc8, extract_list]; unfold Lg.bodyAt; rw [hn]
  have hys : y.size = n := by rw [hy, ByteArray.size_extract]; omega
  have HSM := Lib.hid (fun W => rsum_any y (by omega) W)
  rw [hyl] at HSM
  have HRD := Lib.hid (fun W => iread_any y (by omega) W)
  rw [hyl] at HRD
  have HYL := Lib.hid hyl
  have HZ := Lib.hid (heap_alloc_new w (.cells (rcA 0 0 0 0 0 0 0 0 0 ⟨#[]⟩ ⟨#[]⟩ 0 0 ⟨#[]⟩ 0 0 (.slice none 0 0) (.slice none 0 0)) 42))
  have HRI := Lib.hid (fun A B c d W (h : RecR W (Rc.readM false (Lg.bodyAt s.data.toList a)) A c B d) => rright_any _ A B c d W h)
  have HBO := Lib.hid (fun A B c d W (h : RecR W (Rc.readM false (Lg.bodyAt s.data.toList a)) A c B d) => rbody_any _ (Rc.rightB_iff.1 hr) A B c d W h)
  rw [hr] at HRI
  obtain ⟨yb, hyb⟩ : ∃ yb : ByteArray, yb = Rc.mk (Rc.bodyB (Rc.readM false (Lg.bodyAt s.data.toList a))) := ⟨_, rfl⟩
  have hYB : yb ≠ y := fun e => ho (by
    have h := congrArg (fun b : ByteArray => b.data.toList) (hyb.symm.trans e)
    simp only [hyl, Rc.mk_list] at h
    exact h)
  rw [← hyb] at HBO
  have hne := str_neq hYB
  have hne2 : (yb.toList == y.toList) = false := by simpa using hne
  have hne3 : ¬ yb.toList = y.toList := by simpa using hne
  clear hr ho hyb hYB hcn
  generalize Lg.bodyAt s.data.toList a = M at *
  generalize Oct.sumN M = S at *
  generalize Rc.readM false M = r at *
  subst hs
  have hs1 : ((q : Int) == (q : Int)) = true := by simp
  have hs2 : ((q : Int) != (q : Int)) = false := by simp
  clear hb hc8 hyl hys hn hq HYL
  dsimp only [recV, recA] at HRI HBO
  go_enter Tryz.func35, Tryz.ntmps35
  go_upto_region 8 with (first
    | (go_at_call 61; (with_reducible refine (HG1.out _).mono ?_); rintro e w1 ⟨rfl, rfl⟩)
    | (go_at_call 61; (with_reducible refine (HG2.out _).mono ?_); rintro e w1 ⟨rfl, rfl⟩))
  rw [← hy]
  clear hy
  go_upto_region 10 with (go_at_call 45; (with_reducible refine (HSM.out _).mono ?_); rintro e w1 ⟨rfl, rfl⟩)
  obtain ⟨W0, hW0⟩ : ∃ W, W = w.alloc (.cells (rcA 0 0 0 0 0 0 0 0 0 ⟨#[]⟩ ⟨#[]⟩ 0 0 ⟨#[]⟩ 0 0 (.slice none 0 0) (.slice none 0 0)) 42) := ⟨_, rfl⟩
  have HB0 := Lib.hid (show Below w.heap.size w W0 from by rw [hW0]; exact allocB _ _)
  rw [← hW0] at HZ
  rw [← hW0]
  have hs0 := Lib.hid (show W0.heap.size = w.heap.size + 1 by rw [hW0]; simp)
  clear hW0
  go_upto_region 11 with (first
    | (go_at_call 62; (with_reducible refine (HRD.out _).mono ?_); rintro e w3 ⟨A, c, B, d, rfl, hrn, hb3⟩; (try dsimp only [recV, recA]))
    | (with_reducible refine wpList_store_new rfl 42 (.tmp 12) (.tmp 65) rfl (rcA r.lsn r.prev r.txn r.kind r.page r.next r.num r.op.kind r.op.slot r.op.old r.op.new r.how r.root r.e.key r.e.page r.e.slot (.slice A r.txns.length c) (.slice B r.dirty.length d)) _ _ rfl (by kernel_rfl) (by kernel_rfl) (by kernel_rfl) (by kernel_rfl) ?_))
  have HX4 := Lib.hid (heap_alloc_new w3 (.cells (rcA r.lsn r.prev r.txn r.kind r.page r.next r.num r.op.kind r.op.slot r.op.old r.op.new r.how r.root r.e.key r.e.page r.e.slot (.slice A r.txns.length c) (.slice B r.dirty.length d)) 42))
  have HA4 := Lib.hid (hrn.below (allocB w3 (.cells (rcA r.lsn r.prev r.txn r.kind r.page r.next r.num r.op.kind r.op.slot r.op.old r.op.new r.how r.root r.e.key r.e.page r.e.slot (.slice A r.txns.length c) (.slice B r.dirty.length d)) 42)))
  have HR4 := Lib.hid HA4.out.rr
  have HZ4 := Lib.hid (blkOld (blkOld HZ.out hb3) (allocB w3 (.cells (rcA r.lsn r.prev r.txn r.kind r.page r.next r.num r.op.kind r.op.slot r.op.old r.op.new r.how r.root r.e.key r.e.page r.e.slot (.slice A r.txns.length c) (.slice B r.dirty.length d)) 42)))
  have HB4 := Lib.hid (joinB (joinB HB0.out hb3) (allocB w3 (.cells (rcA r.lsn r.prev r.txn r.kind r.page r.next r.num r.op.kind r.op.slot r.op.old r.op.new r.how r.root r.e.key r.e.page r.e.slot (.slice A r.txns.length c) (.slice B r.dirty.length d)) 42)))
  obtain ⟨g, hg⟩ : ∃ g, g = w3.heap.size := ⟨_, rfl⟩
  obtain ⟨w4, hw4⟩ : ∃ W, W = w3.alloc (.cells (rcA r.lsn r.prev r.txn r.kind r.page r.next r.num r.op.kind r.op.slot r.op.old r.op.new r.how r.root r.e.key r.e.page r.e.slot (.slice A r.txns.length c) (.slice B r.dirty.length d)) 42) := ⟨_, rfl⟩
  rw [← hg, ← hw4] at HX4
  rw [← hw4] at HA4 HR4 HZ4 HB4
  rw [← hg, ← hw4]
  clear hg hw4 hrn hb3 HZ HB0
  go_wp2_with (first
    | (with_reducible refine listLoad (by kernel_rfl) 42 (.tmp 12) rfl g rfl (rcA r.lsn r.prev r.txn r.kind r.page r.next r.num r.op.kind r.op.slot r.op.old r.op.new r.how r.root r.e.key r.e.page r.e.slot (.slice A r.txns.length c) (.slice B r.dirty.length d)) _ HX4.out _ Tryz.underlying42 (by kernel_rfl) (by kernel_rfl) ?_)
    | (go_at_call 42; (with_reducible refine (HRI.out _ _ _ _ _ HR4.out).mono ?_); rintro e w5 ⟨rfl, hb5⟩; have HX5 := Lib.hid (blkOld HX4.out hb5); have HR5 := Lib.hid (HR4.out.below hb5); have HZ5 := Lib.hid (blkOld HZ4.out hb5); have HB5 := Lib.hid (joinB HB4.out hb5); have HA5 := Lib.hid (HA4.out.below hb5); clear hb5)
    | (with_reducible refine listLoad (by kernel_rfl) 42 (.tmp 12) rfl g rfl (rcA r.lsn r.prev r.txn r.kind r.page r.next r.num r.op.kind r.op.slot r.op.old r.op.new r.how r.root r.e.key r.e.page r.e.slot (.slice A r.txns.length c) (.slice B r.dirty.length d)) _ HX5.out _ Tryz.underlying42 (by kernel_rfl) (by kernel_rfl) ?_)
    | (go_at_call 43; (with_reducible refine (HBO.out _ _ _ _ _ HR5.out).mono ?_); rintro e w6 ⟨rfl, hb6⟩; have HX6 := Lib.hid (blkOld HX5.out hb6); have HZ6 := Lib.hid (blkOld HZ5.out hb6); have HB6 := Lib.hid (joinB HB5.out hb6); have HA6 := Lib.hid (HA5.out.below hb6); clear hb6)
    | (with_reducible refine listStore (by kernel_rfl) 42 (.tmp 4) (.tmp 75) rfl w.heap.size (rcA 0 0 0 0 0 0 0 0 0 ⟨#[]⟩ ⟨#[]⟩ 0 0 ⟨#[]⟩ 0 0 (.slice none 0 0) (.slice none 0 0)) _ _ rfl rfl HZ6.out (by kernel_rfl) (by kernel_rfl) (by kernel_rfl) ?_))
  refine bodyPost_ret (v := .tuple #[.agg (rcA 0 0 0 0 0 0 0 0 0 ⟨#[]⟩ ⟨#[]⟩ 0 0 ⟨#[]⟩ 0 0 (.slice none 0 0) (.slice none 0 0)), .int .i64 0, .int .i64 2]) (results_cell3 rfl _ _ rfl (load_whole (setRow_heap _ _ _ _ _ _ HZ6.out) Tryz.underlying42 (by kernel_rfl) (by kernel_rfl)) rfl rfl) rfl ?_
  exact get_none HN.out (below_row HB6.out _) 2 (by omega)
set_option maxRecDepth 100000 in
set_option maxHeartbeats 4000000 in
theorem refget_ok (s : ByteArray) (a n q : Nat) (hm : s.size ≤ 1000000) (hn : Oct.getN s.data.toList a 4 = n) (hq : Oct.getN s.data.toList (a + 4) 4 = q) (hx : a + 8 + n ≤ s.size) (hs : q = Oct.sumN (Lg.bodyAt s.data.toList a)) (hr : Rc.rightB (Rc.readM false (Lg.bodyAt s.data.toList a)) = true) (ho : Rc.bodyB (Rc.readM false (Lg.bodyAt s.data.toList a)) = Lg.bodyAt s.data.toList a) (w : World) :
    Calls Tryz.prog 35 #[.string s, .int .i64 (a : Int)] w (GetOut (Lg.getO s.data.toList a) w) := by
  have HYES := Lib.hid (Lg.getO_yesF (s := s.data.toList) (a := a) (by rw [hn]; have : s.data.toList.length = s.size := (by simp); omega) (by rw [hq]; exact hs) (Rc.rightB_iff.1 hr) ho)
  rw [hn] at HYES
  have h1 : ¬ (a : Int) < 0 := by omega
  have h2 : ¬ (s.size : Int) < (a : Int) := by omega
  obtain ⟨b, hb⟩ : ∃ b : Nat, b = a + 4 := ⟨_, rfl⟩
  have hw : IntKind.i64.wrap ((a : Int) + 4) = (b : Int) := by rw [hb, Int.natCast_add]; exact IntWalk.i64_in _ (by omega)
  have HG1 := Lib.hid (fun W => rget4_yes s a n hm (by omega) hn W)
  have HG2 := Lib.hid (fun W => rget4_yes s b q hm (by omega) (by rw [hb]; exact hq) W)
  have hw1 : IntKind.i64.wrap ((s.size : Int) - (a : Int)) = (s.size : Int) - (a : Int) := IntWalk.i64_in _ (by omega)
  have hw2 : IntKind.i64.wrap ((s.size : Int) - (a : Int) - 8) = (s.size : Int) - (a : Int) - 8 := IntWalk.i64_in _ (by omega)
  have h3 : ¬ (s.size : Int) - (a : Int) - 8 < (n : Int) := by omega
  obtain ⟨c8, hc8⟩ : ∃ c : Nat, c = a + 8 := ⟨_, rfl⟩
  have hw3 : IntKind.i64.wrap ((a : Int) + 8) = (c8 : Int) := by rw [hc8, Int.natCast_add]; exact IntWalk.i64_in _ (by omega)
  obtain ⟨cn, hcn⟩ : ∃ c : Nat, c = a + 8 + n := ⟨_, rfl⟩
  have hw4 : IntKind.i64.wrap ((c8 : Int) + (n : Int)) = (cn : Int) := by rw [hcn, hc8, ← Int.natCast_add]; exact IntWalk.i64_in _ (by omega)
  have h5 : c8 ≤ cn := by omega
  have h6 : cn ≤ s.size := by omega
  have h5i : (c8 : Int) ≤ (cn : Int) := by omega
  have h6i : (cn : Int) ≤ (s.size : Int) := by omega
  obtain ⟨y, hy⟩ : ∃ y, y = s.extract c8 cn := ⟨_, rfl⟩
  have hyl : y.data.toList = Lg.bodyAt s.data.toList a := by
    rw [hy, hcn, hc8, extract_list]; unfold Lg.bodyAt; rw [hn]
  have hys : y.size = n := by rw [hy, ByteArray.size_extract]; omega
  have HSM := Lib.hid (fun W => rsum_any y (by omega) W)
  rw [hyl] at HSM
  have HRD := Lib.hid (fun W => iread_any y (by omega) W)
  rw [hyl] at HRD
  have HYL := Lib.hid hyl
  have HZ := Lib.hid (heap_alloc_new w (.cells (rcA 0 0 0 0 0 0 0 0 0 ⟨#[]⟩ ⟨#[]⟩ 0 0 ⟨#[]⟩ 0 0 (.slice none 0 0) (.slice none 0 0)) 42))
  have HRI := Lib.hid (fun A B c d W (h : RecR W (Rc.readM false (Lg.bodyAt s.data.toList a)) A c B d) => rright_any _ A B c d W h)
  have HBO := Lib.hid (fun A B c d W (h : RecR W (Rc.readM false (Lg.bodyAt s.data.toList a)) A c B d) => rbody_any _ (Rc.rightB_iff.1 hr) A B c d W h)
  rw [hr] at HRI
  have hyb : Rc.mk (Rc.bodyB (Rc.readM false (Lg.bodyAt s.data.toList a))) = y := by
    rw [ho, ← hyl]; rfl
  rw [hyb] at HBO
  have hself : (y.toList != y.toList) = false := by simp
  have HCN := Lib.hid hcn
  clear hr ho hyb hcn
  generalize Lg.bodyAt s.data.toList a = M at *
  generalize Oct.sumN M = S at *
  generalize Rc.readM false M = r at *
  subst hs
  have hs1 : ((q : Int) == (q : Int)) = true := by simp
  have hs2 : ((q : Int) != (q : Int)) = false := by simp
  clear hb hc8 hyl hys hn hq HYL
  dsimp only [recV, recA] at HRI HBO
  go_enter Tryz.func35, Tryz.ntmps35
  go_upto_region 8 with (first
    | (go_at_call 61; (with_reducible refine (HG1.out _).mono ?_); rintro e w1 ⟨rfl, rfl⟩)
    | (go_at_call 61; (with_reducible refine (HG2.out _).mono ?_); rintro e w1 ⟨rfl, rfl⟩))
  rw [← hy]
  clear hy
  go_upto_region 10 with (go_at_call 45; (with_reducible refine (HSM.out _).mono ?_); rintro e w1 ⟨rfl, rfl⟩)
  obtain ⟨W0, hW0⟩ : ∃ W, W = w.alloc (.cells (rcA 0 0 0 0 0 0 0 0 0 ⟨#[]⟩ ⟨#[]⟩ 0 0 ⟨#[]⟩ 0 0 (.slice none 0 0) (.slice none 0 0)) 42) := ⟨_, rfl⟩
  have HB0 := Lib.hid (show Below w.heap.size w W0 from by rw [hW0]; exact allocB _ _)
  rw [← hW0] at HZ
  rw [← hW0]
  have hs0 := Lib.hid (show W0.heap.size = w.heap.size + 1 by rw [hW0]; simp)
  clear hW0
  go_upto_region 11 with (first
    | (go_at_call 62; (with_reducible refine (HRD.out _).mono ?_); rintro e w3 ⟨A, c, B, d, rfl, hrn, hb3⟩; (try dsimp only [recV, recA]))
    | (with_reducible refine wpList_store_new rfl 42 (.tmp 12) (.tmp 65) rfl (rcA r.lsn r.prev r.txn r.kind r.page r.next r.num r.op.kind r.op.slot r.op.old r.op.new r.how r.root r.e.key r.e.page r.e.slot (.slice A r.txns.length c) (.slice B r.dirty.length d)) _ _ rfl (by kernel_rfl) (by kernel_rfl) (by kernel_rfl) (by kernel_rfl) ?_))
  have HX4 := Lib.hid (heap_alloc_new w3 (.cells (rcA r.lsn r.prev r.txn r.kind r.page r.next r.num r.op.kind r.op.slot r.op.old r.op.new r.how r.root r.e.key r.e.page r.e.slot (.slice A r.txns.length c) (.slice B r.dirty.length d)) 42))
  have HA4 := Lib.hid (hrn.below (allocB w3 (.cells (rcA r.lsn r.prev r.txn r.kind r.page r.next r.num r.op.kind r.op.slot r.op.old r.op.new r.how r.root r.e.key r.e.page r.e.slot (.slice A r.txns.length c) (.slice B r.dirty.length d)) 42)))
  have HR4 := Lib.hid HA4.out.rr
  have HZ4 := Lib.hid (blkOld (blkOld HZ.out hb3) (allocB w3 (.cells (rcA r.lsn r.prev r.txn r.kind r.page r.next r.num r.op.kind r.op.slot r.op.old r.op.new r.how r.root r.e.key r.e.page r.e.slot (.slice A r.txns.length c) (.slice B r.dirty.length d)) 42)))
  have HB4 := Lib.hid (joinB (joinB HB0.out hb3) (allocB w3 (.cells (rcA r.lsn r.prev r.txn r.kind r.page r.next r.num r.op.kind r.op.slot r.op.old r.op.new r.how r.root r.e.key r.e.page r.e.slot (.slice A r.txns.length c) (.slice B r.dirty.length d)) 42)))
  obtain ⟨g, hg⟩ : ∃ g, g = w3.heap.size := ⟨_, rfl⟩
  obtain ⟨w4, hw4⟩ : ∃ W, W = w3.alloc (.cells (rcA r.lsn r.prev r.txn r.kind r.page r.next r.num r.op.kind r.op.slot r.op.old r.op.new r.how r.root r.e.key r.e.page r.e.slot (.slice A r.txns.length c) (.slice B r.dirty.length d)) 42) := ⟨_, rfl⟩
  rw [← hg, ← hw4] at HX4
  rw [← hw4] at HA4 HR4 HZ4 HB4
  rw [← hg, ← hw4]
  clear hg hw4 hrn hb3 HZ HB0
  go_wp2_with (first
    | (with_reducible refine listLoad (by kernel_rfl) 42 (.tmp 12) rfl g rfl (rcA r.lsn r.prev r.txn r.kind r.page r.next r.num r.op.kind r.op.slot r.op.old r.op.new r.how r.root r.e.key r.e.page r.e.slot (.slice A r.txns.length c) (.slice B r.dirty.length d)) _ HX4.out _ Tryz.underlying42 (by kernel_rfl) (by kernel_rfl) ?_)
    | (go_at_call 42; (with_reducible refine (HRI.out _ _ _ _ _ HR4.out).mono ?_); rintro e w5 ⟨rfl, hb5⟩; have HX5 := Lib.hid (blkOld HX4.out hb5); have HR5 := Lib.hid (HR4.out.below hb5); have HZ5 := Lib.hid (blkOld HZ4.out hb5); have HB5 := Lib.hid (joinB HB4.out hb5); have HA5 := Lib.hid (HA4.out.below hb5); clear hb5)
    | (with_reducible refine listLoad (by kernel_rfl) 42 (.tmp 12) rfl g rfl (rcA r.lsn r.prev r.txn r.kind r.page r.next r.num r.op.kind r.op.slot r.op.old r.op.new r.how r.root r.e.key r.e.page r.e.slot (.slice A r.txns.length c) (.slice B r.dirty.length d)) _ HX5.out _ Tryz.underlying42 (by kernel_rfl) (by kernel_rfl) ?_)
    | (go_at_call 43; (with_reducible refine (HBO.out _ _ _ _ _ HR5.out).mono ?_); rintro e w6 ⟨rfl, hb6⟩; have HX6 := Lib.hid (blkOld HX5.out hb6); have HZ6 := Lib.hid (blkOld HZ5.out hb6); have HB6 := Lib.hid (joinB HB5.out hb6); have HA6 := Lib.hid (HA5.out.below hb6); clear hb6)
    | (with_reducible refine listLoad (by kernel_rfl) 42 (.tmp 12) rfl g rfl (rcA r.lsn r.prev r.txn r.kind r.page r.next r.num r.op.kind r.op.slot r.op.old r.op.new r.how r.root r.e.key r.e.page r.e.slot (.slice A r.txns.length c) (.slice B r.dirty.length d)) _ HX6.out _ Tryz.underlying42 (by kernel_rfl) (by kernel_rfl) ?_)
    | (with_reducible refine listStore (by kernel_rfl) 42 (.tmp 4) (.tmp 76) rfl w.heap.size (rcA r.lsn r.prev r.txn r.kind r.page r.next r.num r.op.kind r.op.slot r.op.old r.op.new r.how r.root r.e.key r.e.page r.e.slot (.slice A r.txns.length c) (.slice B r.dirty.length d)) _ _ rfl rfl HZ6.out (by kernel_rfl) (by kernel_rfl) (by kernel_rfl) ?_))
  refine bodyPost_ret (v := .tuple #[.agg (rcA r.lsn r.prev r.txn r.kind r.page r.next r.num r.op.kind r.op.slot r.op.old r.op.new r.how r.root r.e.key r.e.page r.e.slot (.slice A r.txns.length c) (.slice B r.dirty.length d)), .int .i64 (cn : Int), .int .i64 0]) (results_cell3 rfl _ _ rfl (load_whole (setRow_heap _ _ _ _ _ _ HZ6.out) Tryz.underlying42 (by kernel_rfl) (by kernel_rfl)) rfl rfl) rfl ?_
  rw [HYES.out]
  refine ⟨below_row HB6.out _, A, c, B, d, ?_, ((HA6.out.row w.heap.size _ (by have := hs0.out; omega)).mono (by have := hs0.out; omega))⟩
  rw [← HCN.out]
theorem refget_any (s : ByteArray) (a : Int) (hm : s.size ≤ 1000000) (w : World) :
    Calls Tryz.prog 35 #[.string s, .int .i64 a] w (GetOut (if 0 ≤ a then Lg.getO s.data.toList a.toNat else none) w) := by
  have hl : s.data.toList.length = s.size := by simp
  by_cases h0 : 0 ≤ a
  · rw [if_pos h0]
    obtain ⟨k, rfl⟩ := Int.eq_ofNat_of_zero_le h0
    rw [Int.toNat_natCast]
    by_cases h1 : k ≤ s.size
    · by_cases h4 : s.size < k + 4
      · exact refget_short4 s k hm h1 h4 _ (Lg.getO_short (by omega)) w
      by_cases h8 : s.size < k + 8
      · exact refget_short8 s k hm h1 _ (by omega) rfl h8 _ (Lg.getO_short (by omega)) w
      by_cases hn : s.size < k + 8 + Oct.getN s.data.toList k 4
      · exact refget_shortn s k hm h1 _ (by omega) rfl hn _ (Lg.getO_short (by omega)) w
      by_cases hs : Oct.getN s.data.toList (k + 4) 4 = Oct.sumN (Lg.bodyAt s.data.toList k)
      · cases hr : Rc.rightB (Rc.readM false (Lg.bodyAt s.data.toList k)) with
        | false => exact refget_wrong s k _ _ hm rfl rfl (by omega) hs hr w
        | true =>
          by_cases ho : Rc.bodyB (Rc.readM false (Lg.bodyAt s.data.toList k)) = Lg.bodyAt s.data.toList k
          · exact refget_ok s k _ _ hm rfl rfl (by omega) hs hr ho w
          · exact refget_other s k _ _ hm rfl rfl (by omega) hs hr ho w
      · exact refget_sum s k _ _ hm rfl rfl (by omega) hs w
    · exact refget_far s _ (.inr (by omega)) _ (Lg.getO_short (by omega)) w
  · rw [if_neg h0]
    exact refget_far s _ (.inl (by omega)) _ rfl w
end Go.Proofs.YtojaagnfjenhoaaGreat
