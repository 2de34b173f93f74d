/- The walk over package rec: a reader's record, of a checkpoint. -/
import Derived.Test.YtojaagnfjenhoaaHo05
import Derived.Test.YtojaagnfjenhoaaHo04
import Derived.Test.YtojaagnfjenhoaaHo02
import Derived.BigRegion
namespace Go.Proofs.Ytojaagnfjenhoaa
open Go.RowKit
set_option maxRecDepth 100000 in
set_option maxHeartbeats 2000000 in
theorem record_check (b : Nat) (s : ByteArray) (hm : s.size ≤ 1000000) (s1 : Rc.St) (h0 : Rc.numM true s.data.toList ⟨0, false⟩ 1 = (9, s1)) (w : World) (hb : w.heap[b]? = some (.cells (rdC s 0 false) 89 (0, 0))) :
    Calls Try.prog 36 #[.pointer (some ⟨b, 0, none⟩)] w (RecOut (Rc.readM true s.data.toList) b w) := by
  have hl : s.data.toList.length = s.size := by simp
  have a1 : s1.at_ ≤ 1 := Rc.numM_le h0
  have C0 := Lib.hid (fun X f F u (hu : Rd w b s ⟨0, false⟩ X f F u) => hu.num1 h0 hm (by show 0 ≤ _; omega))
  rcases h1 : Rc.numM true s.data.toList s1 6 with ⟨lsn, s2⟩
  have a2 : s2.at_ ≤ s1.at_ + 6 := Rc.numM_le h1
  have C1 := Lib.hid (fun X f F u (hu : Rd w b s s1 X f F u) => hu.num6 h1 hm (by omega))
  rcases h2 : Rc.numM true s.data.toList s2 6 with ⟨prev, s3⟩
  have a3 : s3.at_ ≤ s2.at_ + 6 := Rc.numM_le h2
  have C2 := Lib.hid (fun X f F u (hu : Rd w b s s2 X f F u) => hu.num6 h2 hm (by omega))
  rcases h3 : Rc.numM true s.data.toList s3 6 with ⟨txn, s4⟩
  have a4 : s4.at_ ≤ s3.at_ + 6 := Rc.numM_le h3
  have C3 := Lib.hid (fun X f F u (hu : Rd w b s s3 X f F u) => hu.num6 h3 hm (by omega))
  rcases h4 : Rc.numM true s.data.toList s4 6 with ⟨nu, s5⟩
  have a5 : s5.at_ ≤ s4.at_ + 6 := Rc.numM_le h4
  have C4 := Lib.hid (fun X f F u (hu : Rd w b s s4 X f F u) => hu.num6 h4 hm (by omega))
  rcases h5 : Rc.numM true s.data.toList s5 2 with ⟨n1, s6⟩
  have a6 : s6.at_ ≤ s5.at_ + 2 := Rc.numM_le h5
  have C5 := Lib.hid (fun X f F u (hu : Rd w b s s5 X f F u) => hu.num2 h5 hm (by omega))
  have e0 : Rc.headM true s.data.toList = (Rc.bare 9 lsn prev txn, s4) := by
    unfold Rc.headM; simp only [h0, h1, h2, h3]
  have p5 := Rc.numM_nat h5
  obtain ⟨m1, rfl⟩ := Int.eq_ofNat_of_zero_le p5.1
  have hm1 : m1 ≤ 65535 := by have := p5.2; omega
  have a5b : s6.bad = false → s6.at_ ≤ s.data.toList.length := fun hb => (Rc.numM_in h5 hb).1
  rcases hT : Rc.manyM (Rc.txnM true s.data.toList) m1 s6 with ⟨TS, sT⟩
  have bT := Rc.many_le (one := Rc.txnM true s.data.toList) (l := s.data.toList) (fun st h => Rc.txn_step h) m1 s6 a5b (by omega)
  have hR0 : Rc.Rest (Rc.txnM true s.data.toList) s.data.toList.length TS sT [] m1 s6 := ⟨by rw [hT]; rfl, by rw [hT], a5b, by omega⟩
  rw [hT] at bT
  have bT2 : sT.at_ ≤ s.data.toList.length + 400 := bT.2.1
  rcases h6 : Rc.numM true s.data.toList sT 2 with ⟨n2, s7⟩
  have a7 : s7.at_ ≤ sT.at_ + 2 := Rc.numM_le h6
  have C6 := Lib.hid (fun X f F u (hu : Rd w b s sT X f F u) => hu.numK2 h6 hm (by omega))
  have p6 := Rc.numM_nat h6
  obtain ⟨m2, rfl⟩ := Int.eq_ofNat_of_zero_le p6.1
  have hm2 : m2 ≤ 65535 := by have := p6.2; omega
  have a7b : s7.bad = false → s7.at_ ≤ s.data.toList.length := fun hb => (Rc.numM_in h6 hb).1
  rcases hD : Rc.manyM (Rc.dirtyM true s.data.toList) m2 s7 with ⟨DS, sD⟩
  have hR1 : Rc.Rest (Rc.dirtyM true s.data.toList) s.data.toList.length DS sD [] m2 s7 := ⟨by rw [hD]; rfl, by rw [hD], a7b, by omega⟩
  have hTS : TS.length ≤ 65535 := by have := bT.2.2; simp only at this; omega
  have hDS : DS.length ≤ 65535 := by
    have bD : (Rc.manyM (Rc.dirtyM true s.data.toList) m2 s7).1.length ≤ m2 := by
      cases hq : s7.bad with
      | true => rw [Rc.many_bad hq]; exact Nat.zero_le _
      | false => exact (Rc.many_le (one := Rc.dirtyM true s.data.toList) (l := s.data.toList) (fun st h => Rc.dirty_step h) m2 s7 a7b (by have := a7b hq; omega)).2.2
    rw [hD] at bD
    simp only at bD
    omega
  have RD : Rc.readM true s.data.toList = ⟨lsn, prev, txn, 9, 0, 0, nu, Rc.noOp, 0, 0, Rc.noKey, TS, DS⟩ := by
    unfold Rc.readM
    rw [e0]
    show Rc.restM true _ (Rc.bare 9 lsn prev txn) s4 = _
    rw [Rc.restM_9 rfl]
    unfold Rc.listsM
    simp only [h4, h5, Int.toNat_natCast, hT, h6, hD]
    rfl
  have HR0 := Lib.hid hR0
  have HR1 := Lib.hid hR1
  clear hT bT p5 p6 hD a5b a7b h6 a7 hR0 hR1
  have HOF := Lib.hid (fun W => of_any 9 W)
  rw [show ofV 9 = .tuple #[formV false false false true true, .bool true] from rfl] at HOF
  have RDH := Lib.hid RD
  clear RD
  have HX := Lib.hid (rd_new (st := ⟨0, false⟩) hb)
  clear hb e0 h0 a1 h1 a2 h2 a3 h3 a4 h4 a5 h5 a6
  go_enter Try.func36, Try.ntmps36
  go_upto_region 2 with fail
  obtain ⟨W0, hW0⟩ : ∃ W, W = (w.alloc (.cells #[.int .i64 0, .int .i64 0, .int .i64 0, .int .i64 0, .int .i64 0, .int .i64 0, .int .i64 0, .int .i64 0, .int .i64 0, .string ⟨#[]⟩, .string ⟨#[]⟩, .int .i64 0, .int .i64 0, .string ⟨#[]⟩, .int .i64 0, .int .i64 0, .slice none 0 0, .slice none 0 0] 49)).alloc (.cells #[.int .i64 0, .int .i64 0, .int .i64 0, .int .i64 0, .int .i64 0, .int .i64 0, .int .i64 0, .int .i64 0, .int .i64 0, .string ⟨#[]⟩, .string ⟨#[]⟩, .int .i64 0, .int .i64 0, .string ⟨#[]⟩, .int .i64 0, .int .i64 0, .slice none 0 0, .slice none 0 0] 49) := ⟨_, rfl⟩
  rw [← hW0] at HX ⊢
  clear hW0
  go_upto_region 3 with (first | (go_at_call 55; (with_reducible refine (C0.out _ _ _ _ HX.out).mono ?_); rintro e w1 ⟨rfl, hS1⟩; have hz1 := blkFrozen hS1.bx; have hy1 := blkCell hS1.bx))
  obtain ⟨U1, hU1⟩ : ∃ W, W = (w1.setCell ⟨w.heap.size + 1, 3, none⟩ (.int .i64 9)) := ⟨_, rfl⟩
  have H1 : Hid (Rd w b s s1 #[.int .i64 0, .int .i64 0, .int .i64 0, .int .i64 9, .int .i64 0, .int .i64 0, .int .i64 0, .int .i64 0, .int .i64 0, .string ⟨#[]⟩, .string ⟨#[]⟩, .int .i64 0, .int .i64 0, .string ⟨#[]⟩, .int .i64 0, .int .i64 0, .slice none 0 0, .slice none 0 0] w.heap.size #[] (w1.setCell ⟨w.heap.size + 1, 3, none⟩ (.int .i64 9))) := Lib.hid (by have h := (hS1.set 3 (.int .i64 9)); first | exact h | simpa using h)
  rw [← hU1] at H1 ⊢
  clear hU1 hS1 hz1 hy1 HX
  have hcx := blkCell H1.out.bx
  go_upto_region 4 with (go_at_call 56; (with_reducible refine (HOF.out _).mono ?_); rintro e w9 ⟨rfl, hb9⟩)
  have HF := Lib.hid ((H1.out.step hb9).formed #[.bool false, .bool false, .bool false, .bool true, .bool true])
  have hf : w.heap.size + 1 < w9.heap.size := by have h1 := H1.out.size; have h2 := hb9.size; omega
  obtain ⟨f, hfe⟩ : ∃ f, f = w9.heap.size := ⟨_, rfl⟩
  rw [← hfe] at HF hf ⊢
  obtain ⟨WF, hWF⟩ : ∃ W, W = w9.alloc (.cells #[.bool false, .bool false, .bool false, .bool true, .bool true] 113) := ⟨_, rfl⟩
  rw [← hWF] at HF ⊢
  clear hWF hfe hb9 hcx H1
  have hF := blkCell (HF.out.form (by omega))
  go_upto_region 5 with (first | (go_at_call 55; (with_reducible refine (C1.out _ _ _ _ HF.out).mono ?_); rintro e w2 ⟨rfl, hS2⟩; have hz2 := blkFrozen hS2.bx; have hy2 := blkCell hS2.bx) | (go_at_call 55; (with_reducible refine (C2.out _ _ _ _ hS2).mono ?_); rintro e w3 ⟨rfl, hS3⟩; have hz3 := blkFrozen hS3.bx; have hy3 := blkCell hS3.bx) | (go_at_call 55; (with_reducible refine (C3.out _ _ _ _ hS3).mono ?_); rintro e w4 ⟨rfl, hS4⟩; have hz4 := blkFrozen hS4.bx; have hy4 := blkCell hS4.bx))
  obtain ⟨U4, hU4⟩ : ∃ W, W = (((w4.setCell ⟨w.heap.size + 1, 0, none⟩ (.int .i64 lsn)).setCell ⟨w.heap.size + 1, 1, none⟩ (.int .i64 prev)).setCell ⟨w.heap.size + 1, 2, none⟩ (.int .i64 txn)) := ⟨_, rfl⟩
  have H4 : Hid (Rd w b s s4 #[.int .i64 lsn, .int .i64 prev, .int .i64 txn, .int .i64 9, .int .i64 0, .int .i64 0, .int .i64 0, .int .i64 0, .int .i64 0, .string ⟨#[]⟩, .string ⟨#[]⟩, .int .i64 0, .int .i64 0, .string ⟨#[]⟩, .int .i64 0, .int .i64 0, .slice none 0 0, .slice none 0 0] f #[.bool false, .bool false, .bool false, .bool true, .bool true] (((w4.setCell ⟨w.heap.size + 1, 0, none⟩ (.int .i64 lsn)).setCell ⟨w.heap.size + 1, 1, none⟩ (.int .i64 prev)).setCell ⟨w.heap.size + 1, 2, none⟩ (.int .i64 txn))) := Lib.hid (by have h := (((hS4.set 0 (.int .i64 lsn)).set 1 (.int .i64 prev)).set 2 (.int .i64 txn)); first | exact h | simpa using h)
  rw [← hU4] at H4 ⊢
  clear hU4 hS4 hz4 hy4 hS3 hz3 hy3 hS2 hz2 hy2 HF hF
  have hF := blkCell (H4.out.form (by omega))
  go_upto_region 18 with (first | (go_at_call 55; (with_reducible refine (C4.out _ _ _ _ H4.out).mono ?_); rintro e w5 ⟨rfl, hS5⟩; have hz5 := blkFrozen hS5.bx; have hy5 := blkCell hS5.bx))
  obtain ⟨U5, hU5⟩ : ∃ W, W = (w5.setCell ⟨w.heap.size + 1, 6, none⟩ (.int .i64 nu)) := ⟨_, rfl⟩
  have H5 : Hid (Rd w b s s5 #[.int .i64 lsn, .int .i64 prev, .int .i64 txn, .int .i64 9, .int .i64 0, .int .i64 0, .int .i64 nu, .int .i64 0, .int .i64 0, .string ⟨#[]⟩, .string ⟨#[]⟩, .int .i64 0, .int .i64 0, .string ⟨#[]⟩, .int .i64 0, .int .i64 0, .slice none 0 0, .slice none 0 0] f #[.bool false, .bool false, .bool false, .bool true, .bool true] (w5.setCell ⟨w.heap.size + 1, 6, none⟩ (.int .i64 nu))) := Lib.hid (by have h := (hS5.set 6 (.int .i64 nu)); first | exact h | simpa using h)
  rw [← hU5] at H5 ⊢
  clear hU5 hS5 hz5 hy5 H4 hF
  go_upto_block 0 with (go_at_call 55; (with_reducible refine (C5.out _ _ _ _ H5.out).mono ?_); rintro e w8 ⟨rfl, hS8⟩)
  have HS8 := Lib.hid hS8
  clear hS8 H5 
  go_cut [] (fun wc => ∃ v, Rd w b s sT #[.int .i64 lsn, .int .i64 prev, .int .i64 txn, .int .i64 9, .int .i64 0, .int .i64 0, .int .i64 nu, .int .i64 0, .int .i64 0, .string ⟨#[]⟩, .string ⟨#[]⟩, .int .i64 0, .int .i64 0, .string ⟨#[]⟩, .int .i64 0, .int .i64 0, v, .slice none 0 0] f #[.bool false, .bool false, .bool false, .bool true, .bool true] wc ∧ OwnL txC 4 106 (f + 1) wc v TS)
  case first =>
    go_wp2_with fail
    go_loopw [6] (fun i wr => ∃ (m : Nat) (ts : List Rc.TxnAt) (st : Rc.St) (v : Value), i = .int .i64 (m : Int) ∧ ts.length + m ≤ 65535 ∧ Rc.Rest (Rc.txnM true s.data.toList) s.data.toList.length TS sT ts m st ∧ Rd w b s st #[.int .i64 lsn, .int .i64 prev, .int .i64 txn, .int .i64 9, .int .i64 0, .int .i64 0, .int .i64 nu, .int .i64 0, .int .i64 0, .string ⟨#[]⟩, .string ⟨#[]⟩, .int .i64 0, .int .i64 0, .string ⟨#[]⟩, .int .i64 0, .int .i64 0, v, .slice none 0 0] f #[.bool false, .bool false, .bool false, .bool true, .bool true] wr ∧ OwnL txC 4 106 (f + 1) wr v ts) (fun i _ => (intOf i).toNat)
    case atStart => exact ⟨m1, [], s6, .slice none 0 0, rfl, by simp; omega, HR0.out, HS8.out, ownNil _ _ _ _⟩
    case round =>
      obtain ⟨m, ts, st, v, rfl, hlen, hR, hS, hO⟩ := hrel
      have HR := Lib.hid hR
      have HS := Lib.hid hS
      have HO := Lib.hid hO
      clear hR hS hO
      by_cases h0 : m = 0
      · subst h0
        obtain ⟨e1, e2⟩ := HR.out.stop
        subst e1 e2
        go_wp2_with fail
        go_meet
        case rel => exact ⟨v, HS.out, HO.out⟩
      have hm0 : (0 : Int) < (m : Int) := by omega
      have hmN : 0 < m := by omega
      cases hbad : st.bad with
      | true =>
        obtain ⟨e1, e2⟩ := HR.out.bad hbad
        have hcr := blkCell HS.out.rd
        rw [hbad] at hcr
        have HBD := Lib.hid hbad
        subst e1 e2
        clear hbad h0 hmN
        go_wp2_with fail
        go_meet
        case rel => exact ⟨v, HS.out, HO.out⟩
      | false =>
        have hin := HR.out.inn hbad
        have hcr := blkCell HS.out.rd
        rw [hbad] at hcr
        rcases hta : Rc.numM true s.data.toList st 6 with ⟨ta, sta⟩
        have ata : sta.at_ ≤ st.at_ + 6 := Rc.numM_le hta
        have Cta := Lib.hid (fun X f F u (hu : Rd w b s st X f F u) => hu.numK6 hta hm (by omega))
        rcases htb : Rc.numM true s.data.toList sta 6 with ⟨tb, stb⟩
        have atb : stb.at_ ≤ sta.at_ + 6 := Rc.numM_le htb
        have Ctb := Lib.hid (fun X f F u (hu : Rd w b s sta X f F u) => hu.numK6 htb hm (by omega))
        rcases htc : Rc.numM true s.data.toList stb 6 with ⟨tc, stc⟩
        have atc : stc.at_ ≤ stb.at_ + 6 := Rc.numM_le htc
        have Ctc := Lib.hid (fun X f F u (hu : Rd w b s stb X f F u) => hu.numK6 htc hm (by omega))
        rcases htd : Rc.numM true s.data.toList stc 1 with ⟨td, std⟩
        have atd : std.at_ ≤ stc.at_ + 1 := Rc.numM_le htd
        have Ctd := Lib.hid (fun X f F u (hu : Rd w b s stc X f F u) => hu.numK1 htd hm (by omega))
        have hone : Rc.txnM true s.data.toList st = (⟨ta, tb, tc, td == 1⟩, std) := by unfold Rc.txnM; simp only [hta, htb, htc, htd]
        have hst := Rc.txn_step hin
        rw [hone] at hst
        have HN := Lib.hid (HR.out.next hmN hbad hone hst.1 hst.2)
        clear hone hst hbad hin h0 HR hta ata htb atb htc atc htd atd
        obtain ⟨A, c, rfl⟩ := ownLen HO.out
        go_upto_region 21 with fail
        clear hcr
        have HSd := Lib.hid HS.out.drew
        have hO0 := ownBelow HO.out (Below.refl _ wr).drew
        refine wp_region_Z (S := (fun u => u.heap[w.heap.size + 1]? = some (.cells #[.int .i64 lsn, .int .i64 prev, .int .i64 txn, .int .i64 9, .int .i64 0, .int .i64 0, .int .i64 nu, .int .i64 0, .int .i64 0, .string ⟨#[]⟩, .string ⟨#[]⟩, .int .i64 0, .int .i64 0, .string ⟨#[]⟩, .int .i64 0, .int .i64 0, (.slice A ts.length c), .slice none 0 0] 49 (0, 0)))) 15 (by kernel_rfl) ?_ (fun hHeld => ?_)
        · first | exact hSn | exact HSd.out.bx
        refine wpAnyZ_take (i := 0) (oi := { dst := some 86, op := _, type := _, pos := _, after := _, guard := _ }) (v := ?_) (p := [15]) rfl (by kernel_rfl) (by kernel_rfl) (by kernel_rfl) (by kernel_rfl) (by kernel_rfl) (by kernel_rfl) (fun _ _ _ h => h) (Or.inl ⟨by rfl, ?_⟩) (by assumption) ?_
        rotate_left
        · intro u hSu; have hSv := blkCell hSu; clear hSu; go_simp; (try with_reducible rfl)
        try simp only [Act.put, List.setIfInBounds_toArray, List.set_cons_zero, List.set_cons_succ]
        refine wpAnyZ_take (i := 1) (oi := { dst := some 87, op := _, type := _, pos := _, after := _, guard := _ }) (v := ?_) (p := [15]) rfl (by kernel_rfl) (by kernel_rfl) (by kernel_rfl) (by kernel_rfl) (by kernel_rfl) (by kernel_rfl) (fun _ _ _ h => h) (Or.inl ⟨by rfl, ?_⟩) (by assumption) ?_
        rotate_left
        · intro u hSu; have hSv := blkCell hSu; clear hSu; go_simp; (try with_reducible rfl)
        try simp only [Act.put, List.setIfInBounds_toArray, List.set_cons_zero, List.set_cons_succ]
        refine wpAnyZ_take (i := 2) (oi := { dst := some 88, op := _, type := _, pos := _, after := _, guard := _ }) (v := ?_) (p := [15]) rfl (by kernel_rfl) (by kernel_rfl) (by kernel_rfl) (by kernel_rfl) (by kernel_rfl) (by kernel_rfl) (fun _ _ _ h => h) (Or.inl ⟨by rfl, ?_⟩) (by assumption) ?_
        rotate_left
        · intro u hSu; have hSv := blkCell hSu; clear hSu; go_simp; (try with_reducible rfl)
        try simp only [Act.put, List.setIfInBounds_toArray, List.set_cons_zero, List.set_cons_succ]
        refine wpAnyZ_take (i := 4) (oi := { dst := some 90, op := _, type := _, pos := _, after := _, guard := _ }) (v := ?_) (p := [15]) rfl (by kernel_rfl) (by kernel_rfl) (by kernel_rfl) (by kernel_rfl) (by kernel_rfl) (by kernel_rfl) (fun _ _ _ h => h) (Or.inl ⟨by rfl, ?_⟩) (by assumption) ?_
        rotate_left
        · intro u hSu; have hSv := blkCell hSu; clear hSu; go_simp; (try with_reducible rfl)
        try simp only [Act.put, List.setIfInBounds_toArray, List.set_cons_zero, List.set_cons_succ]
        refine wpAnyZ_take (i := 6) (oi := { dst := some 92, op := _, type := _, pos := _, after := _, guard := _ }) (v := ?_) (p := [15]) rfl (by kernel_rfl) (by kernel_rfl) (by kernel_rfl) (by kernel_rfl) (by kernel_rfl) (by kernel_rfl) (fun _ _ _ h => h) (Or.inl ⟨by rfl, ?_⟩) (by assumption) ?_
        rotate_left
        · intro u hSu; have hSv := blkCell hSu; clear hSu; go_simp; (try with_reducible rfl)
        try simp only [Act.put, List.setIfInBounds_toArray, List.set_cons_zero, List.set_cons_succ]
        refine wpAnyZ_take (i := 8) (oi := { dst := some 94, op := _, type := _, pos := _, after := _, guard := _ }) (v := ?_) (p := [15]) rfl (by kernel_rfl) (by kernel_rfl) (by kernel_rfl) (by kernel_rfl) (by kernel_rfl) (by kernel_rfl) (fun _ _ _ h => h) (Or.inl ⟨by rfl, ?_⟩) (by assumption) ?_
        rotate_left
        · intro u hSu; have hSv := blkCell hSu; clear hSu; go_simp; (try with_reducible rfl)
        try simp only [Act.put, List.setIfInBounds_toArray, List.set_cons_zero, List.set_cons_succ]
        refine wpAnyZ_ready (rs := [3]) (by kernel_rfl) (by simp) ?_
        refine AllReadyZ.cons (o := { dst := some 89, op := _, type := _, pos := _, after := _, guard := _ }) rfl (fun K hK => ?_) ?_
        rotate_left
        · exact AllReadyZ.nil
        go_simp
        (with_reducible refine (Cta.out _ _ _ _ HSd.out).mono ?_); rintro e w1 ⟨rfl, hS1, hk1⟩; have hSn := hS1.bx; have hO1 := ownKept hO0 (by have := HS.out.bw; omega) hk1; try go_simp
        refine hK.out _ _ ?_ (fun hHeld => ?_)
        · first | exact hSn | exact HSd.out.bx
        clear hK K
        try simp only [Act.put, List.setIfInBounds_toArray, List.set_cons_zero, List.set_cons_succ]
        refine wpAnyZ_ready (rs := [5]) (by kernel_rfl) (by simp) ?_
        refine AllReadyZ.cons (o := { dst := some 91, op := _, type := _, pos := _, after := _, guard := _ }) rfl (fun K hK => ?_) ?_
        rotate_left
        · exact AllReadyZ.nil
        go_simp
        (with_reducible refine (Ctb.out _ _ _ _ hS1).mono ?_); rintro e w2 ⟨rfl, hS2, hk2⟩; have hSn := hS2.bx; have hO2 := ownKept hO1 (by have := HS.out.bw; omega) hk2; try go_simp
        refine hK.out _ _ ?_ (fun hHeld => ?_)
        · first | exact hSn | exact HSd.out.bx
        clear hK K
        try simp only [Act.put, List.setIfInBounds_toArray, List.set_cons_zero, List.set_cons_succ]
        refine wpAnyZ_ready (rs := [7]) (by kernel_rfl) (by simp) ?_
        refine AllReadyZ.cons (o := { dst := some 93, op := _, type := _, pos := _, after := _, guard := _ }) rfl (fun K hK => ?_) ?_
        rotate_left
        · exact AllReadyZ.nil
        go_simp
        (with_reducible refine (Ctc.out _ _ _ _ hS2).mono ?_); rintro e w3 ⟨rfl, hS3, hk3⟩; have hSn := hS3.bx; have hO3 := ownKept hO2 (by have := HS.out.bw; omega) hk3; try go_simp
        refine hK.out _ _ ?_ (fun hHeld => ?_)
        · first | exact hSn | exact HSd.out.bx
        clear hK K
        try simp only [Act.put, List.setIfInBounds_toArray, List.set_cons_zero, List.set_cons_succ]
        refine wpAnyZ_ready (rs := [9]) (by kernel_rfl) (by simp) ?_
        refine AllReadyZ.cons (o := { dst := some 95, op := _, type := _, pos := _, after := _, guard := _ }) rfl (fun K hK => ?_) ?_
        rotate_left
        · exact AllReadyZ.nil
        go_simp
        (with_reducible refine (Ctd.out _ _ _ _ hS3).mono ?_); rintro e w4 ⟨rfl, hS4, hk4⟩; have hSn := hS4.bx; have hO4 := ownKept hO3 (by have := HS.out.bw; omega) hk4; try go_simp
        refine hK.out _ _ ?_ (fun hHeld => ?_)
        · first | exact hSn | exact HSd.out.bx
        clear hK K
        try simp only [Act.put, List.setIfInBounds_toArray, List.set_cons_zero, List.set_cons_succ]
        refine wpAnyZ_take (i := 10) (oi := { dst := some 96, op := _, type := _, pos := _, after := _, guard := _ }) (v := ?_) (p := [15]) rfl (by kernel_rfl) (by kernel_rfl) (by kernel_rfl) (by kernel_rfl) (by kernel_rfl) (by kernel_rfl) (fun _ _ _ h => h) (Or.inl ⟨by rfl, ?_⟩) (by assumption) ?_
        rotate_left
        · intro u hSu; have hSv := blkCell hSu; clear hSu; go_simp; (try with_reducible rfl)
        try simp only [Act.put, List.setIfInBounds_toArray, List.set_cons_zero, List.set_cons_succ]
        refine wpAnyZ_take (i := 11) (oi := { dst := some 97, op := _, type := _, pos := _, after := _, guard := _ }) (v := ?_) (p := [15]) rfl (by kernel_rfl) (by kernel_rfl) (by kernel_rfl) (by kernel_rfl) (by kernel_rfl) (by kernel_rfl) (fun _ _ _ h => h) (Or.inl ⟨by rfl, ?_⟩) (by assumption) ?_
        rotate_left
        · intro u hSu; have hSv := blkCell hSu; clear hSu; go_simp; (try with_reducible rfl)
        try simp only [Act.put, List.setIfInBounds_toArray, List.set_cons_zero, List.set_cons_succ]
        refine wpAnyZ_ready (rs := [12]) (by kernel_rfl) (by simp) ?_
        refine AllReadyZ.cons (o := { dst := some 98, op := _, type := _, pos := _, after := _, guard := _ }) rfl (fun K hK => ?_) ?_
        rotate_left
        · exact AllReadyZ.nil
        go_simp
        have hS9 := hS4.step (allocB w4 (.cells #[.int .i64 ta, .int .i64 tb, .int .i64 tc, .bool (td == 1)] 106)); have hSn := hS9.bx; have hO9 := ownBelow hO4 (allocB w4 (.cells #[.int .i64 ta, .int .i64 tb, .int .i64 tc, .bool (td == 1)] 106)); have hG := heap_alloc_new w4 (.cells #[.int .i64 ta, .int .i64 tb, .int .i64 tc, .bool (td == 1)] 106)
        refine hK.out _ _ ?_ (fun hHeld => ?_)
        · first | exact hSn | exact HSd.out.bx
        clear hK K
        try simp only [Act.put, List.setIfInBounds_toArray, List.set_cons_zero, List.set_cons_succ]
        refine wpAnyZ_ready (rs := [13]) (by kernel_rfl) (by simp) ?_
        refine AllReadyZ.cons (o := { dst := some 99, op := _, type := _, pos := _, after := _, guard := _ }) rfl (fun K hK => ?_) ?_
        rotate_left
        · exact AllReadyZ.nil
        refine wantedIf (by rfl) ?_
        refine wp_push _ (.tmp 87) (.tmp 98) 46 106 Try.underlying46 info_txn rfl (by omega) (by omega) rfl (f + 1) _ ts.length (ts.flatMap txC) rfl hO9 w4.heap.size (txC ⟨ta, tb, tc, td == 1⟩) 106 rfl hG rfl (by simp [txC, Value.oneCell']) (by omega) (by have h1 := heapLt (hS9.form (by omega)); omega) ?_
        intro v7 w7 ho hg hb
        obtain ⟨A7, c7, rfl⟩ := ownLen ho
        have hS7 := hS9.under hf hb
        have hSn := hS7.bx
        have hcx7 := blkCell hS7.bx
        have hz7 := blkFrozen hS7.bx
        refine hK.out _ _ ?_ (fun hHeld => ?_)
        · first | exact hSn | exact HSd.out.bx
        clear hK K
        try simp only [Act.put, List.setIfInBounds_toArray, List.set_cons_zero, List.set_cons_succ]
        refine wpAnyZ_take (i := 14) (oi := { dst := some 100, op := _, type := _, pos := _, after := _, guard := _ }) (v := ?_) (p := [15]) rfl (by kernel_rfl) (by kernel_rfl) (by kernel_rfl) (by kernel_rfl) (by kernel_rfl) (by kernel_rfl) (fun _ _ _ h => h) (Or.inl ⟨by rfl, ?_⟩) (by assumption) ?_
        rotate_left
        · intro u hSu; have hSv := blkCell hSu; clear hSu; go_simp; (try with_reducible rfl)
        try simp only [Act.put, List.setIfInBounds_toArray, List.set_cons_zero, List.set_cons_succ]
        refine wpAnyZ_ready (rs := [15]) (by kernel_rfl) (by simp) ?_
        refine AllReadyZ.last (o := { dst := none, op := _, type := _, pos := _, after := _, guard := _ }) rfl (by kernel_rfl) (fun K hK => ?_) ?_
        rotate_left
        · exact AllReadyZ.nil
        go_simp
        refine hK.out _ _ ?_
        clear hK K
        try simp only [Act.put, List.setIfInBounds_toArray, List.set_cons_zero, List.set_cons_succ]
        refine wpAnyZ_done (by kernel_rfl) ?_ _
        have HS6 := Lib.hid (hS7.set 16 (.slice A7 (ts.length + 1) c7))
        have HO6 := Lib.hid (ownSet (OwnL.push (enc := txC) ho) ⟨w.heap.size + 1, 16, none⟩ (.slice A7 (ts.length + 1) c7) (by show w.heap.size + 1 < f + 1; omega))
        have hwm : IntKind.i64.wrap ((m : Int) - 1) = (m : Int) - 1 := IntWalk.i64_in _ (by omega)
        go_wp2_with fail
        go_roundw
        case rel => exact ⟨m - 1, ts ++ [⟨ta, tb, tc, td == 1⟩], std, _, congrArg (Value.int .i64) (by omega), by rw [List.length_append, List.length_singleton]; omega, HN.out, (by have h := HS6.out; first | exact h | simpa using h), (by have h := HO6.out; first | exact h | simpa using h)⟩
        case measure => simp [intOf]; omega
  case rest =>
  obtain ⟨v, hS, hO⟩ := hcut
  obtain ⟨AT, cT, rfl⟩ := ownLen hO
  obtain ⟨wa, rfl⟩ : ∃ wm : World, wm = wc := ⟨_, rfl⟩
  have HSa := Lib.hid hS
  have HOa := Lib.hid hO
  clear hS hO HS8 HR0
  go_upto_block 2 with (go_at_call 55; (with_reducible refine (C6.out _ _ _ _ HSa.out).mono ?_); rintro e wb ⟨rfl, hSb, hkb⟩)
  have HSb := Lib.hid hSb
  have HOb := Lib.hid (ownKept HOa.out (by have := HSa.out.bw; omega) hkb)
  clear hSb hkb HSa HOa
  go_cut [] (fun wc => ∃ v, Rd w b s sD #[.int .i64 lsn, .int .i64 prev, .int .i64 txn, .int .i64 9, .int .i64 0, .int .i64 0, .int .i64 nu, .int .i64 0, .int .i64 0, .string ⟨#[]⟩, .string ⟨#[]⟩, .int .i64 0, .int .i64 0, .string ⟨#[]⟩, .int .i64 0, .int .i64 0, .slice AT TS.length cT, v] f #[.bool false, .bool false, .bool false, .bool true, .bool true] wc ∧ OwnL diC 2 108 (f + 1) wc v DS ∧ OwnL txC 4 106 (f + 1) wc (.slice AT TS.length cT) TS)
  case first =>
    go_wp2_with fail
    go_loopw [7] (fun i wr => ∃ (m : Nat) (ts : List Rc.DirtyAt) (st : Rc.St) (v : Value), i = .int .i64 (m : Int) ∧ ts.length + m ≤ 65535 ∧ Rc.Rest (Rc.dirtyM true s.data.toList) s.data.toList.length DS sD ts m st ∧ Rd w b s st #[.int .i64 lsn, .int .i64 prev, .int .i64 txn, .int .i64 9, .int .i64 0, .int .i64 0, .int .i64 nu, .int .i64 0, .int .i64 0, .string ⟨#[]⟩, .string ⟨#[]⟩, .int .i64 0, .int .i64 0, .string ⟨#[]⟩, .int .i64 0, .int .i64 0, .slice AT TS.length cT, v] f #[.bool false, .bool false, .bool false, .bool true, .bool true] wr ∧ OwnL diC 2 108 (f + 1) wr v ts ∧ OwnL txC 4 106 (f + 1) wr (.slice AT TS.length cT) TS) (fun i _ => (intOf i).toNat)
    case atStart => exact ⟨m2, [], s7, .slice none 0 0, rfl, by simp; omega, HR1.out, HSb.out, ownNil _ _ _ _, HOb.out⟩
    case round =>
      obtain ⟨m, ts, st, v, rfl, hlen, hR, hS, hO, hE⟩ := hrel
      have HR := Lib.hid hR
      have HS := Lib.hid hS
      have HO := Lib.hid hO
      have HE := Lib.hid hE
      clear hR hS hO hE
      by_cases h0 : m = 0
      · subst h0
        obtain ⟨e1, e2⟩ := HR.out.stop
        subst e1 e2
        go_wp2_with fail
        go_meet
        case rel => exact ⟨v, HS.out, HO.out, HE.out⟩
      have hm0 : (0 : Int) < (m : Int) := by omega
      have hmN : 0 < m := by omega
      cases hbad : st.bad with
      | true =>
        obtain ⟨e1, e2⟩ := HR.out.bad hbad
        have hcr := blkCell HS.out.rd
        rw [hbad] at hcr
        have HBD := Lib.hid hbad
        subst e1 e2
        clear hbad h0 hmN
        go_wp2_with fail
        go_meet
        case rel => exact ⟨v, HS.out, HO.out, HE.out⟩
      | false =>
        have hin := HR.out.inn hbad
        have hcr := blkCell HS.out.rd
        rw [hbad] at hcr
        rcases hda : Rc.numM true s.data.toList st 3 with ⟨da, sda⟩
        have ada : sda.at_ ≤ st.at_ + 3 := Rc.numM_le hda
        have Cda := Lib.hid (fun X f F u (hu : Rd w b s st X f F u) => hu.numK3 hda hm (by omega))
        rcases hdb : Rc.numM true s.data.toList sda 6 with ⟨db, sdb⟩
        have adb : sdb.at_ ≤ sda.at_ + 6 := Rc.numM_le hdb
        have Cdb := Lib.hid (fun X f F u (hu : Rd w b s sda X f F u) => hu.numK6 hdb hm (by omega))
        have hone : Rc.dirtyM true s.data.toList st = (⟨da, db⟩, sdb) := by unfold Rc.dirtyM; simp only [hda, hdb]
        have hst := Rc.dirty_step hin
        rw [hone] at hst
        have HN := Lib.hid (HR.out.next hmN hbad hone hst.1 hst.2)
        clear hone hst hbad hin h0 HR hda ada hdb adb
        obtain ⟨A, c, rfl⟩ := ownLen HO.out
        go_upto_region 25 with fail
        clear hcr
        have HSd := Lib.hid HS.out.drew
        have hO0 := ownBelow HO.out (Below.refl _ wr).drew
        have hE0 := ownBelow HE.out (Below.refl _ wr).drew
        refine wp_region_Z (S := (fun u => u.heap[w.heap.size + 1]? = some (.cells #[.int .i64 lsn, .int .i64 prev, .int .i64 txn, .int .i64 9, .int .i64 0, .int .i64 0, .int .i64 nu, .int .i64 0, .int .i64 0, .string ⟨#[]⟩, .string ⟨#[]⟩, .int .i64 0, .int .i64 0, .string ⟨#[]⟩, .int .i64 0, .int .i64 0, .slice AT TS.length cT, (.slice A ts.length c)] 49 (0, 0)))) 10 (by kernel_rfl) ?_ (fun hHeld => ?_)
        · first | exact hSn | exact HSd.out.bx
        refine wpAnyZ_take (i := 0) (oi := { dst := some 114, op := _, type := _, pos := _, after := _, guard := _ }) (v := ?_) (p := [10]) rfl (by kernel_rfl) (by kernel_rfl) (by kernel_rfl) (by kernel_rfl) (by kernel_rfl) (by kernel_rfl) (fun _ _ _ h => h) (Or.inl ⟨by rfl, ?_⟩) (by assumption) ?_
        rotate_left
        · intro u hSu; have hSv := blkCell hSu; clear hSu; go_simp; (try with_reducible rfl)
        try simp only [Act.put, List.setIfInBounds_toArray, List.set_cons_zero, List.set_cons_succ]
        refine wpAnyZ_take (i := 1) (oi := { dst := some 115, op := _, type := _, pos := _, after := _, guard := _ }) (v := ?_) (p := [10]) rfl (by kernel_rfl) (by kernel_rfl) (by kernel_rfl) (by kernel_rfl) (by kernel_rfl) (by kernel_rfl) (fun _ _ _ h => h) (Or.inl ⟨by rfl, ?_⟩) (by assumption) ?_
        rotate_left
        · intro u hSu; have hSv := blkCell hSu; clear hSu; go_simp; (try with_reducible rfl)
        try simp only [Act.put, List.setIfInBounds_toArray, List.set_cons_zero, List.set_cons_succ]
        refine wpAnyZ_take (i := 2) (oi := { dst := some 116, op := _, type := _, pos := _, after := _, guard := _ }) (v := ?_) (p := [10]) rfl (by kernel_rfl) (by kernel_rfl) (by kernel_rfl) (by kernel_rfl) (by kernel_rfl) (by kernel_rfl) (fun _ _ _ h => h) (Or.inl ⟨by rfl, ?_⟩) (by assumption) ?_
        rotate_left
        · intro u hSu; have hSv := blkCell hSu; clear hSu; go_simp; (try with_reducible rfl)
        try simp only [Act.put, List.setIfInBounds_toArray, List.set_cons_zero, List.set_cons_succ]
        refine wpAnyZ_take (i := 4) (oi := { dst := some 118, op := _, type := _, pos := _, after := _, guard := _ }) (v := ?_) (p := [10]) rfl (by kernel_rfl) (by kernel_rfl) (by kernel_rfl) (by kernel_rfl) (by kernel_rfl) (by kernel_rfl) (fun _ _ _ h => h) (Or.inl ⟨by rfl, ?_⟩) (by assumption) ?_
        rotate_left
        · intro u hSu; have hSv := blkCell hSu; clear hSu; go_simp; (try with_reducible rfl)
        try simp only [Act.put, List.setIfInBounds_toArray, List.set_cons_zero, List.set_cons_succ]
        refine wpAnyZ_ready (rs := [3]) (by kernel_rfl) (by simp) ?_
        refine AllReadyZ.cons (o := { dst := some 117, op := _, type := _, pos := _, after := _, guard := _ }) rfl (fun K hK => ?_) ?_
        rotate_left
        · exact AllReadyZ.nil
        go_simp
        (with_reducible refine (Cda.out _ _ _ _ HSd.out).mono ?_); rintro e w1 ⟨rfl, hS1, hk1⟩; have hSn := hS1.bx; have hO1 := ownKept hO0 (by have := HS.out.bw; omega) hk1; have hE1 := ownKept hE0 (by have := HS.out.bw; omega) hk1; try go_simp
        refine hK.out _ _ ?_ (fun hHeld => ?_)
        · first | exact hSn | exact HSd.out.bx
        clear hK K
        try simp only [Act.put, List.setIfInBounds_toArray, List.set_cons_zero, List.set_cons_succ]
        refine wpAnyZ_ready (rs := [5]) (by kernel_rfl) (by simp) ?_
        refine AllReadyZ.cons (o := { dst := some 119, op := _, type := _, pos := _, after := _, guard := _ }) rfl (fun K hK => ?_) ?_
        rotate_left
        · exact AllReadyZ.nil
        go_simp
        (with_reducible refine (Cdb.out _ _ _ _ hS1).mono ?_); rintro e w2 ⟨rfl, hS2, hk2⟩; have hSn := hS2.bx; have hO2 := ownKept hO1 (by have := HS.out.bw; omega) hk2; have hE2 := ownKept hE1 (by have := HS.out.bw; omega) hk2; try go_simp
        refine hK.out _ _ ?_ (fun hHeld => ?_)
        · first | exact hSn | exact HSd.out.bx
        clear hK K
        try simp only [Act.put, List.setIfInBounds_toArray, List.set_cons_zero, List.set_cons_succ]
        refine wpAnyZ_take (i := 6) (oi := { dst := some 120, op := _, type := _, pos := _, after := _, guard := _ }) (v := ?_) (p := [10]) rfl (by kernel_rfl) (by kernel_rfl) (by kernel_rfl) (by kernel_rfl) (by kernel_rfl) (by kernel_rfl) (fun _ _ _ h => h) (Or.inl ⟨by rfl, ?_⟩) (by assumption) ?_
        rotate_left
        · intro u hSu; have hSv := blkCell hSu; clear hSu; go_simp; (try with_reducible rfl)
        try simp only [Act.put, List.setIfInBounds_toArray, List.set_cons_zero, List.set_cons_succ]
        refine wpAnyZ_ready (rs := [7]) (by kernel_rfl) (by simp) ?_
        refine AllReadyZ.cons (o := { dst := some 121, op := _, type := _, pos := _, after := _, guard := _ }) rfl (fun K hK => ?_) ?_
        rotate_left
        · exact AllReadyZ.nil
        go_simp
        have hS9 := hS2.step (allocB w2 (.cells #[.int .i64 da, .int .i64 db] 108)); have hSn := hS9.bx; have hO9 := ownBelow hO2 (allocB w2 (.cells #[.int .i64 da, .int .i64 db] 108)); have hG := heap_alloc_new w2 (.cells #[.int .i64 da, .int .i64 db] 108); have hE9 := ownBelow hE2 (allocB w2 (.cells #[.int .i64 da, .int .i64 db] 108))
        refine hK.out _ _ ?_ (fun hHeld => ?_)
        · first | exact hSn | exact HSd.out.bx
        clear hK K
        try simp only [Act.put, List.setIfInBounds_toArray, List.set_cons_zero, List.set_cons_succ]
        refine wpAnyZ_ready (rs := [8]) (by kernel_rfl) (by simp) ?_
        refine AllReadyZ.cons (o := { dst := some 122, op := _, type := _, pos := _, after := _, guard := _ }) rfl (fun K hK => ?_) ?_
        rotate_left
        · exact AllReadyZ.nil
        refine wantedIf (by rfl) ?_
        refine wp_push _ (.tmp 115) (.tmp 121) 47 108 Try.underlying47 info_dirty rfl (by omega) (by omega) rfl (f + 1) _ ts.length (ts.flatMap diC) rfl hO9 w2.heap.size (diC ⟨da, db⟩) 108 rfl hG rfl (by simp [diC, Value.oneCell']) (by omega) (by have h1 := heapLt (hS9.form (by omega)); omega) ?_
        intro v7 w7 ho hg hb
        obtain ⟨A7, c7, rfl⟩ := ownLen ho
        have hS7 := hS9.under hf hb
        have hSn := hS7.bx
        have hcx7 := blkCell hS7.bx
        have hz7 := blkFrozen hS7.bx
        have hE7 := ownGrown hE9 hO9 (by decide) hg
        refine hK.out _ _ ?_ (fun hHeld => ?_)
        · first | exact hSn | exact HSd.out.bx
        clear hK K
        try simp only [Act.put, List.setIfInBounds_toArray, List.set_cons_zero, List.set_cons_succ]
        refine wpAnyZ_take (i := 9) (oi := { dst := some 123, op := _, type := _, pos := _, after := _, guard := _ }) (v := ?_) (p := [10]) rfl (by kernel_rfl) (by kernel_rfl) (by kernel_rfl) (by kernel_rfl) (by kernel_rfl) (by kernel_rfl) (fun _ _ _ h => h) (Or.inl ⟨by rfl, ?_⟩) (by assumption) ?_
        rotate_left
        · intro u hSu; have hSv := blkCell hSu; clear hSu; go_simp; (try with_reducible rfl)
        try simp only [Act.put, List.setIfInBounds_toArray, List.set_cons_zero, List.set_cons_succ]
        refine wpAnyZ_ready (rs := [10]) (by kernel_rfl) (by simp) ?_
        refine AllReadyZ.last (o := { dst := none, op := _, type := _, pos := _, after := _, guard := _ }) rfl (by kernel_rfl) (fun K hK => ?_) ?_
        rotate_left
        · exact AllReadyZ.nil
        go_simp
        refine hK.out _ _ ?_
        clear hK K
        try simp only [Act.put, List.setIfInBounds_toArray, List.set_cons_zero, List.set_cons_succ]
        refine wpAnyZ_done (by kernel_rfl) ?_ _
        have HS6 := Lib.hid (hS7.set 17 (.slice A7 (ts.length + 1) c7))
        have HO6 := Lib.hid (ownSet (OwnL.push (enc := diC) ho) ⟨w.heap.size + 1, 17, none⟩ (.slice A7 (ts.length + 1) c7) (by show w.heap.size + 1 < f + 1; omega))
        have HE6 := Lib.hid (ownSet hE7 ⟨w.heap.size + 1, 17, none⟩ (.slice A7 (ts.length + 1) c7) (by show w.heap.size + 1 < f + 1; omega))
        have hwm : IntKind.i64.wrap ((m : Int) - 1) = (m : Int) - 1 := IntWalk.i64_in _ (by omega)
        go_wp2_with fail
        go_roundw
        case rel => exact ⟨m - 1, ts ++ [⟨da, db⟩], sdb, _, congrArg (Value.int .i64) (by omega), by rw [List.length_append, List.length_singleton]; omega, HN.out, (by have h := HS6.out; first | exact h | simpa using h), (by have h := HO6.out; first | exact h | simpa using h), (by have h := HE6.out; first | exact h | simpa using h)⟩
        case measure => simp [intOf]; omega
  case rest =>
  obtain ⟨v, hS, hO, hE⟩ := hcut
  obtain ⟨AD, cD, rfl⟩ := ownLen hO
  obtain ⟨wz, rfl⟩ : ∃ wm : World, wm = wc := ⟨_, rfl⟩
  have HSz := Lib.hid hS
  have HOz := Lib.hid hO
  have HEz := Lib.hid hE
  clear hS hO hE HSb HOb HR1
  go_wp2_with (first | (with_reducible refine listLoad (by kernel_rfl) 49 (.tmp 3) rfl (w.heap.size + 1) rfl #[.int .i64 lsn, .int .i64 prev, .int .i64 txn, .int .i64 9, .int .i64 0, .int .i64 0, .int .i64 nu, .int .i64 0, .int .i64 0, .string ⟨#[]⟩, .string ⟨#[]⟩, .int .i64 0, .int .i64 0, .string ⟨#[]⟩, .int .i64 0, .int .i64 0, .slice AT TS.length cT, .slice AD DS.length cD] _ HSz.out.bx _ Try.underlying49 (by kernel_rfl) (by kernel_rfl) ?_) | (with_reducible refine listStore (by kernel_rfl) 49 (.tmp 2) (.tmp 124) rfl w.heap.size #[.int .i64 lsn, .int .i64 prev, .int .i64 txn, .int .i64 9, .int .i64 0, .int .i64 0, .int .i64 nu, .int .i64 0, .int .i64 0, .string ⟨#[]⟩, .string ⟨#[]⟩, .int .i64 0, .int .i64 0, .string ⟨#[]⟩, .int .i64 0, .int .i64 0, .slice AT TS.length cT, .slice AD DS.length cD] _ _ rfl rfl HSz.out.br (by kernel_rfl) (by kernel_rfl) (by kernel_rfl) ?_))
  refine bodyPost_ret (v := .agg #[.int .i64 lsn, .int .i64 prev, .int .i64 txn, .int .i64 9, .int .i64 0, .int .i64 0, .int .i64 nu, .int .i64 0, .int .i64 0, .string ⟨#[]⟩, .string ⟨#[]⟩, .int .i64 0, .int .i64 0, .string ⟨#[]⟩, .int .i64 0, .int .i64 0, .slice AT TS.length cT, .slice AD DS.length cD]) (results_cell rfl _ _ rfl (load_whole HSz.out.done.1 Try.underlying49 (by kernel_rfl) (by kernel_rfl))) rfl ?_
  rw [RDH.out]
  exact ⟨AT, cT, AD, cD, rfl, ⟨⟨own_reads (ownRowSet HEz.out _ _ (by omega)), own_reads (ownRowSet HOz.out _ _ (by omega)), ⟨Nat.le_trans hTS (by omega), Nat.le_trans hDS (by omega)⟩⟩, (NewT.own (ownRowSet HEz.out _ _ (by omega))).mono (by omega), (NewT.own (ownRowSet HOz.out _ _ (by omega))).mono (by omega)⟩, HSz.out.done.2⟩
end Go.Proofs.Ytojaagnfjenhoaa
/- The walk over package rec: a reader's record, of any bytes. -/
namespace Go.Proofs.Ytojaagnfjenhoaa
open Go.RowKit
theorem record_any (b : Nat) (s : ByteArray) (hm : s.size ≤ 1000000) (w : World) (hb : w.heap[b]? = some (.cells (rdC s 0 false) 89 (0, 0))) :
    Calls Try.prog 36 #[.pointer (some ⟨b, 0, none⟩)] w (RecOut (Rc.readM true s.data.toList) b w) := by
  rcases h0 : Rc.numM true s.data.toList ⟨0, false⟩ 1 with ⟨kd, s1⟩
  by_cases k2 : kd = 2
  · subst k2; exact record_change b s hm s1 h0 w hb
  by_cases k3 : kd = 3
  · subst k3; exact record_clr b s hm s1 h0 w hb
  by_cases k4 : kd = 4
  · subst k4; exact record_nest b s hm s1 h0 w hb
  by_cases k8 : kd = 8
  · subst k8; exact record_image b s hm s1 h0 w hb
  by_cases k9 : kd = 9
  · subst k9; exact record_check b s hm s1 h0 w hb
  exact record_other b s hm s1 kd k2 k3 k4 k8 k9 h0 w hb
end Go.Proofs.Ytojaagnfjenhoaa
/- The walks over package rec: a change. -/
namespace Go.Proofs.Ytojaagnfjenhoaa
open Go.RowKit
set_option maxRecDepth 100000 in
set_option maxHeartbeats 400000 in
theorem op_any (o : Rc.Op) (w : World) :
    Calls Try.prog 60 #[opV o] w fun e w' => e = .returned (.bool (decide (Rc.opR o))) ∧ Below w.heap.size w w' := by
  obtain ⟨k, s, o, n⟩ := o
  by_cases h0 : 1 ≤ k
  rotate_left
  · have g0 : k < 1 := by omega
    clear h0
    rw [show decide (Rc.opR ⟨k, s, o, n⟩) = false from decide_eq_false (fun h => by obtain ⟨h1, h2, h3, h4, h5⟩ := h; simp only at h1 h2 h3 h4 h5; omega)]
    go_enter Try.func60, Try.ntmps60
    go_wp2_with fail
    go_ret
    exact ⟨by simp [*], allocB _ _⟩
  by_cases h1 : k ≤ 7
  rotate_left
  · have g1 : 7 < k := by omega
    clear h1
    rw [show decide (Rc.opR ⟨k, s, o, n⟩) = false from decide_eq_false (fun h => by obtain ⟨h1, h2, h3, h4, h5⟩ := h; simp only at h1 h2 h3 h4 h5; omega)]
    go_enter Try.func60, Try.ntmps60
    go_wp2_with fail
    go_ret
    exact ⟨by simp [*], allocB _ _⟩
  cases hs : decide (Rc.sl s) with
  | false =>
    rw [show decide (Rc.opR ⟨k, s, o, n⟩) = false from decide_eq_false (fun h => by obtain ⟨h1, h2, h3, h4, h5⟩ := h; simp only at h1 h2 h3 h4 h5; exact of_decide_eq_false hs h3)]
    have hS := Lib.hid hs
    clear hs
    go_enter Try.func60, Try.ntmps60
    go_wp2_with (first | (go_at_call 95; (with_reducible refine (slot1 s _ _ ?_).mono ?_); (first | with_reducible exact heap_alloc_new _ _ | with_reducible exact new2 _ _ _); rintro e w2 ⟨rfl, hb2⟩; rw [hS.out]; have hx := blkPast (heap_alloc_new w _) hb2; have h22 := blkCell hx 2; have h33 := blkCell hx 3; clear hx; simp at h22 h33))
    go_ret
    exact ⟨by simp [*], joinB (pastAlloc (allocB _ _)) hb2⟩
  | true =>
  have hS := Lib.hid hs
  have hS2 := Lib.hid (of_decide_eq_true hs)
  clear hs
  by_cases h3 : (o.size : Int) ≤ 512
  rotate_left
  · have g3 : 512 < (o.size : Int) := by omega
    clear h3
    rw [show decide (Rc.opR ⟨k, s, o, n⟩) = false from decide_eq_false (fun h => by obtain ⟨h1, h2, h3, h4, h5⟩ := h; simp only at h1 h2 h3 h4 h5; omega)]
    go_enter Try.func60, Try.ntmps60
    go_wp2_with (first | (go_at_call 95; (with_reducible refine (slot1 s _ _ ?_).mono ?_); (first | with_reducible exact heap_alloc_new _ _ | with_reducible exact new2 _ _ _); rintro e w2 ⟨rfl, hb2⟩; rw [hS.out]; have hx := blkPast (heap_alloc_new w _) hb2; have h22 := blkCell hx 2; have h33 := blkCell hx 3; clear hx; simp at h22 h33))
    go_ret
    exact ⟨by simp [*], joinB (pastAlloc (allocB _ _)) hb2⟩
  by_cases h4 : (n.size : Int) ≤ 512
  rotate_left
  · have g4 : 512 < (n.size : Int) := by omega
    clear h4
    rw [show decide (Rc.opR ⟨k, s, o, n⟩) = false from decide_eq_false (fun h => by obtain ⟨h1, h2, h3, h4, h5⟩ := h; simp only at h1 h2 h3 h4 h5; omega)]
    go_enter Try.func60, Try.ntmps60
    go_wp2_with (first | (go_at_call 95; (with_reducible refine (slot1 s _ _ ?_).mono ?_); (first | with_reducible exact heap_alloc_new _ _ | with_reducible exact new2 _ _ _); rintro e w2 ⟨rfl, hb2⟩; rw [hS.out]; have hx := blkPast (heap_alloc_new w _) hb2; have h22 := blkCell hx 2; have h33 := blkCell hx 3; clear hx; simp at h22 h33))
    go_ret
    exact ⟨by simp [*], joinB (pastAlloc (allocB _ _)) hb2⟩
  rw [show decide (Rc.opR ⟨k, s, o, n⟩) = true from decide_eq_true ⟨by assumption, by assumption, hS2.out, by show o.size ≤ 512; omega, by show n.size ≤ 512; omega⟩]
  go_enter Try.func60, Try.ntmps60
  go_wp2_with (first | (go_at_call 95; (with_reducible refine (slot1 s _ _ ?_).mono ?_); (first | with_reducible exact heap_alloc_new _ _ | with_reducible exact new2 _ _ _); rintro e w2 ⟨rfl, hb2⟩; rw [hS.out]; have hx := blkPast (heap_alloc_new w _) hb2; have h22 := blkCell hx 2; have h33 := blkCell hx 3; clear hx; simp at h22 h33))
  go_ret
  exact ⟨by simp [*], joinB (pastAlloc (allocB _ _)) hb2⟩
end Go.Proofs.Ytojaagnfjenhoaa
/- The walks over package rec: how a change is undone. -/
namespace Go.Proofs.Ytojaagnfjenhoaa
open Go.RowKit
set_option maxRecDepth 100000 in
set_option maxHeartbeats 400000 in
theorem tree_any (r : Rc.Rec) (T D : Value) (w : World) :
    Calls Try.prog 61 #[recV r T D] w fun e w' => e = .returned (.bool (decide (Rc.treeR r))) ∧ Below w.heap.size w w' := by
  obtain ⟨lsn, prev, txn, kind, page, next, num, ⟨ok, os, oo, on⟩, how, root, ⟨ek, ep, es⟩, ts, ds⟩ := r
  have HEQ := Lib.hid (fun W => key_equal ⟨ek, ep, es⟩ ⟨⟨#[]⟩, 0, 0⟩ W)
  by_cases hh : how = 1
  · subst hh
    by_cases hr : root = 0
    · subst hr
      have heq := HEQ.out
      have HT := Lib.hid (show decide (Rc.treeR ⟨lsn, prev, txn, kind, page, next, num, ⟨ok, os, oo, on⟩, 1, 0, ⟨ek, ep, es⟩, ts, ds⟩) = decide ((⟨ek, ep, es⟩ : Rc.Key) = ⟨⟨#[]⟩, 0, 0⟩) from decide_eq_decide.2 ⟨fun h => by
        rcases h with ⟨_, _, h3⟩ | ⟨h1, _⟩
        · exact h3
        · simp only at h1; omega, fun h => .inl ⟨rfl, rfl, h⟩⟩)
      rw [HT.out]
      generalize decide ((⟨ek, ep, es⟩ : Rc.Key) = ⟨⟨#[]⟩, 0, 0⟩) = b at heq ⊢
      go_enter Try.func61, Try.ntmps61
      go_wp2_with fail
      go_ret
      exact ⟨by simp, allocB _ _⟩
    · have h2 : (root == 0) = false := by simp [hr]
      rw [show decide (Rc.treeR ⟨lsn, prev, txn, kind, page, next, num, ⟨ok, os, oo, on⟩, 1, root, ⟨ek, ep, es⟩, ts, ds⟩) = false from decide_eq_false (fun h => by
        rcases h with ⟨_, h3, _⟩ | ⟨h1, _⟩
        · exact hr h3
        · simp only at h1; omega)]
      clear hr
      go_enter Try.func61, Try.ntmps61
      go_wp2_with fail
      go_ret
      exact ⟨by simp, allocB _ _⟩
  · have hh1 : (how == 1) = false := by simp [hh]
    have NOT := Lib.hid (show ∀ (h : ¬ ((how = 2 ∨ how = 3) ∧ Rc.pg root ∧ Rc.pg ep ∧ Rc.sl es ∧ ek.size ≤ 100)), decide (Rc.treeR ⟨lsn, prev, txn, kind, page, next, num, ⟨ok, os, oo, on⟩, how, root, ⟨ek, ep, es⟩, ts, ds⟩) = false from fun h => decide_eq_false (fun h' => by
      rcases h' with ⟨h1, _⟩ | h1
      · exact hh h1
      · exact h h1))
    by_cases hk : how = 2 ∨ how = 3
    rotate_left
    · rw [NOT.out (fun h => hk h.1)]
      have hh2 : (how == 2) = false := by simp; omega
      have hh3 : (how == 3) = false := by simp; omega
      clear hk hh
      go_enter Try.func61, Try.ntmps61
      go_wp2_with fail
      go_ret
      exact ⟨by simp, allocB _ _⟩
    rcases hk with rfl | rfl
    · clear hh
      cases hp : decide (Rc.pg root ∧ Rc.pg ep) with
      | false =>
        rw [NOT.out (fun h => of_decide_eq_false hp ⟨h.2.1, h.2.2.1⟩)]
        have hP := Lib.hid hp
        clear hp
        go_enter Try.func61, Try.ntmps61
        go_wp2_with (first | (go_at_call 59; (with_reducible refine (paged2 root ep _ _ ?_).mono ?_); (first | with_reducible exact heap_alloc_new _ _ | with_reducible exact new2 _ _ _); rintro e w2 ⟨rfl, hb2⟩; rw [hP.out]))
        go_ret
        exact ⟨by simp, joinB (pastAlloc (allocB _ _)) hb2⟩
      | true =>
        have hP := Lib.hid hp
        have hP2 := Lib.hid (of_decide_eq_true hp)
        clear hp
        cases hs : decide (Rc.sl es) with
        | false =>
          rw [NOT.out (fun h => of_decide_eq_false hs h.2.2.2.1)]
          have hS := Lib.hid hs
          clear hs
          go_enter Try.func61, Try.ntmps61
          go_wp2_with (first | (go_at_call 59; (with_reducible refine (paged2 root ep _ _ ?_).mono ?_); (first | with_reducible exact heap_alloc_new _ _ | with_reducible exact new2 _ _ _); rintro e w2 ⟨rfl, hb2⟩; rw [hP.out]; have hx := blkPast (heap_alloc_new w _) hb2; have h14 := blkCell hx 15; have h13 := blkCell hx 13; have HX := Lib.hid hx; clear hx; simp at h14 h13) | (go_at_call 95; (with_reducible refine (slot1 es _ _ ?_).mono ?_); (first | with_reducible exact heap_alloc_new _ _ | with_reducible exact new2 _ _ _); rintro e w3 ⟨rfl, hb3⟩; rw [hS.out]; have h23 := blkCell (blkPast HX.out hb3) 13; simp at h23))
          go_ret
          exact ⟨by simp, joinB (pastAlloc (joinB (pastAlloc (allocB _ _)) hb2)) hb3⟩
        | true =>
          have hS := Lib.hid hs
          have hS2 := Lib.hid (of_decide_eq_true hs)
          clear hs
          by_cases hl : (ek.size : Int) ≤ 100
          · have HY := Lib.hid (show decide (Rc.treeR ⟨lsn, prev, txn, kind, page, next, num, ⟨ok, os, oo, on⟩, 2, root, ⟨ek, ep, es⟩, ts, ds⟩) = true from decide_eq_true (.inr ⟨by simp, hP2.out.1, hP2.out.2, hS2.out, by show ek.size ≤ 100; omega⟩))
            rw [HY.out]
            go_enter Try.func61, Try.ntmps61
            go_wp2_with (first | (go_at_call 59; (with_reducible refine (paged2 root ep _ _ ?_).mono ?_); (first | with_reducible exact heap_alloc_new _ _ | with_reducible exact new2 _ _ _); rintro e w2 ⟨rfl, hb2⟩; rw [hP.out]; have hx := blkPast (heap_alloc_new w _) hb2; have h14 := blkCell hx 15; have h13 := blkCell hx 13; have HX := Lib.hid hx; clear hx; simp at h14 h13) | (go_at_call 95; (with_reducible refine (slot1 es _ _ ?_).mono ?_); (first | with_reducible exact heap_alloc_new _ _ | with_reducible exact new2 _ _ _); rintro e w3 ⟨rfl, hb3⟩; rw [hS.out]; have h23 := blkCell (blkPast HX.out hb3) 13; simp at h23))
            go_ret
            exact ⟨by simp [*], joinB (pastAlloc (joinB (pastAlloc (allocB _ _)) hb2)) hb3⟩
          · rw [NOT.out (fun h => by have := h.2.2.2.2; omega)]
            have hl2 : 100 < (ek.size : Int) := by omega
            clear hl
            go_enter Try.func61, Try.ntmps61
            go_wp2_with (first | (go_at_call 59; (with_reducible refine (paged2 root ep _ _ ?_).mono ?_); (first | with_reducible exact heap_alloc_new _ _ | with_reducible exact new2 _ _ _); rintro e w2 ⟨rfl, hb2⟩; rw [hP.out]; have hx := blkPast (heap_alloc_new w _) hb2; have h14 := blkCell hx 15; have h13 := blkCell hx 13; have HX := Lib.hid hx; clear hx; simp at h14 h13) | (go_at_call 95; (with_reducible refine (slot1 es _ _ ?_).mono ?_); (first | with_reducible exact heap_alloc_new _ _ | with_reducible exact new2 _ _ _); rintro e w3 ⟨rfl, hb3⟩; rw [hS.out]; have h23 := blkCell (blkPast HX.out hb3) 13; simp at h23))
            go_ret
            exact ⟨by simp [*], joinB (pastAlloc (joinB (pastAlloc (allocB _ _)) hb2)) hb3⟩
    
    · clear hh
      cases hp : decide (Rc.pg root ∧ Rc.pg ep) with
      | false =>
        rw [NOT.out (fun h => of_decide_eq_false hp ⟨h.2.1, h.2.2.1⟩)]
        have hP := Lib.hid hp
        clear hp
        go_enter Try.func61, Try.ntmps61
        go_wp2_with (first | (go_at_call 59; (with_reducible refine (paged2 root ep _ _ ?_).mono ?_); (first | with_reducible exact heap_alloc_new _ _ | with_reducible exact new2 _ _ _); rintro e w2 ⟨rfl, hb2⟩; rw [hP.out]))
        go_ret
        exact ⟨by simp, joinB (pastAlloc (allocB _ _)) hb2⟩
      | true =>
        have hP := Lib.hid hp
        have hP2 := Lib.hid (of_decide_eq_true hp)
        clear hp
        cases hs : decide (Rc.sl es) with
        | false =>
          rw [NOT.out (fun h => of_decide_eq_false hs h.2.2.2.1)]
          have hS := Lib.hid hs
          clear hs
          go_enter Try.func61, Try.ntmps61
          go_wp2_with (first | (go_at_call 59; (with_reducible refine (paged2 root ep _ _ ?_).mono ?_); (first | with_reducible exact heap_alloc_new _ _ | with_reducible exact new2 _ _ _); rintro e w2 ⟨rfl, hb2⟩; rw [hP.out]; have hx := blkPast (heap_alloc_new w _) hb2; have h14 := blkCell hx 15; have h13 := blkCell hx 13; have HX := Lib.hid hx; clear hx; simp at h14 h13) | (go_at_call 95; (with_reducible refine (slot1 es _ _ ?_).mono ?_); (first | with_reducible exact heap_alloc_new _ _ | with_reducible exact new2 _ _ _); rintro e w3 ⟨rfl, hb3⟩; rw [hS.out]; have h23 := blkCell (blkPast HX.out hb3) 13; simp at h23))
          go_ret
          exact ⟨by simp, joinB (pastAlloc (joinB (pastAlloc (allocB _ _)) hb2)) hb3⟩
        | true =>
          have hS := Lib.hid hs
          have hS2 := Lib.hid (of_decide_eq_true hs)
          clear hs
          by_cases hl : (ek.size : Int) ≤ 100
          · have HY := Lib.hid (show decide (Rc.treeR ⟨lsn, prev, txn, kind, page, next, num, ⟨ok, os, oo, on⟩, 3, root, ⟨ek, ep, es⟩, ts, ds⟩) = true from decide_eq_true (.inr ⟨by simp, hP2.out.1, hP2.out.2, hS2.out, by show ek.size ≤ 100; omega⟩))
            rw [HY.out]
            go_enter Try.func61, Try.ntmps61
            go_wp2_with (first | (go_at_call 59; (with_reducible refine (paged2 root ep _ _ ?_).mono ?_); (first | with_reducible exact heap_alloc_new _ _ | with_reducible exact new2 _ _ _); rintro e w2 ⟨rfl, hb2⟩; rw [hP.out]; have hx := blkPast (heap_alloc_new w _) hb2; have h14 := blkCell hx 15; have h13 := blkCell hx 13; have HX := Lib.hid hx; clear hx; simp at h14 h13) | (go_at_call 95; (with_reducible refine (slot1 es _ _ ?_).mono ?_); (first | with_reducible exact heap_alloc_new _ _ | with_reducible exact new2 _ _ _); rintro e w3 ⟨rfl, hb3⟩; rw [hS.out]; have h23 := blkCell (blkPast HX.out hb3) 13; simp at h23))
            go_ret
            exact ⟨by simp [*], joinB (pastAlloc (joinB (pastAlloc (allocB _ _)) hb2)) hb3⟩
          · rw [NOT.out (fun h => by have := h.2.2.2.2; omega)]
            have hl2 : 100 < (ek.size : Int) := by omega
            clear hl
            go_enter Try.func61, Try.ntmps61
            go_wp2_with (first | (go_at_call 59; (with_reducible refine (paged2 root ep _ _ ?_).mono ?_); (first | with_reducible exact heap_alloc_new _ _ | with_reducible exact new2 _ _ _); rintro e w2 ⟨rfl, hb2⟩; rw [hP.out]; have hx := blkPast (heap_alloc_new w _) hb2; have h14 := blkCell hx 15; have h13 := blkCell hx 13; have HX := Lib.hid hx; clear hx; simp at h14 h13) | (go_at_call 95; (with_reducible refine (slot1 es _ _ ?_).mono ?_); (first | with_reducible exact heap_alloc_new _ _ | with_reducible exact new2 _ _ _); rintro e w3 ⟨rfl, hb3⟩; rw [hS.out]; have h23 := blkCell (blkPast HX.out hb3) 13; simp at h23))
            go_ret
            exact ⟨by simp [*], joinB (pastAlloc (joinB (pastAlloc (allocB _ _)) hb2)) hb3⟩
end Go.Proofs.Ytojaagnfjenhoaa
/- The walk over package rec: Right: its three boxes. -/
namespace Rc
section
open Classical
/-- May a record be? -/
noncomputable def rightB (r : Rec) : Bool := decide (Right r)
theorem rightB_of {r : Rec} {b : Bool} (h : Right r ↔ b = true) : rightB r = b := by
  unfold rightB
  cases b with
  | true => exact decide_eq_true (h.2 rfl)
  | false => exact decide_eq_false (fun hr => by have := h.1 hr; cases this)
theorem rightB_no {r : Rec} (h : ¬ Right r) : rightB r = false := by unfold rightB; exact decide_eq_false h
theorem rightB_yes {r : Rec} (h : Right r) : rightB r = true := by unfold rightB; exact decide_eq_true h
theorem rightB_iff {r : Rec} : rightB r = true ↔ Right r := by unfold rightB; exact decide_eq_true_iff
end
end Rc
namespace Go.Proofs.Ytojaagnfjenhoaa
open Go.RowKit
/-- The three boxes of Right: the record, its form, what it may have. -/
structure Boxes (w : World) (a f b : Nat) (R F X : Array Value) (u : World) : Prop where
  br : u.heap[a]? = some (.cells R 49 (0, 0))
  bf : u.heap[f]? = some (.cells F 113 (0, 0))
  bx : u.heap[b]? = some (.cells X 49 (0, 0))
  ab : a < b ∧ f < b
  low : w.heap.size ≤ a
  below : Below w.heap.size w u
theorem Boxes.step {w u v : World} {a f b : Nat} {R F X : Array Value} (h : Boxes w a f b R F X u) (hb : Below u.heap.size u v) : Boxes w a f b R F X v :=
  ⟨blkOld h.br hb, blkOld h.bf hb, blkOld h.bx hb, h.ab, h.low, joinB h.below hb⟩
theorem Boxes.set {w u : World} {a f b : Nat} {R F X : Array Value} (h : Boxes w a f b R F X u) (i : Nat) (v : Value) : Boxes w a f b R F (X.setIfInBounds i v) (u.setCell ⟨b, i, none⟩ v) :=
  ⟨by rw [Below.heap_setCell _ _ _ _ (by have := h.ab; show a ≠ b; omega)]; exact h.br, by rw [Below.heap_setCell _ _ _ _ (by have := h.ab; show f ≠ b; omega)]; exact h.bf, blkSet i h.bx v, h.ab, h.low, h.below.setCell (by have := h.ab; have := h.low; show _ ≤ b; omega) v⟩
theorem Boxes.drew {w u : World} {a f b : Nat} {R F X : Array Value} (h : Boxes w a f b R F X u) : Boxes w a f b R F X u.drew := ⟨h.br, h.bf, h.bx, h.ab, h.low, h.below.drew⟩
theorem Boxes.alloc {w u : World} {a f b : Nat} {R F X : Array Value} (h : Boxes w a f b R F X u) (o : Obj) : Boxes w a f b R F X (u.alloc o) := h.step (allocB u o)
theorem boxes_new {w w1 w2 : World} {R F X : Array Value} {o : Obj} (hb1 : Below (w.alloc (.cells R 49)).heap.size (w.alloc (.cells R 49)) w1)
    (hb2 : Below ((w1.alloc (.cells F 113)).alloc o).heap.size ((w1.alloc (.cells F 113)).alloc o) w2) : Boxes w w.heap.size w1.heap.size w2.heap.size R F X (w2.alloc (.cells X 49)) := by
  have h1 : Below w.heap.size w w1 := joinB (allocB _ _) hb1
  have h2 : Below w1.heap.size w1 w2 := joinB (pastAlloc (allocB _ _)) hb2
  have hs1 := hb1.size
  have hs2 := hb2.size
  simp at hs1 hs2
  refine ⟨?_, ?_, heap_alloc_new w2 _, ⟨by omega, by omega⟩, Nat.le_refl _, pastAlloc (joinB h1 h2)⟩
  · rw [Below.heap_alloc _ _ _ (by omega)]; exact blkOld (blkNew hb1) h2
  · rw [Below.heap_alloc _ _ _ (by omega)]; exact blkOld (new21 _ _ _) hb2
end Go.Proofs.Ytojaagnfjenhoaa
/- The walks over package rec: Same. -/
namespace Go.Proofs.Ytojaagnfjenhoaa
open Go.RowKit
set_option maxRecDepth 100000 in
set_option maxHeartbeats 8000000 in
theorem same_any (r s : Rc.Rec) (A A' B B' : Option Addr) (c c' d d' : Nat) (w : World) (hr : RecR w r A c B d) (hs : RecR w s A' c' B' d') :
    Calls Try.prog 66 #[recV r (.slice A r.txns.length c) (.slice B r.dirty.length d), recV s (.slice A' s.txns.length c') (.slice B' s.dirty.length d')] w fun e w' => e = .returned (.bool (decide (r = s))) ∧ Below w.heap.size w w' := by
  have HT := Lib.hid (fun W hb => equal_txn r.txns s.txns hr.small.1 hs.small.1 A A' c c' W (hr.txns.below hb) (hs.txns.below hb))
  have HD := Lib.hid (fun W hb => equal_dirty r.dirty s.dirty hr.small.2 hs.small.2 B B' d d' W (hr.dirty.below hb) (hs.dirty.below hb))
  have ht1 := hr.small.1
  have ht2 := hs.small.1
  have hd1 := hr.small.2
  have hd2 := hs.small.2
  have HO := Lib.hid (fun W => op_equal r.op s.op W)
  have HK := Lib.hid (fun W => key_equal r.e s.e W)
  clear hr hs
  obtain ⟨rls, rpr, rtx, rki, rpa, rne, rnu, rop, rho, rro, rek, rts, rds⟩ := r
  obtain ⟨sls, spr, stx, ski, spa, sne, snu, sop, sho, sro, sek, sts, sds⟩ := s
  simp only at HT HD HO HK ht1 ht2 hd1 hd2 ⊢
  by_cases hls : rls = sls
  rotate_left
  · rw [decide_eq_false (fun e => hls (congrArg Rc.Rec.lsn e))]
    have nls : (rls == sls) = false := by simp [hls]
    have mls : (rls != sls) = true := by simp [hls]
    clear hls
    obtain ⟨rk, rs, rx, ry⟩ := rop
    obtain ⟨sk, ss, sx, sy⟩ := sop
    obtain ⟨rek1, rek2, rek3⟩ := rek
    obtain ⟨sek1, sek2, sek3⟩ := sek
    go_enter Try.func66, Try.ntmps66
    go_wp2_with fail
    go_ret
    exact ⟨by simp, pastAlloc (allocB _ _)⟩
  subst hls
  by_cases hpr : rpr = spr
  rotate_left
  · rw [decide_eq_false (fun e => hpr (congrArg Rc.Rec.prev e))]
    have npr : (rpr == spr) = false := by simp [hpr]
    have mpr : (rpr != spr) = true := by simp [hpr]
    clear hpr
    obtain ⟨rk, rs, rx, ry⟩ := rop
    obtain ⟨sk, ss, sx, sy⟩ := sop
    obtain ⟨rek1, rek2, rek3⟩ := rek
    obtain ⟨sek1, sek2, sek3⟩ := sek
    go_enter Try.func66, Try.ntmps66
    go_wp2_with fail
    go_ret
    exact ⟨by simp, pastAlloc (allocB _ _)⟩
  subst hpr
  by_cases htx : rtx = stx
  rotate_left
  · rw [decide_eq_false (fun e => htx (congrArg Rc.Rec.txn e))]
    have ntx : (rtx == stx) = false := by simp [htx]
    have mtx : (rtx != stx) = true := by simp [htx]
    clear htx
    obtain ⟨rk, rs, rx, ry⟩ := rop
    obtain ⟨sk, ss, sx, sy⟩ := sop
    obtain ⟨rek1, rek2, rek3⟩ := rek
    obtain ⟨sek1, sek2, sek3⟩ := sek
    go_enter Try.func66, Try.ntmps66
    go_wp2_with fail
    go_ret
    exact ⟨by simp, pastAlloc (allocB _ _)⟩
  subst htx
  by_cases hki : rki = ski
  rotate_left
  · rw [decide_eq_false (fun e => hki (congrArg Rc.Rec.kind e))]
    have nki : (rki == ski) = false := by simp [hki]
    have mki : (rki != ski) = true := by simp [hki]
    clear hki
    obtain ⟨rk, rs, rx, ry⟩ := rop
    obtain ⟨sk, ss, sx, sy⟩ := sop
    obtain ⟨rek1, rek2, rek3⟩ := rek
    obtain ⟨sek1, sek2, sek3⟩ := sek
    go_enter Try.func66, Try.ntmps66
    go_wp2_with fail
    go_ret
    exact ⟨by simp, pastAlloc (allocB _ _)⟩
  subst hki
  by_cases hpa : rpa = spa
  rotate_left
  · rw [decide_eq_false (fun e => hpa (congrArg Rc.Rec.page e))]
    have npa : (rpa == spa) = false := by simp [hpa]
    have mpa : (rpa != spa) = true := by simp [hpa]
    clear hpa
    obtain ⟨rk, rs, rx, ry⟩ := rop
    obtain ⟨sk, ss, sx, sy⟩ := sop
    obtain ⟨rek1, rek2, rek3⟩ := rek
    obtain ⟨sek1, sek2, sek3⟩ := sek
    go_enter Try.func66, Try.ntmps66
    go_wp2_with fail
    go_ret
    exact ⟨by simp, pastAlloc (allocB _ _)⟩
  subst hpa
  by_cases hne : rne = sne
  rotate_left
  · rw [decide_eq_false (fun e => hne (congrArg Rc.Rec.next e))]
    have nne : (rne == sne) = false := by simp [hne]
    have mne : (rne != sne) = true := by simp [hne]
    clear hne
    obtain ⟨rk, rs, rx, ry⟩ := rop
    obtain ⟨sk, ss, sx, sy⟩ := sop
    obtain ⟨rek1, rek2, rek3⟩ := rek
    obtain ⟨sek1, sek2, sek3⟩ := sek
    go_enter Try.func66, Try.ntmps66
    go_wp2_with fail
    go_ret
    exact ⟨by simp, pastAlloc (allocB _ _)⟩
  subst hne
  by_cases hnu : rnu = snu
  rotate_left
  · rw [decide_eq_false (fun e => hnu (congrArg Rc.Rec.num e))]
    have nnu : (rnu == snu) = false := by simp [hnu]
    have mnu : (rnu != snu) = true := by simp [hnu]
    clear hnu
    obtain ⟨rk, rs, rx, ry⟩ := rop
    obtain ⟨sk, ss, sx, sy⟩ := sop
    obtain ⟨rek1, rek2, rek3⟩ := rek
    obtain ⟨sek1, sek2, sek3⟩ := sek
    go_enter Try.func66, Try.ntmps66
    go_wp2_with fail
    go_ret
    exact ⟨by simp, pastAlloc (allocB _ _)⟩
  subst hnu
  cases hop : decide (rop = sop) with
  | false =>
    rw [decide_eq_false (fun e => of_decide_eq_false hop (congrArg Rc.Rec.op e))]
    have eop := HO.out
    rw [hop] at eop
    clear hop
    obtain ⟨rk, rs, rx, ry⟩ := rop
    obtain ⟨sk, ss, sx, sy⟩ := sop
    obtain ⟨rek1, rek2, rek3⟩ := rek
    obtain ⟨sek1, sek2, sek3⟩ := sek
    go_enter Try.func66, Try.ntmps66
    go_wp2_with fail
    go_ret
    exact ⟨by simp, pastAlloc (allocB _ _)⟩
  | true =>
  have eop := HO.out
  rw [hop] at eop
  have Dop := Lib.hid (of_decide_eq_true hop)
  clear hop HO
  by_cases hho : rho = sho
  rotate_left
  · rw [decide_eq_false (fun e => hho (congrArg Rc.Rec.how e))]
    have nho : (rho == sho) = false := by simp [hho]
    have mho : (rho != sho) = true := by simp [hho]
    clear hho
    obtain ⟨rk, rs, rx, ry⟩ := rop
    obtain ⟨sk, ss, sx, sy⟩ := sop
    obtain ⟨rek1, rek2, rek3⟩ := rek
    obtain ⟨sek1, sek2, sek3⟩ := sek
    go_enter Try.func66, Try.ntmps66
    go_wp2_with fail
    go_ret
    exact ⟨by simp, pastAlloc (allocB _ _)⟩
  subst hho
  by_cases hro : rro = sro
  rotate_left
  · rw [decide_eq_false (fun e => hro (congrArg Rc.Rec.root e))]
    have nro : (rro == sro) = false := by simp [hro]
    have mro : (rro != sro) = true := by simp [hro]
    clear hro
    obtain ⟨rk, rs, rx, ry⟩ := rop
    obtain ⟨sk, ss, sx, sy⟩ := sop
    obtain ⟨rek1, rek2, rek3⟩ := rek
    obtain ⟨sek1, sek2, sek3⟩ := sek
    go_enter Try.func66, Try.ntmps66
    go_wp2_with fail
    go_ret
    exact ⟨by simp, pastAlloc (allocB _ _)⟩
  subst hro
  cases hek : decide (rek = sek) with
  | false =>
    rw [decide_eq_false (fun e => of_decide_eq_false hek (congrArg Rc.Rec.e e))]
    have eek := HK.out
    rw [hek] at eek
    clear hek
    obtain ⟨rk, rs, rx, ry⟩ := rop
    obtain ⟨sk, ss, sx, sy⟩ := sop
    obtain ⟨rek1, rek2, rek3⟩ := rek
    obtain ⟨sek1, sek2, sek3⟩ := sek
    go_enter Try.func66, Try.ntmps66
    go_wp2_with fail
    go_ret
    exact ⟨by simp, pastAlloc (allocB _ _)⟩
  | true =>
  have eek := HK.out
  rw [hek] at eek
  have Dek := Lib.hid (of_decide_eq_true hek)
  clear hek HK
  cases hts' : decide (rts = sts) with
  | false =>
    have Dts := Lib.hid hts'
    rw [decide_eq_false (fun e => of_decide_eq_false hts' (congrArg Rc.Rec.txns e))]
    clear hts'
    obtain ⟨rk, rs, rx, ry⟩ := rop
    obtain ⟨sk, ss, sx, sy⟩ := sop
    obtain ⟨rek1, rek2, rek3⟩ := rek
    obtain ⟨sek1, sek2, sek3⟩ := sek
    go_enter Try.func66, Try.ntmps66
    go_wp2_with (first | (go_at_call 98; (with_reducible refine (HT.out _ ?_).mono ?_); (exact pastAlloc (allocB _ _)); rintro e w2 ⟨rfl, hb2⟩; have hx1 := blkOld (new21 _ _ _) hb2; have hx2 := blkOld (new2 _ _ _) hb2; have q1 := blkCell hx1 17; have q2 := blkCell hx2 17; clear hx1 hx2; simp at q1 q2; rw [Dts.out]))
    go_ret
    exact ⟨by simp, joinB (pastAlloc (allocB _ _)) hb2⟩
  | true =>
  have Bts := Lib.hid hts'
  have Dts := Lib.hid (of_decide_eq_true hts')
  clear hts'
  cases hds' : decide (rds = sds) with
  | false =>
    have Dds := Lib.hid hds'
    rw [decide_eq_false (fun e => of_decide_eq_false hds' (congrArg Rc.Rec.dirty e))]
    clear hds'
    obtain ⟨rk, rs, rx, ry⟩ := rop
    obtain ⟨sk, ss, sx, sy⟩ := sop
    obtain ⟨rek1, rek2, rek3⟩ := rek
    obtain ⟨sek1, sek2, sek3⟩ := sek
    go_enter Try.func66, Try.ntmps66
    go_wp2_with (first | (go_at_call 98; (with_reducible refine (HT.out _ ?_).mono ?_); (exact pastAlloc (allocB _ _)); rintro e w2 ⟨rfl, hb2⟩; have hx1 := blkOld (new21 _ _ _) hb2; have hx2 := blkOld (new2 _ _ _) hb2; have q1 := blkCell hx1 17; have q2 := blkCell hx2 17; clear hx1 hx2; simp at q1 q2; rw [Bts.out]) | (go_at_call 99; (with_reducible refine (HD.out _ ?_).mono ?_); (exact joinB (pastAlloc (allocB _ _)) hb2); rintro e w3 ⟨rfl, hb3⟩; rw [Dds.out]))
    go_ret
    exact ⟨by simp, joinB (joinB (pastAlloc (allocB _ _)) hb2) hb3⟩
  | true =>
  have Bds := Lib.hid hds'
  have Dds := Lib.hid (of_decide_eq_true hds')
  clear hds'
  rw [decide_eq_true (by rw [Dop.out, Dek.out, Dts.out, Dds.out])]
  clear Dop Dek Dts Dds
  obtain ⟨rk, rs, rx, ry⟩ := rop
  obtain ⟨sk, ss, sx, sy⟩ := sop
  obtain ⟨rek1, rek2, rek3⟩ := rek
  obtain ⟨sek1, sek2, sek3⟩ := sek
  go_enter Try.func66, Try.ntmps66
  go_wp2_with (first | (go_at_call 98; (with_reducible refine (HT.out _ ?_).mono ?_); (exact pastAlloc (allocB _ _)); rintro e w2 ⟨rfl, hb2⟩; have hx1 := blkOld (new21 _ _ _) hb2; have hx2 := blkOld (new2 _ _ _) hb2; have q1 := blkCell hx1 17; have q2 := blkCell hx2 17; clear hx1 hx2; simp at q1 q2; rw [Bts.out]) | (go_at_call 99; (with_reducible refine (HD.out _ ?_).mono ?_); (exact joinB (pastAlloc (allocB _ _)) hb2); rintro e w3 ⟨rfl, hb3⟩; rw [Bds.out]))
  go_ret
  exact ⟨by simp, joinB (joinB (pastAlloc (allocB _ _)) hb2) hb3⟩
end Go.Proofs.Ytojaagnfjenhoaa
/- Which records may be, kind by kind. -/
namespace Rc
abbrev N3 (a b c : Int) : Prop := num a ∧ num b ∧ num c
theorem right_2 (lsn prev txn page next nu how root : Int) (op : Op) (e : Key) (ts : List TxnAt) (ds : List DirtyAt) :
    Right ⟨lsn, prev, txn, 2, page, next, nu, op, how, root, e, ts, ds⟩ ↔ N3 lsn prev txn ∧ ((pg page ∧ opR op) ∧ treeR ⟨lsn, prev, txn, 2, page, next, nu, op, how, root, e, ts, ds⟩) ∧ (⟨lsn, prev, txn, 2, page, 0, 0, op, how, root, e, [], []⟩ : Rec) = ⟨lsn, prev, txn, 2, page, next, nu, op, how, root, e, ts, ds⟩ := by
  constructor
  · intro h
    have f := form_of h
    have h1 := f.change (Or.inl rfl)
    have h2 : next = 0 := f.noNext (fun h => by rcases h with h | h <;> cases h)
    obtain ⟨h3, h4, h5⟩ := f.noLists (fun h => by cases h)
    simp only at h3 h4 h5
    subst h2 h3 h4 h5
    exact ⟨f.nums, ⟨h1, f.tree rfl⟩, rfl⟩
  · rintro ⟨⟨h1, h2, h3⟩, ⟨⟨h4, h5⟩, h6⟩, h7⟩
    rw [← h7]
    exact Right.change _ _ _ _ _ _ _ _ h1 h2 h3 h4 h5 h6
theorem right_3 (lsn prev txn page next nu how root : Int) (op : Op) (e : Key) (ts : List TxnAt) (ds : List DirtyAt) :
    Right ⟨lsn, prev, txn, 3, page, next, nu, op, how, root, e, ts, ds⟩ ↔ N3 lsn prev txn ∧ ((pg page ∧ opR op) ∧ num next) ∧ (⟨lsn, prev, txn, 3, page, next, 0, op, 0, 0, noKey, [], []⟩ : Rec) = ⟨lsn, prev, txn, 3, page, next, nu, op, how, root, e, ts, ds⟩ := by
  constructor
  · intro h
    have f := form_of h
    have h1 := f.change (Or.inr (Or.inl rfl))
    obtain ⟨g1, g2, g3⟩ := f.noTree (fun h => by cases h)
    obtain ⟨h3, h4, h5⟩ := f.noLists (fun h => by cases h)
    simp only at h3 h4 h5 g1 g2 g3
    subst h3 h4 h5 g1 g2 g3
    exact ⟨f.nums, ⟨h1, f.next (Or.inl rfl)⟩, rfl⟩
  · rintro ⟨⟨h1, h2, h3⟩, ⟨⟨h4, h5⟩, h6⟩, h7⟩
    rw [← h7]
    exact Right.clr _ _ _ _ _ _ h1 h2 h3 h4 h5 h6
theorem right_4 (lsn prev txn page next nu how root : Int) (op : Op) (e : Key) (ts : List TxnAt) (ds : List DirtyAt) :
    Right ⟨lsn, prev, txn, 4, page, next, nu, op, how, root, e, ts, ds⟩ ↔ N3 lsn prev txn ∧ num next ∧ (⟨lsn, prev, txn, 4, 0, next, 0, noOp, 0, 0, noKey, [], []⟩ : Rec) = ⟨lsn, prev, txn, 4, page, next, nu, op, how, root, e, ts, ds⟩ := by
  constructor
  · intro h
    have f := form_of h
    obtain ⟨i1, i2⟩ := f.bare (fun h => by rcases h with h | h | h <;> cases h)
    obtain ⟨g1, g2, g3⟩ := f.noTree (fun h => by cases h)
    obtain ⟨h3, h4, h5⟩ := f.noLists (fun h => by cases h)
    simp only at h3 h4 h5 g1 g2 g3 i1 i2
    subst h3 h4 h5 g1 g2 g3 i1 i2
    exact ⟨f.nums, f.next (Or.inr rfl), rfl⟩
  · rintro ⟨⟨h1, h2, h3⟩, h6, h7⟩
    rw [← h7]
    exact Right.nest _ _ _ _ h1 h2 h3 h6
theorem right_8 (lsn prev txn page next nu how root : Int) (op : Op) (e : Key) (ts : List TxnAt) (ds : List DirtyAt) :
    Right ⟨lsn, prev, txn, 8, page, next, nu, op, how, root, e, ts, ds⟩ ↔ N3 lsn prev txn ∧ (pg page ∧ opR op) ∧ (⟨lsn, prev, txn, 8, page, 0, 0, op, 0, 0, noKey, [], []⟩ : Rec) = ⟨lsn, prev, txn, 8, page, next, nu, op, how, root, e, ts, ds⟩ := by
  constructor
  · intro h
    have f := form_of h
    have h1 := f.change (Or.inr (Or.inr rfl))
    have h2 : next = 0 := f.noNext (fun h => by rcases h with h | h <;> cases h)
    obtain ⟨g1, g2, g3⟩ := f.noTree (fun h => by cases h)
    obtain ⟨h3, h4, h5⟩ := f.noLists (fun h => by cases h)
    simp only at h3 h4 h5 g1 g2 g3
    subst h2 h3 h4 h5 g1 g2 g3
    exact ⟨f.nums, h1, rfl⟩
  · rintro ⟨⟨h1, h2, h3⟩, ⟨h4, h5⟩, h7⟩
    rw [← h7]
    exact Right.image _ _ _ _ _ h1 h2 h3 h4 h5
theorem right_9 (lsn prev txn page next nu how root : Int) (op : Op) (e : Key) (ts : List TxnAt) (ds : List DirtyAt) :
    Right ⟨lsn, prev, txn, 9, page, next, nu, op, how, root, e, ts, ds⟩ ↔ N3 lsn prev txn ∧ (((num nu ∧ ts.length ≤ 1000 ∧ ds.length ≤ 2000) ∧ ∀ t ∈ ts, txnR t) ∧ ∀ d ∈ ds, dirtyR d) ∧ (⟨lsn, prev, txn, 9, 0, 0, nu, noOp, 0, 0, noKey, ts, ds⟩ : Rec) = ⟨lsn, prev, txn, 9, page, next, nu, op, how, root, e, ts, ds⟩ := by
  constructor
  · intro h
    have f := form_of h
    obtain ⟨i1, i2⟩ := f.bare (fun h => by rcases h with h | h | h <;> cases h)
    have h2 : next = 0 := f.noNext (fun h => by rcases h with h | h <;> cases h)
    obtain ⟨g1, g2, g3⟩ := f.noTree (fun h => by cases h)
    obtain ⟨j1, j2, j3, j4, j5⟩ := f.lists rfl
    simp only at g1 g2 g3 i1 i2
    subst h2 g1 g2 g3 i1 i2
    exact ⟨f.nums, ⟨⟨⟨j1, j2, j3⟩, j4⟩, j5⟩, rfl⟩
  · rintro ⟨⟨h1, h2, h3⟩, ⟨⟨⟨j1, j2, j3⟩, j4⟩, j5⟩, h7⟩
    rw [← h7]
    exact Right.check _ _ _ _ _ _ h1 h2 h3 j1 ⟨j2, j3, j4, j5⟩
theorem right_small (kind : Int) (hk : kind = 1 ∨ kind = 5 ∨ kind = 6 ∨ kind = 7) (lsn prev txn page next nu how root : Int) (op : Op) (e : Key) (ts : List TxnAt) (ds : List DirtyAt) :
    Right ⟨lsn, prev, txn, kind, page, next, nu, op, how, root, e, ts, ds⟩ ↔ N3 lsn prev txn ∧ (⟨lsn, prev, txn, kind, 0, 0, 0, noOp, 0, 0, noKey, [], []⟩ : Rec) = ⟨lsn, prev, txn, kind, page, next, nu, op, how, root, e, ts, ds⟩ := by
  constructor
  · intro h
    have f := form_of h
    obtain ⟨i1, i2⟩ := f.bare (fun h => by unfold hasChange at h; simp only at h; omega)
    have h2 : next = 0 := f.noNext (fun h => by unfold hasNext at h; simp only at h; omega)
    obtain ⟨g1, g2, g3⟩ := f.noTree (fun h => by simp only at h; omega)
    obtain ⟨h3, h4, h5⟩ := f.noLists (fun h => by simp only at h; omega)
    simp only at h3 h4 h5 g1 g2 g3 i1 i2
    subst h2 h3 h4 h5 g1 g2 g3 i1 i2
    exact ⟨f.nums, rfl⟩
  · rintro ⟨⟨h1, h2, h3⟩, h7⟩
    rw [← h7]
    exact Right.small _ _ _ _ hk h1 h2 h3
theorem right_none {r : Rec} (h : ¬ (1 ≤ r.kind ∧ r.kind ≤ 9)) : ¬ Right r := fun hr => h (form_of hr).kind
end Rc
/- The walk over package rec: Right, of one kind. -/
namespace Go.Proofs.Ytojaagnfjenhoaa
open Go.RowKit
set_option maxRecDepth 100000 in
set_option maxHeartbeats 2000000 in
theorem right_change (lsn prev txn page next nu ok os how root ep es : Int) (oo on ek : ByteArray) (ts : List Rc.TxnAt) (ds : List Rc.DirtyAt) (A B : Option Addr) (c d : Nat) (w : World) (hr : RecR w ⟨lsn, prev, txn, 2, page, next, nu, ⟨ok, os, oo, on⟩, how, root, ⟨ek, ep, es⟩, ts, ds⟩ A c B d) :
    Calls Try.prog 37 #[.agg #[.int .i64 lsn, .int .i64 prev, .int .i64 txn, .int .i64 2, .int .i64 page, .int .i64 next, .int .i64 nu, .int .i64 ok, .int .i64 os, .string oo, .string on, .int .i64 how, .int .i64 root, .string ek, .int .i64 ep, .int .i64 es, .slice A ts.length c, .slice B ds.length d]] w fun e w' => e = .returned (.bool (Rc.rightB ⟨lsn, prev, txn, 2, page, next, nu, ⟨ok, os, oo, on⟩, how, root, ⟨ek, ep, es⟩, ts, ds⟩)) ∧ Below w.heap.size w w' := by
  have HOF := Lib.hid (fun W => of_any 2 W)
  rw [show ofV 2 = .tuple #[formV true true false false true, .bool true] from rfl] at HOF
  have HNO := Lib.hid (fun W g h => number3 lsn prev txn W g h)
  obtain ⟨Q, hQ⟩ : ∃ Q, Q = Rc.rightB ⟨lsn, prev, txn, 2, page, next, nu, ⟨ok, os, oo, on⟩, how, root, ⟨ek, ep, es⟩, ts, ds⟩ := ⟨_, rfl⟩
  rw [← hQ]
  have HQ := Lib.hid hQ
  have hsm := hr.small
  simp only at hsm
  have hsm1 := hsm.1
  have hsm2 := hsm.2
  have HRR := Lib.hid hr
  clear hQ hr hsm
  have RI := Lib.hid (Rc.right_2 lsn prev txn page next nu how root ⟨ok, os, oo, on⟩ ⟨ek, ep, es⟩ ts ds)
  cases hn : decide (Rc.num lsn ∧ Rc.num prev ∧ Rc.num txn) with
  | false =>
    rw [hn] at HNO
    have HF := Lib.hid (HQ.out.trans (Rc.rightB_no fun h => of_decide_eq_false hn (RI.out.1 h).1))
    clear hn RI
    go_enter Try.func37, Try.ntmps37
    go_wp2_with (first
      | (go_at_call 56; (with_reducible refine (HOF.out _).mono ?_); rintro e w1 ⟨rfl, hb1⟩; have hR := blkCell (blkNew hb1); have hl1 : w.heap.size < w1.heap.size := (by have := hb1.size; simp at this; omega); have HB1 := Lib.hid hb1; clear hb1)
      | (go_at_call 58; (with_reducible refine (HNO.out _ _ ?_).mono ?_); (with_reducible exact new2 _ _ _); rintro e w2 ⟨rfl, hb2⟩; have hR2 := blkCell (blkOld (blkNew HB1.out) (joinB (pastAlloc (allocB _ _)) hb2)); have hl2 : w1.heap.size + 1 < w2.heap.size := (by have := hb2.size; simp at this; omega); have HB2 := Lib.hid hb2; clear hb2)
      | (with_reducible refine wpList_store_new rfl 49 (.tmp 5) (.tmp 33) rfl #[.int .i64 lsn, .int .i64 prev, .int .i64 txn, .int .i64 2, .int .i64 0, .int .i64 0, .int .i64 0, .int .i64 0, .int .i64 0, .string ⟨#[]⟩, .string ⟨#[]⟩, .int .i64 0, .int .i64 0, .string ⟨#[]⟩, .int .i64 0, .int .i64 0, .slice none 0 0, .slice none 0 0] _ _ rfl (by kernel_rfl) (by kernel_rfl) (by kernel_rfl) (by kernel_rfl) ?_))
    go_ret
    exact ⟨by rw [HF.out]; rfl, joinB (joinB (allocB _ _) HB1.out) (joinB (pastAlloc (allocB _ _)) HB2.out)⟩
  | true =>
    rw [hn] at HNO
    have HN := Lib.hid (of_decide_eq_true hn)
    clear hn
    go_enter Try.func37, Try.ntmps37
    go_upto_region 5 with (first
      | (go_at_call 56; (with_reducible refine (HOF.out _).mono ?_); rintro e w1 ⟨rfl, hb1⟩; have hR := blkCell (blkNew hb1); have hl1 : w.heap.size < w1.heap.size := (by have := hb1.size; simp at this; omega); have HB1 := Lib.hid hb1; clear hb1)
      | (go_at_call 58; (with_reducible refine (HNO.out _ _ ?_).mono ?_); (with_reducible exact new2 _ _ _); rintro e w2 ⟨rfl, hb2⟩; have hR2 := blkCell (blkOld (blkNew HB1.out) (joinB (pastAlloc (allocB _ _)) hb2)); have hl2 : w1.heap.size + 1 < w2.heap.size := (by have := hb2.size; simp at this; omega); have HB2 := Lib.hid hb2; clear hb2)
      | (with_reducible refine wpList_store_new rfl 49 (.tmp 5) (.tmp 33) rfl #[.int .i64 lsn, .int .i64 prev, .int .i64 txn, .int .i64 2, .int .i64 0, .int .i64 0, .int .i64 0, .int .i64 0, .int .i64 0, .string ⟨#[]⟩, .string ⟨#[]⟩, .int .i64 0, .int .i64 0, .string ⟨#[]⟩, .int .i64 0, .int .i64 0, .slice none 0 0, .slice none 0 0] _ _ rfl (by kernel_rfl) (by kernel_rfl) (by kernel_rfl) (by kernel_rfl) ?_))
    have HX := Lib.hid (boxes_new (R := #[.int .i64 lsn, .int .i64 prev, .int .i64 txn, .int .i64 2, .int .i64 page, .int .i64 next, .int .i64 nu, .int .i64 ok, .int .i64 os, .string oo, .string on, .int .i64 how, .int .i64 root, .string ek, .int .i64 ep, .int .i64 es, .slice A ts.length c, .slice B ds.length d]) (F := #[.bool true, .bool true, .bool false, .bool false, .bool true]) (X := #[.int .i64 lsn, .int .i64 prev, .int .i64 txn, .int .i64 2, .int .i64 0, .int .i64 0, .int .i64 0, .int .i64 0, .int .i64 0, .string ⟨#[]⟩, .string ⟨#[]⟩, .int .i64 0, .int .i64 0, .string ⟨#[]⟩, .int .i64 0, .int .i64 0, .slice none 0 0, .slice none 0 0]) HB1.out HB2.out)
    clear hR hR2 HNO HOF HB1 HB2
    obtain ⟨V, hV⟩ : ∃ V, V = w2.alloc (.cells #[.int .i64 lsn, .int .i64 prev, .int .i64 txn, .int .i64 2, .int .i64 0, .int .i64 0, .int .i64 0, .int .i64 0, .int .i64 0, .string ⟨#[]⟩, .string ⟨#[]⟩, .int .i64 0, .int .i64 0, .string ⟨#[]⟩, .int .i64 0, .int .i64 0, .slice none 0 0, .slice none 0 0] 49) := ⟨_, rfl⟩
    rw [← hV] at HX ⊢
    clear hV
    have hR := blkCell HX.out.br
    have hF := blkCell HX.out.bf
    go_upto_region 6 with (fail)
    go_cut [4] (fun s we => s = .bool (decide (Rc.pg page) && decide (Rc.opR ⟨ok, os, oo, on⟩)) ∧ Boxes w w.heap.size w1.heap.size w2.heap.size #[.int .i64 lsn, .int .i64 prev, .int .i64 txn, .int .i64 2, .int .i64 page, .int .i64 next, .int .i64 nu, .int .i64 ok, .int .i64 os, .string oo, .string on, .int .i64 how, .int .i64 root, .string ek, .int .i64 ep, .int .i64 es, .slice A ts.length c, .slice B ds.length d] #[.bool true, .bool true, .bool false, .bool false, .bool true] #[.int .i64 lsn, .int .i64 prev, .int .i64 txn, .int .i64 2, .int .i64 0, .int .i64 0, .int .i64 0, .int .i64 0, .int .i64 0, .string ⟨#[]⟩, .string ⟨#[]⟩, .int .i64 0, .int .i64 0, .string ⟨#[]⟩, .int .i64 0, .int .i64 0, .slice none 0 0, .slice none 0 0] we)
    case first =>
      cases hp : decide (Rc.pg page) with
      | false =>
        have HP := Lib.hid hp
        clear hp
        go_wp2_with (first | (go_at_call 59; (with_reducible refine (paged1 page _ _ ?_).mono ?_); (with_reducible exact heap_alloc_new _ _); rintro e w3 ⟨rfl, hb3⟩; rw [HP.out]))
        go_meet
        case rel => exact ⟨by simp [HP.out], HX.out.step (joinB (allocB _ _) hb3)⟩
      | true =>
        have HP := Lib.hid hp
        clear hp
        generalize hqo : decide (Rc.opR ⟨ok, os, oo, on⟩) = qo
        have HO := Lib.hid hqo
        clear hqo
        go_wp2_with (first | (go_at_call 59; (with_reducible refine (paged1 page _ _ ?_).mono ?_); (with_reducible exact heap_alloc_new _ _); rintro e w3 ⟨rfl, hb3⟩; rw [HP.out]; have hR3 := blkCell (HX.out.step (joinB (allocB _ _) hb3)).br) | (go_at_call 60; (with_reducible refine (op_any ⟨ok, os, oo, on⟩ _).mono ?_); rintro e w4 ⟨rfl, hb4⟩; rw [HO.out]))
        go_meet
        case rel => exact ⟨by simp [HP.out, HO.out], (HX.out.step (joinB (allocB _ _) hb3)).step hb4⟩
    case rest =>
    obtain ⟨W1, rfl⟩ : ∃ wm : World, wm = wc := ⟨_, rfl⟩
    obtain ⟨rfl, hB1⟩ := hcut
    have H1 := Lib.hid hB1
    clear hR hF hB1 HX
    have hR := blkCell H1.out.br
    have hF := blkCell H1.out.bf
    have hXc := blkCell H1.out.bx
    have hXz := blkFrozen H1.out.bx
    have hne : w.heap.size ≠ w2.heap.size := by have := H1.out.ab; omega
    go_upto_region 7 with (fail)
    go_cut [] (fun we => Boxes w w.heap.size w1.heap.size w2.heap.size #[.int .i64 lsn, .int .i64 prev, .int .i64 txn, .int .i64 2, .int .i64 page, .int .i64 next, .int .i64 nu, .int .i64 ok, .int .i64 os, .string oo, .string on, .int .i64 how, .int .i64 root, .string ek, .int .i64 ep, .int .i64 es, .slice A ts.length c, .slice B ds.length d] #[.bool true, .bool true, .bool false, .bool false, .bool true] #[.int .i64 lsn, .int .i64 prev, .int .i64 txn, .int .i64 2, .int .i64 page, .int .i64 0, .int .i64 0, .int .i64 ok, .int .i64 os, .string oo, .string on, .int .i64 0, .int .i64 0, .string ⟨#[]⟩, .int .i64 0, .int .i64 0, .slice none 0 0, .slice none 0 0] we)
    case first =>
      go_region
      all_goals
        go_wp2_with fail
        go_meet
        case rel =>
          first
            | (have h := (((((H1.out.set 4 (.int .i64 page)).set 7 (.int .i64 ok)).set 8 (.int .i64 os)).set 9 (.string oo)).set 10 (.string on)).drew; simpa using h)
            | (have h := (((((H1.out.set 7 (.int .i64 ok)).set 8 (.int .i64 os)).set 9 (.string oo)).set 10 (.string on)).set 4 (.int .i64 page)).drew; simpa using h)
    case rest =>
    obtain ⟨W2, rfl⟩ : ∃ wm : World, wm = wc := ⟨_, rfl⟩
    have H2 := Lib.hid hcut
    clear hR hF hXc hXz hcut H1
    have hR := blkCell H2.out.br
    have hF := blkCell H2.out.bf
    go_upto_region 9 with (fail)
    go_cut [4] (fun s we => s = .bool ((decide (Rc.pg page) && decide (Rc.opR ⟨ok, os, oo, on⟩)) && decide (Rc.treeR ⟨lsn, prev, txn, 2, page, next, nu, ⟨ok, os, oo, on⟩, how, root, ⟨ek, ep, es⟩, ts, ds⟩)) ∧ Boxes w w.heap.size w1.heap.size w2.heap.size #[.int .i64 lsn, .int .i64 prev, .int .i64 txn, .int .i64 2, .int .i64 page, .int .i64 next, .int .i64 nu, .int .i64 ok, .int .i64 os, .string oo, .string on, .int .i64 how, .int .i64 root, .string ek, .int .i64 ep, .int .i64 es, .slice A ts.length c, .slice B ds.length d] #[.bool true, .bool true, .bool false, .bool false, .bool true] #[.int .i64 lsn, .int .i64 prev, .int .i64 txn, .int .i64 2, .int .i64 page, .int .i64 0, .int .i64 0, .int .i64 ok, .int .i64 os, .string oo, .string on, .int .i64 0, .int .i64 0, .string ⟨#[]⟩, .int .i64 0, .int .i64 0, .slice none 0 0, .slice none 0 0] we)
    case first =>
      generalize hqa : (decide (Rc.pg page) && decide (Rc.opR ⟨ok, os, oo, on⟩)) = qa
      have HA := Lib.hid hqa
      clear hqa
      cases qa with
      | false =>
        go_wp2_with fail
        go_meet
        case rel => exact ⟨by simp [HA.out], H2.out⟩
      | true =>
        generalize hqt : decide (Rc.treeR ⟨lsn, prev, txn, 2, page, next, nu, ⟨ok, os, oo, on⟩, how, root, ⟨ek, ep, es⟩, ts, ds⟩) = qt
        have HT := Lib.hid hqt
        clear hqt
        go_wp2_with (first | (with_reducible refine listLoad (by kernel_rfl) 49 (.tmp 1) rfl w.heap.size rfl #[.int .i64 lsn, .int .i64 prev, .int .i64 txn, .int .i64 2, .int .i64 page, .int .i64 next, .int .i64 nu, .int .i64 ok, .int .i64 os, .string oo, .string on, .int .i64 how, .int .i64 root, .string ek, .int .i64 ep, .int .i64 es, .slice A ts.length c, .slice B ds.length d] _ H2.out.br _ Try.underlying49 (by kernel_rfl) (by kernel_rfl) ?_) | (go_at_call 61; (with_reducible refine (tree_any ⟨lsn, prev, txn, 2, page, next, nu, ⟨ok, os, oo, on⟩, how, root, ⟨ek, ep, es⟩, ts, ds⟩ (.slice A ts.length c) (.slice B ds.length d) _).mono ?_); rintro e w5 ⟨rfl, hb5⟩; rw [HT.out]))
        go_meet
        case rel => exact ⟨by simp [HA.out, HT.out], H2.out.step hb5⟩
    case rest =>
    obtain ⟨W3, rfl⟩ : ∃ wm : World, wm = wc := ⟨_, rfl⟩
    obtain ⟨rfl, hB3⟩ := hcut
    have H3 := Lib.hid hB3
    clear hR hF hB3 H2
    have hR := blkCell H3.out.br
    have hF := blkCell H3.out.bf
    have hXc := blkCell H3.out.bx
    have hXz := blkFrozen H3.out.bx
    have hne : w.heap.size ≠ w2.heap.size := by have := H3.out.ab; omega
    go_upto_region 10 with (fail)
    go_cut [] (fun we => Boxes w w.heap.size w1.heap.size w2.heap.size #[.int .i64 lsn, .int .i64 prev, .int .i64 txn, .int .i64 2, .int .i64 page, .int .i64 next, .int .i64 nu, .int .i64 ok, .int .i64 os, .string oo, .string on, .int .i64 how, .int .i64 root, .string ek, .int .i64 ep, .int .i64 es, .slice A ts.length c, .slice B ds.length d] #[.bool true, .bool true, .bool false, .bool false, .bool true] #[.int .i64 lsn, .int .i64 prev, .int .i64 txn, .int .i64 2, .int .i64 page, .int .i64 0, .int .i64 0, .int .i64 ok, .int .i64 os, .string oo, .string on, .int .i64 how, .int .i64 root, .string ek, .int .i64 ep, .int .i64 es, .slice none 0 0, .slice none 0 0] we)
    case first =>
      go_region
      all_goals
        go_wp2_with fail
        go_meet
        case rel =>
          first
            | (have h := (((((H3.out.set 11 (.int .i64 how)).set 12 (.int .i64 root)).set 13 (.string ek)).set 14 (.int .i64 ep)).set 15 (.int .i64 es)).drew; simpa using h)
            | (have h := (((((H3.out.set 11 (.int .i64 how)).set 13 (.string ek)).set 14 (.int .i64 ep)).set 15 (.int .i64 es)).set 12 (.int .i64 root)).drew; simpa using h)
            | (have h := (((((H3.out.set 12 (.int .i64 root)).set 11 (.int .i64 how)).set 13 (.string ek)).set 14 (.int .i64 ep)).set 15 (.int .i64 es)).drew; simpa using h)
            | (have h := (((((H3.out.set 12 (.int .i64 root)).set 13 (.string ek)).set 14 (.int .i64 ep)).set 15 (.int .i64 es)).set 11 (.int .i64 how)).drew; simpa using h)
            | (have h := (((((H3.out.set 13 (.string ek)).set 14 (.int .i64 ep)).set 15 (.int .i64 es)).set 11 (.int .i64 how)).set 12 (.int .i64 root)).drew; simpa using h)
            | (have h := (((((H3.out.set 13 (.string ek)).set 14 (.int .i64 ep)).set 15 (.int .i64 es)).set 12 (.int .i64 root)).set 11 (.int .i64 how)).drew; simpa using h)
    case rest =>
    obtain ⟨W4, rfl⟩ : ∃ wm : World, wm = wc := ⟨_, rfl⟩
    have H4 := Lib.hid hcut
    clear hR hF hXc hXz hcut H3
    have hR := blkCell H4.out.br
    have hF := blkCell H4.out.bf
    go_upto_region 19 with (fail)
    generalize hqa : ((decide (Rc.pg page) && decide (Rc.opR ⟨ok, os, oo, on⟩)) && decide (Rc.treeR ⟨lsn, prev, txn, 2, page, next, nu, ⟨ok, os, oo, on⟩, how, root, ⟨ek, ep, es⟩, ts, ds⟩)) = qa
    have HA := Lib.hid hqa
    clear hqa
    cases qa with
    | false =>
      go_wp2_with fail
      go_ret
      refine ⟨?_, H4.out.below⟩
      have HF := HQ.out.trans (Rc.rightB_no fun h => by
        have h2 := (RI.out.1 h).2.1
        have h3 := HA.out
        simp only [Bool.and_eq_false_iff, decide_eq_false_iff_not] at h3
        grind)
      rw [HF]
      rfl
    | true =>
      have HS := Lib.hid (same_any ⟨lsn, prev, txn, 2, page, 0, 0, ⟨ok, os, oo, on⟩, how, root, ⟨ek, ep, es⟩, [], []⟩ ⟨lsn, prev, txn, 2, page, next, nu, ⟨ok, os, oo, on⟩, how, root, ⟨ek, ep, es⟩, ts, ds⟩ none A none B 0 c 0 d W4 ⟨(Reads.none_ _ _ _ _), (Reads.none_ _ _ _ _), ⟨by simp, by simp⟩⟩ (HRR.out.below H4.out.below))
      dsimp only [recV, recA, List.length_nil] at HS
      cases he : decide ((⟨lsn, prev, txn, 2, page, 0, 0, ⟨ok, os, oo, on⟩, how, root, ⟨ek, ep, es⟩, [], []⟩ : Rc.Rec) = ⟨lsn, prev, txn, 2, page, next, nu, ⟨ok, os, oo, on⟩, how, root, ⟨ek, ep, es⟩, ts, ds⟩) with
      | false =>
        have HE := Lib.hid he
        clear he
        go_wp2_with (first | (with_reducible refine listLoad (by kernel_rfl) 49 (.tmp 5) rfl w2.heap.size rfl #[.int .i64 lsn, .int .i64 prev, .int .i64 txn, .int .i64 2, .int .i64 page, .int .i64 0, .int .i64 0, .int .i64 ok, .int .i64 os, .string oo, .string on, .int .i64 how, .int .i64 root, .string ek, .int .i64 ep, .int .i64 es, .slice none 0 0, .slice none 0 0] _ H4.out.bx _ Try.underlying49 (by kernel_rfl) (by kernel_rfl) ?_) | (with_reducible refine listLoad (by kernel_rfl) 49 (.tmp 1) rfl w.heap.size rfl #[.int .i64 lsn, .int .i64 prev, .int .i64 txn, .int .i64 2, .int .i64 page, .int .i64 next, .int .i64 nu, .int .i64 ok, .int .i64 os, .string oo, .string on, .int .i64 how, .int .i64 root, .string ek, .int .i64 ep, .int .i64 es, .slice A ts.length c, .slice B ds.length d] _ H4.out.br _ Try.underlying49 (by kernel_rfl) (by kernel_rfl) ?_) | (go_at_call 66; (with_reducible refine HS.out.mono ?_); rintro e w9 ⟨rfl, hb9⟩; rw [HE.out]))
        go_ret
        refine ⟨?_, joinB H4.out.below hb9⟩
        rw [HQ.out.trans (Rc.rightB_no fun h => of_decide_eq_false HE.out (RI.out.1 h).2.2)]
        rfl
      | true =>
        have HE := Lib.hid he
        clear he
        go_wp2_with (first | (with_reducible refine listLoad (by kernel_rfl) 49 (.tmp 5) rfl w2.heap.size rfl #[.int .i64 lsn, .int .i64 prev, .int .i64 txn, .int .i64 2, .int .i64 page, .int .i64 0, .int .i64 0, .int .i64 ok, .int .i64 os, .string oo, .string on, .int .i64 how, .int .i64 root, .string ek, .int .i64 ep, .int .i64 es, .slice none 0 0, .slice none 0 0] _ H4.out.bx _ Try.underlying49 (by kernel_rfl) (by kernel_rfl) ?_) | (with_reducible refine listLoad (by kernel_rfl) 49 (.tmp 1) rfl w.heap.size rfl #[.int .i64 lsn, .int .i64 prev, .int .i64 txn, .int .i64 2, .int .i64 page, .int .i64 next, .int .i64 nu, .int .i64 ok, .int .i64 os, .string oo, .string on, .int .i64 how, .int .i64 root, .string ek, .int .i64 ep, .int .i64 es, .slice A ts.length c, .slice B ds.length d] _ H4.out.br _ Try.underlying49 (by kernel_rfl) (by kernel_rfl) ?_) | (go_at_call 66; (with_reducible refine HS.out.mono ?_); rintro e w9 ⟨rfl, hb9⟩; rw [HE.out]))
        go_ret
        refine ⟨?_, joinB H4.out.below hb9⟩
        rw [HQ.out.trans (Rc.rightB_yes (RI.out.2 ⟨HN.out, by have h3 := HA.out; simpa only [Bool.and_eq_true, decide_eq_true_eq] using h3, of_decide_eq_true HE.out⟩))]
        rfl
end Go.Proofs.Ytojaagnfjenhoaa
