/- The walk over the reference of records: a checkpoint's bytes. -/
import Derived.Test.YtojaagnfjenhoaaGreatGl13
import Derived.Test.YtojaagnfjenhoaaGreatGl03
import Derived.Test.YtojaagnfjenhoaaGreatGl11
import Derived.Test.YtojaagnfjenhoaaGreatGl05
import Derived.Test.YtojaagnfjenhoaaGreatGl04
namespace Rc
theorem txnB_true (x1 x2 x3 : Int) : txnB ⟨x1, x2, x3, true⟩ = p x1 6 ++ (p x2 6 ++ (p x3 6 ++ p 1 1)) := rfl
theorem txnB_false (x1 x2 x3 : Int) : txnB ⟨x1, x2, x3, false⟩ = p x1 6 ++ (p x2 6 ++ (p x3 6 ++ p 0 1)) := rfl
theorem mk_list (l : List UInt8) : (mk l).data.toList = l := by unfold mk; rfl
theorem flat_take {α : Type} (f : α → List UInt8) (l : List α) (k : Nat) (h : k < l.length) : (l.take (k + 1)).flatMap f = (l.take k).flatMap f ++ f l[k] := by
  rw [List.take_add_one, List.getElem?_eq_getElem h, List.flatMap_append]
  simp
end Rc
namespace Go.Proofs.YtojaagnfjenhoaaGreat
open Go.RowKit
set_option maxRecDepth 100000 in
set_option maxHeartbeats 8000000 in
theorem rcheck_any (r : Rc.Rec) (A B : Option Addr) (c d : Nat) (hts : r.txns.length ≤ 1000) (hds : r.dirty.length ≤ 2000) (w : World) (hr : RecR w r A c B d) :
    Calls Tryz.prog 85 #[recV r (.slice A r.txns.length c) (.slice B r.dirty.length d)] w fun e w' => e = .returned (.string (Rc.mk (Rc.listsB r))) ∧ Below w.heap.size w w' := by
  obtain ⟨lsn, prev, txn, kind, page, next, nu, ⟨ok, os, oo, on⟩, how, root, ⟨ek, ep, es⟩, ts, ds⟩ := r
  dsimp only [recV, recA] at hts hds ⊢
  obtain ⟨R, hR⟩ : ∃ R, R = Rc.mk (Rc.listsB ⟨lsn, prev, txn, kind, page, next, nu, ⟨ok, os, oo, on⟩, how, root, ⟨ek, ep, es⟩, ts, ds⟩) := ⟨_, rfl⟩
  rw [← hR]
  obtain ⟨w0, hw0⟩ : ∃ W, W = w.alloc (.cells (rcA lsn prev txn kind page next nu ok os oo on how root ek ep es (.slice A ts.length c) (.slice B ds.length d)) 42) := ⟨_, rfl⟩
  have HB0 := Lib.hid (show Below w.heap.size w w0 from by rw [hw0]; exact allocB _ _)
  have HX0 := Lib.hid (show w0.heap[w.heap.size]? = some (.cells (rcA lsn prev txn kind page next nu ok os oo on how root ek ep es (.slice A ts.length c) (.slice B ds.length d)) 42 (0, 0)) from by rw [hw0]; exact heap_alloc_new _ _)
  have HT := Lib.hid (show TxR w0 A c ts from hr.txns.below HB0.out)
  have HD := Lib.hid (show DiR w0 B d ds from hr.dirty.below HB0.out)
  have hbw : w.heap.size ≤ w0.heap.size := HB0.out.size
  clear hr
  obtain ⟨B1, hB1⟩ : ∃ b, b = Rc.mk (Rc.p nu 6) := ⟨_, rfl⟩
  have HC1 := Lib.hid (show ∀ W, Calls Tryz.prog 44 #[.int .i64 nu, .int .i64 6] W fun e w' => e = .returned (.string B1) ∧ Below W.heap.size W w' from fun W => by rw [hB1]; exact rput_mk nu 6 (by omega) W)
  obtain ⟨B2, hB2⟩ : ∃ b, b = Rc.mk (Rc.p (ts.length : Int) 2) := ⟨_, rfl⟩
  have HC2 := Lib.hid (show ∀ W, Calls Tryz.prog 44 #[.int .i64 (ts.length : Int), .int .i64 2] W fun e w' => e = .returned (.string B2) ∧ Below W.heap.size W w' from fun W => by rw [hB2]; exact rput_mk (ts.length : Int) 2 (by omega) W)
  obtain ⟨S2, hS2⟩ : ∃ b, b = Rc.mk (Rc.p nu 6 ++ Rc.p (ts.length : Int) 2) := ⟨_, rfl⟩
  have ha2 : ∀ W : World, (Op.stringOp .add B1 B2).run Tryz.prog W = .ok (.string S2) W := fun W => by rw [hB1, hB2, hS2]; exact add_mk _ _ (by simp only [Rc.p_length]; omega) W
  have HS2 := Lib.hid hS2
  have hz2 : S2.size = 8 := by rw [hS2, Rc.mk_size, List.length_append, Rc.p_length, Rc.p_length]
  have hcv : ∀ W : World, (convert 9 74 (.string S2)).run Tryz.prog W = .ok (.slice (some ⟨W.heap.size, 0, none⟩) S2.size (grownCap W S2.size 0 5)) (Lib.bytesWorld W 5 S2) := fun W => Lib.run_convert_string_bytes W 9 74 5 S2 Tryz.underlying9 Tryz.underlying74 Tryz.underlying5
  have HCV := Lib.hid (fun W : World => ownB_conv W S2 (by omega))
  clear hB1 hB2 hS2
  go_enter Tryz.func85, Tryz.ntmps85
  go_upto_region 1 with fail
  rw [← hw0]
  clear hw0
  obtain ⟨g, hg⟩ : ∃ g, g = w.heap.size := ⟨_, rfl⟩
  rw [← hg] at HX0
  rw [← hg]
  have hgw : g < w0.heap.size := heapLt HX0.out
  clear hg
  have Xa0 := blkOld HX0.out (Below.refl _ w0).drew
  have Ya0 := (Below.refl w0.heap.size w0).drew
  refine wp_region_held_drew (S := (fun u => u.heap[g]? = some (.cells (rcA lsn prev txn kind page next nu ok os oo on how root ek ep es (.slice A ts.length c) (.slice B ds.length d)) 42 (0, 0)))) (by kernel_rfl) ?_ (fun hHeld => ?_)
  · first | exact hSn | exact Xa0
  refine tkW 0 (some 8) (v := ?_) rfl ?_ (tkW 1 (some 9) (v := ?_) rfl ?_ (tkW 3 (some 11) (v := ?_) rfl ?_ (tkW 4 (some 12) (v := ?_) rfl ?_ (tkW 5 (some 13) (v := ?_) rfl ?_ ?_))))
  iterate 5 (rotate_left; focus (intro u hSu; have hSv := blkCell hSu; clear hSu; go_simp; (try with_reducible rfl)))
  try simp only [Act.put, pS]
  refine rdH 2 (some 10) rfl (fun K hK => ?_)
  go_simp
  refine (HC1.out _).mono ?_; rintro e va1 ⟨rfl, hb⟩; have Xa1 := blkOld Xa0 hb; have Ya1 := joinB Ya0 hb; try clear hSn
  have hSn := Xa1
  clear hb
  refine hK.out _ _ ?_ (fun hHeld => ?_)
  · first | exact hSn | exact Xa0
  clear hK K
  try simp only [Act.put, pS]
  refine rdH 6 (some 14) rfl (fun K hK => ?_)
  go_simp
  refine (HC2.out _).mono ?_; rintro e va2 ⟨rfl, hb⟩; have Xa2 := blkOld Xa1 hb; have Ya2 := joinB Ya1 hb; try clear hSn
  have hSn := Xa2
  clear hb
  refine hK.out _ _ ?_ (fun hHeld => ?_)
  · first | exact hSn | exact Xa0
  clear hK K
  try simp only [Act.put, pS]
  refine tkW 7 (some 15) (v := ?_) rfl ?_ ?_
  rotate_left
  · intro u hSu; have hSv := blkCell hSu; clear hSu; go_simp; (try with_reducible rfl)
  try simp only [Act.put, pS]
  refine rdH 8 (some 16) rfl (fun K hK => ?_)
  go_simp
  have Xa3 := blkOld Xa2 (below_bytes va2 5 S2); have Ya3 := joinB Ya2 (below_bytes va2 5 S2); have OWN := (HCV.out va2).mono Ya2.size
  try clear hSn
  have hSn := Xa3
  refine hK.out _ _ ?_ (fun hHeld => ?_)
  · first | exact hSn | exact Xa0
  clear hK K
  try simp only [Act.put, pS]
  refine tkW 9 (some 3) (v := ?_) rfl ?_ ?_
  rotate_left
  · intro u hSu; have hSv := blkCell hSu; clear hSu; go_simp; (try with_reducible rfl)
  try simp only [Act.put, pS]
  refine wpAnyH_done (by kernel_rfl) ?_ _
  have HOWN := Lib.hid (show OwnB w0.heap.size (Lib.bytesWorld va2 5 S2) _ (Rc.p nu 6 ++ Rc.p (ts.length : Int) 2) from by (have h := OWN); rw [HS2.out, Rc.mk_list] at h; rw [HS2.out]; exact h)
  have HBW := Lib.hid Ya3
  obtain ⟨W1, hW1⟩ : ∃ W, W = Lib.bytesWorld va2 5 S2 := ⟨_, rfl⟩
  rw [← hW1] at HOWN HBW
  rw [← hW1]
  clear hHeld hSn hW1 Xa0 Xa1 Xa2 Xa3 Ya0 Ya1 Ya2 Ya3 OWN HCV hcv ha2
  go_wp2_with fail
  go_loopw [3, 4] (fun v i wr => ∃ k : Nat, k ≤ ts.length ∧ i = .int .i64 (k : Int) ∧ OwnB w0.heap.size wr v (Rc.p nu 6 ++ Rc.p (ts.length : Int) 2 ++ (ts.take k).flatMap Rc.txnB) ∧ Below w0.heap.size w0 wr) (fun _ i _ => ts.length - (intOf i).toNat)
  case atStart => exact ⟨0, Nat.zero_le _, rfl, by rw [List.take_zero, List.flatMap_nil, List.append_nil]; exact HOWN.out, HBW.out⟩
  case round =>
    obtain ⟨k, hk, rfl, hown, hbe⟩ := hrel
    have HBE := Lib.hid hbe
    obtain ⟨L, hL⟩ : ∃ L, L = Rc.p nu 6 ++ Rc.p (ts.length : Int) 2 ++ (ts.take k).flatMap Rc.txnB := ⟨_, rfl⟩
    rw [← hL] at hown
    have hLl : L.length ≤ 20000 := by
      rw [hL, List.length_append, List.length_append, Rc.p_length, Rc.p_length, Rc.flat_len Rc.txnB 19 Rc.txnB_len, List.length_take]; omega
    have HL := Lib.hid hL
    have HO := Lib.hid hown
    clear hL hbe hown HOWN HBW
    have hcb := blkCell (blkOld HX0.out HBE.out)
    by_cases hlt : k < ts.length
    · have hk2 : (k : Int) < (ts.length : Int) := by omega
      have hk1 : (0 : Int) ≤ (k : Int) := by omega
      have hwk : IntKind.i64.wrap ((k : Int) + 1) = (k : Int) + 1 := IntWalk.i64_in _ (by omega)
      obtain ⟨b1, off, rfl, hc, hbl, hcell⟩ := read_at txC_len (HT.out.below HBE.out) hlt
      have HFT := Lib.hid (Rc.flat_take Rc.txnB ts k hlt)
      generalize ts[k] = x at hcell HFT
      obtain ⟨x1, x2, x3, x4⟩ := x
      have HC := Lib.hid (show wr.rangeAt b1 (off + k * 4) [.int .i64 x1, .int .i64 x2, .int .i64 x3, .bool x4] from hcell)
      clear hcell hc
      go_upto_region 6 with (first
        | (with_reducible refine wpList_load_mid rfl 106 (.tmp 27) rfl b1 (off + k * 4) rfl [.int .i64 x1, .int .i64 x2, .int .i64 x3, .bool x4] _ HC.out Tryz.underlying106 (by kernel_rfl) (by kernel_rfl) ?_)
        | (with_reducible refine wpList_store_new rfl 106 (.tmp 5) (.tmp 28) rfl #[.int .i64 x1, .int .i64 x2, .int .i64 x3, .bool x4] _ _ rfl (by kernel_rfl) (by kernel_rfl) (by kernel_rfl) (by kernel_rfl) ?_))
      have HG := Lib.hid (heap_alloc_new wr (.cells #[.int .i64 x1, .int .i64 x2, .int .i64 x3, .bool x4] 106))
      have HB1 := Lib.hid (joinB HBE.out (allocB wr (.cells #[.int .i64 x1, .int .i64 x2, .int .i64 x3, .bool x4] 106)))
      have HO1 := Lib.hid (HO.out.below (allocB wr (.cells #[.int .i64 x1, .int .i64 x2, .int .i64 x3, .bool x4] 106)))
      obtain ⟨gx, hge⟩ : ∃ gx, gx = wr.heap.size := ⟨_, rfl⟩
      obtain ⟨W2, hW2⟩ : ∃ W, W = wr.alloc (.cells #[.int .i64 x1, .int .i64 x2, .int .i64 x3, .bool x4] 106) := ⟨_, rfl⟩
      rw [← hge, ← hW2] at HG
      rw [← hW2] at HB1 HO1
      rw [← hge, ← hW2]
      clear hge hW2 hcb HC hbl HO
      have hcx := blkCell HG.out
      cases x4 with
      | true =>
        obtain ⟨B3, hB3⟩ : ∃ b, b = Rc.mk (Rc.p x1 6) := ⟨_, rfl⟩
        have HC3 := Lib.hid (show ∀ W, Calls Tryz.prog 44 #[.int .i64 x1, .int .i64 6] W fun e w' => e = .returned (.string B3) ∧ Below W.heap.size W w' from fun W => by rw [hB3]; exact rput_mk x1 6 (by omega) W)
        obtain ⟨B4, hB4⟩ : ∃ b, b = Rc.mk (Rc.p x2 6) := ⟨_, rfl⟩
        have HC4 := Lib.hid (show ∀ W, Calls Tryz.prog 44 #[.int .i64 x2, .int .i64 6] W fun e w' => e = .returned (.string B4) ∧ Below W.heap.size W w' from fun W => by rw [hB4]; exact rput_mk x2 6 (by omega) W)
        obtain ⟨B5, hB5⟩ : ∃ b, b = Rc.mk (Rc.p x3 6) := ⟨_, rfl⟩
        have HC5 := Lib.hid (show ∀ W, Calls Tryz.prog 44 #[.int .i64 x3, .int .i64 6] W fun e w' => e = .returned (.string B5) ∧ Below W.heap.size W w' from fun W => by rw [hB5]; exact rput_mk x3 6 (by omega) W)
        obtain ⟨B6, hB6⟩ : ∃ b, b = Rc.mk (Rc.p 1 1) := ⟨_, rfl⟩
        have HC6 := Lib.hid (show ∀ W, Calls Tryz.prog 44 #[.int .i64 1, .int .i64 1] W fun e w' => e = .returned (.string B6) ∧ Below W.heap.size W w' from fun W => by rw [hB6]; exact rput_mk 1 1 (by omega) W)
        obtain ⟨S4, hS4⟩ : ∃ b, b = Rc.mk (Rc.p x1 6 ++ Rc.p x2 6) := ⟨_, rfl⟩
        have ha4 : ∀ W : World, (Op.stringOp .add B3 B4).run Tryz.prog W = .ok (.string S4) W := fun W => by rw [hB3, hB4, hS4]; exact add_mk _ _ (by simp only [Rc.p_length]; omega) W
        obtain ⟨S5, hS5⟩ : ∃ b, b = Rc.mk ((Rc.p x1 6 ++ Rc.p x2 6) ++ Rc.p x3 6) := ⟨_, rfl⟩
        have ha5 : ∀ W : World, (Op.stringOp .add S4 B5).run Tryz.prog W = .ok (.string S5) W := fun W => by rw [hS4, hB5, hS5]; exact add_mk _ _ (by simp only [List.length_append, Rc.p_length]; omega) W
        obtain ⟨S6, hS6⟩ : ∃ b, b = Rc.mk ((Rc.p x1 6 ++ Rc.p x2 6 ++ Rc.p x3 6) ++ Rc.p 1 1) := ⟨_, rfl⟩
        have ha6 : ∀ W : World, (Op.stringOp .add S5 B6).run Tryz.prog W = .ok (.string S6) W := fun W => by rw [hS5, hB6, hS6]; exact add_mk _ _ (by simp only [List.length_append, Rc.p_length]; omega) W
        have HN := Lib.hid (show L ++ S6.data.toList = Rc.p nu 6 ++ Rc.p (ts.length : Int) 2 ++ (ts.take (k + 1)).flatMap Rc.txnB from by rw [HFT.out, HL.out, hS6, Rc.mk_list, Rc.txnB_true]; simp only [List.append_assoc])
        have hz6 : S6.size ≤ 100 := by rw [hS6, Rc.mk_size]; simp only [List.length_append, Rc.p_length]; omega
        clear hB3 hB4 hB5 hB6 hS4 hS5 hS6
        go_upto_region 9 with fail
        have Xb0 := blkOld HG.out (Below.refl _ W2).drew
        have Yb0 := joinB HB1.out (Below.refl _ W2).drew
        have Ob0 := HO1.out.below (Below.refl _ W2).drew
        refine wp_region_Z (S := (fun u => u.heap[gx]? = some (.cells #[.int .i64 x1, .int .i64 x2, .int .i64 x3, .bool true] 106 (0, 0)))) 15 (by kernel_rfl) ?_ (fun hHeld => ?_)
        · first | exact hSn | exact Xb0
        refine wpAnyZ_take (i := 0) (oi := { dst := some 31, op := _, type := _, pos := _, after := _, guard := _ }) (v := ?_) (p := [15]) rfl (by kernel_rfl) (by kernel_rfl) (by kernel_rfl) (by kernel_rfl) (by kernel_rfl) (by kernel_rfl) (fun _ _ _ h => h) (Or.inl ⟨by rfl, ?_⟩) (by assumption) ?_
        rotate_left
        · intro u hSu; have hSv := blkCell hSu; clear hSu; go_simp; (try with_reducible rfl)
        try simp only [Act.put, pS]
        refine wpAnyZ_take (i := 1) (oi := { dst := some 32, op := _, type := _, pos := _, after := _, guard := _ }) (v := ?_) (p := [2, 3, 6, 10, 13, 15]) rfl (by kernel_rfl) (by kernel_rfl) (by kernel_rfl) (by kernel_rfl) (by kernel_rfl) (by kernel_rfl) (fun _ _ _ h => h) (Or.inl ⟨by rfl, ?_⟩) (by assumption) ?_
        rotate_left
        · intro u hSu; have hSv := blkCell hSu; clear hSu; go_simp; (try with_reducible rfl)
        try simp only [Act.put, pS]
        refine wpAnyZ_take (i := 2) (oi := { dst := some 33, op := _, type := _, pos := _, after := _, guard := _ }) (v := ?_) (p := [3, 6, 10, 13, 15]) rfl (by kernel_rfl) (by kernel_rfl) (by kernel_rfl) (by kernel_rfl) (by kernel_rfl) (by kernel_rfl) (fun _ _ _ h => h) (Or.inl ⟨by rfl, ?_⟩) (by assumption) ?_
        rotate_left
        · intro u hSu; have hSv := blkCell hSu; clear hSu; go_simp; (try with_reducible rfl)
        try simp only [Act.put, pS]
        refine wpAnyZ_take (i := 4) (oi := { dst := some 35, op := _, type := _, pos := _, after := _, guard := _ }) (v := ?_) (p := [5, 6, 10, 13, 15]) rfl (by kernel_rfl) (by kernel_rfl) (by kernel_rfl) (by kernel_rfl) (by kernel_rfl) (by kernel_rfl) (fun _ _ _ h => h) (Or.inl ⟨by rfl, ?_⟩) (by assumption) ?_
        rotate_left
        · intro u hSu; have hSv := blkCell hSu; clear hSu; go_simp; (try with_reducible rfl)
        try simp only [Act.put, pS]
        refine wpAnyZ_take (i := 5) (oi := { dst := some 36, op := _, type := _, pos := _, after := _, guard := _ }) (v := ?_) (p := [6, 10, 13, 15]) rfl (by kernel_rfl) (by kernel_rfl) (by kernel_rfl) (by kernel_rfl) (by kernel_rfl) (by kernel_rfl) (fun _ _ _ h => h) (Or.inl ⟨by rfl, ?_⟩) (by assumption) ?_
        rotate_left
        · intro u hSu; have hSv := blkCell hSu; clear hSu; go_simp; (try with_reducible rfl)
        try simp only [Act.put, pS]
        refine wpAnyZ_take (i := 8) (oi := { dst := some 39, op := _, type := _, pos := _, after := _, guard := _ }) (v := ?_) (p := [9, 10, 13, 15]) rfl (by kernel_rfl) (by kernel_rfl) (by kernel_rfl) (by kernel_rfl) (by kernel_rfl) (by kernel_rfl) (fun _ _ _ h => h) (Or.inl ⟨by rfl, ?_⟩) (by assumption) ?_
        rotate_left
        · intro u hSu; have hSv := blkCell hSu; clear hSu; go_simp; (try with_reducible rfl)
        try simp only [Act.put, pS]
        refine wpAnyZ_take (i := 9) (oi := { dst := some 40, op := _, type := _, pos := _, after := _, guard := _ }) (v := ?_) (p := [10, 13, 15]) rfl (by kernel_rfl) (by kernel_rfl) (by kernel_rfl) (by kernel_rfl) (by kernel_rfl) (by kernel_rfl) (fun _ _ _ h => h) (Or.inl ⟨by rfl, ?_⟩) (by assumption) ?_
        rotate_left
        · intro u hSu; have hSv := blkCell hSu; clear hSu; go_simp; (try with_reducible rfl)
        try simp only [Act.put, pS]
        refine wpAnyZ_take (i := 12) (oi := { dst := some 43, op := _, type := _, pos := _, after := _, guard := _ }) (v := ?_) (p := [13, 15]) rfl (by kernel_rfl) (by kernel_rfl) (by kernel_rfl) (by kernel_rfl) (by kernel_rfl) (by kernel_rfl) (fun _ _ _ h => h) (Or.inl ⟨by rfl, ?_⟩) (by assumption) ?_
        rotate_left
        · intro u hSu; have hSv := blkCell hSu; clear hSu; go_simp; (try with_reducible rfl)
        try simp only [Act.put, pS]
        refine wpAnyZ_ready (rs := [3]) (by kernel_rfl) (by simp) ?_
        refine AllReadyZ.cons (o := { dst := some 34, op := _, type := _, pos := _, after := _, guard := _ }) rfl (fun K hK => ?_) ?_
        rotate_left
        · exact AllReadyZ.nil
        go_simp
        refine (HC3.out _).mono ?_; rintro e vb1 ⟨rfl, hb⟩; have Xb1 := blkOld Xb0 hb; have Yb1 := joinB Yb0 hb; have Ob1 := Ob0.below hb; try clear hSn
        have hSn := Xb1
        clear hb
        refine hK.out _ _ ?_ (fun hHeld => ?_)
        · first | exact hSn | exact Xb0
        clear hK K
        try simp only [Act.put, pS]
        refine wpAnyZ_ready (rs := [6]) (by kernel_rfl) (by simp) ?_
        refine AllReadyZ.cons (o := { dst := some 37, op := _, type := _, pos := _, after := _, guard := _ }) rfl (fun K hK => ?_) ?_
        rotate_left
        · exact AllReadyZ.nil
        go_simp
        refine (HC4.out _).mono ?_; rintro e vb2 ⟨rfl, hb⟩; have Xb2 := blkOld Xb1 hb; have Yb2 := joinB Yb1 hb; have Ob2 := Ob1.below hb; try clear hSn
        have hSn := Xb2
        clear hb
        refine hK.out _ _ ?_ (fun hHeld => ?_)
        · first | exact hSn | exact Xb0
        clear hK K
        try simp only [Act.put, pS]
        refine wpAnyZ_take (i := 7) (oi := { dst := some 38, op := _, type := _, pos := _, after := _, guard := _ }) (v := ?_) (p := [11, 14, 15]) rfl (by kernel_rfl) (by kernel_rfl) (by kernel_rfl) (by kernel_rfl) (by kernel_rfl) (by kernel_rfl) (fun _ _ _ h => h) (Or.inl ⟨by rfl, ?_⟩) (by assumption) ?_
        rotate_left
        · intro u hSu; have hSv := blkCell hSu; clear hSu; go_simp; (try with_reducible rfl)
        try simp only [Act.put, pS]
        refine wpAnyZ_ready (rs := [10]) (by kernel_rfl) (by simp) ?_
        refine AllReadyZ.cons (o := { dst := some 41, op := _, type := _, pos := _, after := _, guard := _ }) rfl (fun K hK => ?_) ?_
        rotate_left
        · exact AllReadyZ.nil
        go_simp
        refine (HC5.out _).mono ?_; rintro e vb3 ⟨rfl, hb⟩; have Xb3 := blkOld Xb2 hb; have Yb3 := joinB Yb2 hb; have Ob3 := Ob2.below hb; try clear hSn
        have hSn := Xb3
        clear hb
        refine hK.out _ _ ?_ (fun hHeld => ?_)
        · first | exact hSn | exact Xb0
        clear hK K
        try simp only [Act.put, pS]
        refine wpAnyZ_take (i := 11) (oi := { dst := some 42, op := _, type := _, pos := _, after := _, guard := _ }) (v := ?_) (p := [14, 15]) rfl (by kernel_rfl) (by kernel_rfl) (by kernel_rfl) (by kernel_rfl) (by kernel_rfl) (by kernel_rfl) (fun _ _ _ h => h) (Or.inl ⟨by rfl, ?_⟩) (by assumption) ?_
        rotate_left
        · intro u hSu; have hSv := blkCell hSu; clear hSu; go_simp; (try with_reducible rfl)
        try simp only [Act.put, pS]
        refine wpAnyZ_ready (rs := [13]) (by kernel_rfl) (by simp) ?_
        refine AllReadyZ.cons (o := { dst := some 44, op := _, type := _, pos := _, after := _, guard := _ }) rfl (fun K hK => ?_) ?_
        rotate_left
        · exact AllReadyZ.nil
        go_simp
        refine (HC6.out _).mono ?_; rintro e vb4 ⟨rfl, hb⟩; have Xb4 := blkOld Xb3 hb; have Yb4 := joinB Yb3 hb; have Ob4 := Ob3.below hb; try clear hSn
        have hSn := Xb4
        clear hb
        refine hK.out _ _ ?_ (fun hHeld => ?_)
        · first | exact hSn | exact Xb0
        clear hK K
        try simp only [Act.put, pS]
        refine wpAnyZ_take (i := 14) (oi := { dst := some 45, op := _, type := _, pos := _, after := _, guard := _ }) (v := ?_) (p := [15]) rfl (by kernel_rfl) (by kernel_rfl) (by kernel_rfl) (by kernel_rfl) (by kernel_rfl) (by kernel_rfl) (fun _ _ _ h => h) (Or.inl ⟨by rfl, ?_⟩) (by assumption) ?_
        rotate_left
        · intro u hSu; have hSv := blkCell hSu; clear hSu; go_simp; (try with_reducible rfl)
        try simp only [Act.put, pS]
        refine wpAnyZ_ready (rs := [15]) (by kernel_rfl) (by simp) ?_
        refine AllReadyZ.last (o := { dst := some 46, op := _, type := _, pos := _, after := _, guard := _ }) rfl (by kernel_rfl) (fun K hK => ?_) ?_
        rotate_left
        · exact AllReadyZ.nil
        refine wantedIf (by rfl) ?_
        refine wp_appB _ (.tmp 31) (.tmp 45) 74 9 5 Tryz.underlying74 Tryz.underlying9 info_byte rfl w0.heap.size _ L rfl Ob4 S6 rfl (by omega) Yb4.size ?_
        intro v9 w9 ho hb
        have Yb5 := Yb4.trans hb
        refine hK.out _ _ ?_
        clear hK K
        try simp only [Act.put, pS]
        refine wpAnyZ_ready (rs := [16]) (by kernel_rfl) (by simp) ?_
        refine AllReadyZ.last (o := { dst := some 3, op := _, type := _, pos := _, after := _, guard := _ }) rfl (by kernel_rfl) (fun K hK => ?_) ?_
        rotate_left
        · exact AllReadyZ.nil
        go_simp
        refine hK.out _ _ ?_
        clear hK K
        try simp only [Act.put, pS]
        refine wpAnyZ_done (by kernel_rfl) ?_ _
        rw [HN.out] at ho
        clear hHeld hSn
        go_wp2_with fail
        go_roundw
        case rel => exact ⟨k + 1, by omega, by go_num, ho, Yb5⟩
        case measure => simp [intOf]; omega
      | false =>
        obtain ⟨B3, hB3⟩ : ∃ b, b = Rc.mk (Rc.p x1 6) := ⟨_, rfl⟩
        have HC3 := Lib.hid (show ∀ W, Calls Tryz.prog 44 #[.int .i64 x1, .int .i64 6] W fun e w' => e = .returned (.string B3) ∧ Below W.heap.size W w' from fun W => by rw [hB3]; exact rput_mk x1 6 (by omega) W)
        obtain ⟨B4, hB4⟩ : ∃ b, b = Rc.mk (Rc.p x2 6) := ⟨_, rfl⟩
        have HC4 := Lib.hid (show ∀ W, Calls Tryz.prog 44 #[.int .i64 x2, .int .i64 6] W fun e w' => e = .returned (.string B4) ∧ Below W.heap.size W w' from fun W => by rw [hB4]; exact rput_mk x2 6 (by omega) W)
        obtain ⟨B5, hB5⟩ : ∃ b, b = Rc.mk (Rc.p x3 6) := ⟨_, rfl⟩
        have HC5 := Lib.hid (show ∀ W, Calls Tryz.prog 44 #[.int .i64 x3, .int .i64 6] W fun e w' => e = .returned (.string B5) ∧ Below W.heap.size W w' from fun W => by rw [hB5]; exact rput_mk x3 6 (by omega) W)
        obtain ⟨B6, hB6⟩ : ∃ b, b = Rc.mk (Rc.p 0 1) := ⟨_, rfl⟩
        have HC6 := Lib.hid (show ∀ W, Calls Tryz.prog 44 #[.int .i64 0, .int .i64 1] W fun e w' => e = .returned (.string B6) ∧ Below W.heap.size W w' from fun W => by rw [hB6]; exact rput_mk 0 1 (by omega) W)
        obtain ⟨S4, hS4⟩ : ∃ b, b = Rc.mk (Rc.p x1 6 ++ Rc.p x2 6) := ⟨_, rfl⟩
        have ha4 : ∀ W : World, (Op.stringOp .add B3 B4).run Tryz.prog W = .ok (.string S4) W := fun W => by rw [hB3, hB4, hS4]; exact add_mk _ _ (by simp only [Rc.p_length]; omega) W
        obtain ⟨S5, hS5⟩ : ∃ b, b = Rc.mk ((Rc.p x1 6 ++ Rc.p x2 6) ++ Rc.p x3 6) := ⟨_, rfl⟩
        have ha5 : ∀ W : World, (Op.stringOp .add S4 B5).run Tryz.prog W = .ok (.string S5) W := fun W => by rw [hS4, hB5, hS5]; exact add_mk _ _ (by simp only [List.length_append, Rc.p_length]; omega) W
        obtain ⟨S6, hS6⟩ : ∃ b, b = Rc.mk ((Rc.p x1 6 ++ Rc.p x2 6 ++ Rc.p x3 6) ++ Rc.p 0 1) := ⟨_, rfl⟩
        have ha6 : ∀ W : World, (Op.stringOp .add S5 B6).run Tryz.prog W = .ok (.string S6) W := fun W => by rw [hS5, hB6, hS6]; exact add_mk _ _ (by simp only [List.length_append, Rc.p_length]; omega) W
        have HN := Lib.hid (show L ++ S6.data.toList = Rc.p nu 6 ++ Rc.p (ts.length : Int) 2 ++ (ts.take (k + 1)).flatMap Rc.txnB from by rw [HFT.out, HL.out, hS6, Rc.mk_list, Rc.txnB_false]; simp only [List.append_assoc])
        have hz6 : S6.size ≤ 100 := by rw [hS6, Rc.mk_size]; simp only [List.length_append, Rc.p_length]; omega
        clear hB3 hB4 hB5 hB6 hS4 hS5 hS6
        go_upto_region 9 with fail
        have Xb0 := blkOld HG.out (Below.refl _ W2).drew
        have Yb0 := joinB HB1.out (Below.refl _ W2).drew
        have Ob0 := HO1.out.below (Below.refl _ W2).drew
        refine wp_region_Z (S := (fun u => u.heap[gx]? = some (.cells #[.int .i64 x1, .int .i64 x2, .int .i64 x3, .bool false] 106 (0, 0)))) 15 (by kernel_rfl) ?_ (fun hHeld => ?_)
        · first | exact hSn | exact Xb0
        refine wpAnyZ_take (i := 0) (oi := { dst := some 31, op := _, type := _, pos := _, after := _, guard := _ }) (v := ?_) (p := [15]) rfl (by kernel_rfl) (by kernel_rfl) (by kernel_rfl) (by kernel_rfl) (by kernel_rfl) (by kernel_rfl) (fun _ _ _ h => h) (Or.inl ⟨by rfl, ?_⟩) (by assumption) ?_
        rotate_left
        · intro u hSu; have hSv := blkCell hSu; clear hSu; go_simp; (try with_reducible rfl)
        try simp only [Act.put, pS]
        refine wpAnyZ_take (i := 1) (oi := { dst := some 32, op := _, type := _, pos := _, after := _, guard := _ }) (v := ?_) (p := [2, 3, 6, 10, 13, 15]) rfl (by kernel_rfl) (by kernel_rfl) (by kernel_rfl) (by kernel_rfl) (by kernel_rfl) (by kernel_rfl) (fun _ _ _ h => h) (Or.inl ⟨by rfl, ?_⟩) (by assumption) ?_
        rotate_left
        · intro u hSu; have hSv := blkCell hSu; clear hSu; go_simp; (try with_reducible rfl)
        try simp only [Act.put, pS]
        refine wpAnyZ_take (i := 2) (oi := { dst := some 33, op := _, type := _, pos := _, after := _, guard := _ }) (v := ?_) (p := [3, 6, 10, 13, 15]) rfl (by kernel_rfl) (by kernel_rfl) (by kernel_rfl) (by kernel_rfl) (by kernel_rfl) (by kernel_rfl) (fun _ _ _ h => h) (Or.inl ⟨by rfl, ?_⟩) (by assumption) ?_
        rotate_left
        · intro u hSu; have hSv := blkCell hSu; clear hSu; go_simp; (try with_reducible rfl)
        try simp only [Act.put, pS]
        refine wpAnyZ_take (i := 4) (oi := { dst := some 35, op := _, type := _, pos := _, after := _, guard := _ }) (v := ?_) (p := [5, 6, 10, 13, 15]) rfl (by kernel_rfl) (by kernel_rfl) (by kernel_rfl) (by kernel_rfl) (by kernel_rfl) (by kernel_rfl) (fun _ _ _ h => h) (Or.inl ⟨by rfl, ?_⟩) (by assumption) ?_
        rotate_left
        · intro u hSu; have hSv := blkCell hSu; clear hSu; go_simp; (try with_reducible rfl)
        try simp only [Act.put, pS]
        refine wpAnyZ_take (i := 5) (oi := { dst := some 36, op := _, type := _, pos := _, after := _, guard := _ }) (v := ?_) (p := [6, 10, 13, 15]) rfl (by kernel_rfl) (by kernel_rfl) (by kernel_rfl) (by kernel_rfl) (by kernel_rfl) (by kernel_rfl) (fun _ _ _ h => h) (Or.inl ⟨by rfl, ?_⟩) (by assumption) ?_
        rotate_left
        · intro u hSu; have hSv := blkCell hSu; clear hSu; go_simp; (try with_reducible rfl)
        try simp only [Act.put, pS]
        refine wpAnyZ_take (i := 8) (oi := { dst := some 39, op := _, type := _, pos := _, after := _, guard := _ }) (v := ?_) (p := [9, 10, 13, 15]) rfl (by kernel_rfl) (by kernel_rfl) (by kernel_rfl) (by kernel_rfl) (by kernel_rfl) (by kernel_rfl) (fun _ _ _ h => h) (Or.inl ⟨by rfl, ?_⟩) (by assumption) ?_
        rotate_left
        · intro u hSu; have hSv := blkCell hSu; clear hSu; go_simp; (try with_reducible rfl)
        try simp only [Act.put, pS]
        refine wpAnyZ_take (i := 9) (oi := { dst := some 40, op := _, type := _, pos := _, after := _, guard := _ }) (v := ?_) (p := [10, 13, 15]) rfl (by kernel_rfl) (by kernel_rfl) (by kernel_rfl) (by kernel_rfl) (by kernel_rfl) (by kernel_rfl) (fun _ _ _ h => h) (Or.inl ⟨by rfl, ?_⟩) (by assumption) ?_
        rotate_left
        · intro u hSu; have hSv := blkCell hSu; clear hSu; go_simp; (try with_reducible rfl)
        try simp only [Act.put, pS]
        refine wpAnyZ_take (i := 12) (oi := { dst := some 43, op := _, type := _, pos := _, after := _, guard := _ }) (v := ?_) (p := [13, 15]) rfl (by kernel_rfl) (by kernel_rfl) (by kernel_rfl) (by kernel_rfl) (by kernel_rfl) (by kernel_rfl) (fun _ _ _ h => h) (Or.inl ⟨by rfl, ?_⟩) (by assumption) ?_
        rotate_left
        · intro u hSu; have hSv := blkCell hSu; clear hSu; go_simp; (try with_reducible rfl)
        try simp only [Act.put, pS]
        refine wpAnyZ_ready (rs := [3]) (by kernel_rfl) (by simp) ?_
        refine AllReadyZ.cons (o := { dst := some 34, op := _, type := _, pos := _, after := _, guard := _ }) rfl (fun K hK => ?_) ?_
        rotate_left
        · exact AllReadyZ.nil
        go_simp
        refine (HC3.out _).mono ?_; rintro e vb1 ⟨rfl, hb⟩; have Xb1 := blkOld Xb0 hb; have Yb1 := joinB Yb0 hb; have Ob1 := Ob0.below hb; try clear hSn
        have hSn := Xb1
        clear hb
        refine hK.out _ _ ?_ (fun hHeld => ?_)
        · first | exact hSn | exact Xb0
        clear hK K
        try simp only [Act.put, pS]
        refine wpAnyZ_ready (rs := [6]) (by kernel_rfl) (by simp) ?_
        refine AllReadyZ.cons (o := { dst := some 37, op := _, type := _, pos := _, after := _, guard := _ }) rfl (fun K hK => ?_) ?_
        rotate_left
        · exact AllReadyZ.nil
        go_simp
        refine (HC4.out _).mono ?_; rintro e vb2 ⟨rfl, hb⟩; have Xb2 := blkOld Xb1 hb; have Yb2 := joinB Yb1 hb; have Ob2 := Ob1.below hb; try clear hSn
        have hSn := Xb2
        clear hb
        refine hK.out _ _ ?_ (fun hHeld => ?_)
        · first | exact hSn | exact Xb0
        clear hK K
        try simp only [Act.put, pS]
        refine wpAnyZ_take (i := 7) (oi := { dst := some 38, op := _, type := _, pos := _, after := _, guard := _ }) (v := ?_) (p := [11, 14, 15]) rfl (by kernel_rfl) (by kernel_rfl) (by kernel_rfl) (by kernel_rfl) (by kernel_rfl) (by kernel_rfl) (fun _ _ _ h => h) (Or.inl ⟨by rfl, ?_⟩) (by assumption) ?_
        rotate_left
        · intro u hSu; have hSv := blkCell hSu; clear hSu; go_simp; (try with_reducible rfl)
        try simp only [Act.put, pS]
        refine wpAnyZ_ready (rs := [10]) (by kernel_rfl) (by simp) ?_
        refine AllReadyZ.cons (o := { dst := some 41, op := _, type := _, pos := _, after := _, guard := _ }) rfl (fun K hK => ?_) ?_
        rotate_left
        · exact AllReadyZ.nil
        go_simp
        refine (HC5.out _).mono ?_; rintro e vb3 ⟨rfl, hb⟩; have Xb3 := blkOld Xb2 hb; have Yb3 := joinB Yb2 hb; have Ob3 := Ob2.below hb; try clear hSn
        have hSn := Xb3
        clear hb
        refine hK.out _ _ ?_ (fun hHeld => ?_)
        · first | exact hSn | exact Xb0
        clear hK K
        try simp only [Act.put, pS]
        refine wpAnyZ_take (i := 11) (oi := { dst := some 42, op := _, type := _, pos := _, after := _, guard := _ }) (v := ?_) (p := [14, 15]) rfl (by kernel_rfl) (by kernel_rfl) (by kernel_rfl) (by kernel_rfl) (by kernel_rfl) (by kernel_rfl) (fun _ _ _ h => h) (Or.inl ⟨by rfl, ?_⟩) (by assumption) ?_
        rotate_left
        · intro u hSu; have hSv := blkCell hSu; clear hSu; go_simp; (try with_reducible rfl)
        try simp only [Act.put, pS]
        refine wpAnyZ_ready (rs := [13]) (by kernel_rfl) (by simp) ?_
        refine AllReadyZ.cons (o := { dst := some 44, op := _, type := _, pos := _, after := _, guard := _ }) rfl (fun K hK => ?_) ?_
        rotate_left
        · exact AllReadyZ.nil
        go_simp
        refine (HC6.out _).mono ?_; rintro e vb4 ⟨rfl, hb⟩; have Xb4 := blkOld Xb3 hb; have Yb4 := joinB Yb3 hb; have Ob4 := Ob3.below hb; try clear hSn
        have hSn := Xb4
        clear hb
        refine hK.out _ _ ?_ (fun hHeld => ?_)
        · first | exact hSn | exact Xb0
        clear hK K
        try simp only [Act.put, pS]
        refine wpAnyZ_take (i := 14) (oi := { dst := some 45, op := _, type := _, pos := _, after := _, guard := _ }) (v := ?_) (p := [15]) rfl (by kernel_rfl) (by kernel_rfl) (by kernel_rfl) (by kernel_rfl) (by kernel_rfl) (by kernel_rfl) (fun _ _ _ h => h) (Or.inl ⟨by rfl, ?_⟩) (by assumption) ?_
        rotate_left
        · intro u hSu; have hSv := blkCell hSu; clear hSu; go_simp; (try with_reducible rfl)
        try simp only [Act.put, pS]
        refine wpAnyZ_ready (rs := [15]) (by kernel_rfl) (by simp) ?_
        refine AllReadyZ.last (o := { dst := some 46, op := _, type := _, pos := _, after := _, guard := _ }) rfl (by kernel_rfl) (fun K hK => ?_) ?_
        rotate_left
        · exact AllReadyZ.nil
        refine wantedIf (by rfl) ?_
        refine wp_appB _ (.tmp 31) (.tmp 45) 74 9 5 Tryz.underlying74 Tryz.underlying9 info_byte rfl w0.heap.size _ L rfl Ob4 S6 rfl (by omega) Yb4.size ?_
        intro v9 w9 ho hb
        have Yb5 := Yb4.trans hb
        refine hK.out _ _ ?_
        clear hK K
        try simp only [Act.put, pS]
        refine wpAnyZ_ready (rs := [16]) (by kernel_rfl) (by simp) ?_
        refine AllReadyZ.last (o := { dst := some 3, op := _, type := _, pos := _, after := _, guard := _ }) rfl (by kernel_rfl) (fun K hK => ?_) ?_
        rotate_left
        · exact AllReadyZ.nil
        go_simp
        refine hK.out _ _ ?_
        clear hK K
        try simp only [Act.put, pS]
        refine wpAnyZ_done (by kernel_rfl) ?_ _
        rw [HN.out] at ho
        clear hHeld hSn
        go_wp2_with fail
        go_roundw
        case rel => exact ⟨k + 1, by omega, by go_num, ho, Yb5⟩
        case measure => simp [intOf]; omega
    · have hk2 : ¬ (k : Int) < (ts.length : Int) := by omega
      obtain rfl : k = ts.length := by omega
      rw [List.take_length] at HL
      obtain ⟨B7, hB7⟩ : ∃ b, b = Rc.mk (Rc.p (ds.length : Int) 2) := ⟨_, rfl⟩
      have HC7 := Lib.hid (show ∀ W, Calls Tryz.prog 44 #[.int .i64 (ds.length : Int), .int .i64 2] W fun e w' => e = .returned (.string B7) ∧ Below W.heap.size W w' from fun W => by rw [hB7]; exact rput_mk (ds.length : Int) 2 (by omega) W)
      have HL7 := Lib.hid (show L ++ B7.data.toList = Rc.p nu 6 ++ Rc.p (ts.length : Int) 2 ++ ts.flatMap Rc.txnB ++ Rc.p (ds.length : Int) 2 from by rw [HL.out, hB7, Rc.mk_list])
      have hz7 : B7.size = 2 := by rw [hB7, Rc.mk_size, Rc.p_length]
      clear hB7
      obtain ⟨wo, rfl⟩ : ∃ wo : World, wo = wr := ⟨_, rfl⟩
      go_upto_region 11 with (first
        | (go_at_call 44; (with_reducible refine (HC7.out _).mono ?_); rintro e w3 ⟨rfl, hb3⟩; have O3 := HO.out.below hb3; have Y3 := joinB HBE.out hb3)
        | (at_builtin; refine wpList_appB (by kernel_rfl) (.tmp 47) (.tmp 51) 74 9 5 Tryz.underlying74 Tryz.underlying9 info_byte rfl w0.heap.size _ L rfl O3 B7 rfl (by omega) Y3.size ?_; intro v8 w8 ho hb; have Y8 := Lib.hid (Y3.trans hb); rw [HL7.out] at ho; have O8 := Lib.hid ho; clear ho hb))
      obtain ⟨base, hbase⟩ : ∃ l, l = Rc.p nu 6 ++ Rc.p (ts.length : Int) 2 ++ ts.flatMap Rc.txnB ++ Rc.p (ds.length : Int) 2 := ⟨_, rfl⟩
      rw [← hbase] at O8
      have hbl0 : base.length ≤ 20010 := by rw [hbase, List.length_append, List.length_append, List.length_append, Rc.p_length, Rc.p_length, Rc.p_length, Rc.flat_len Rc.txnB 19 Rc.txnB_len]; omega
      have HBASE := Lib.hid hbase
      clear hbase O3 Y3 hb3 HO HBE HL HL7 hcb
      go_wp2_with fail
      go_loopw [3, 7] (fun v i wr => ∃ m : Nat, m ≤ ds.length ∧ i = .int .i64 (m : Int) ∧ OwnB w0.heap.size wr v (base ++ (ds.take m).flatMap Rc.dirtyB) ∧ Below w0.heap.size w0 wr) (fun _ i _ => ds.length - (intOf i).toNat)
      case atStart => exact ⟨0, Nat.zero_le _, rfl, by rw [List.take_zero, List.flatMap_nil, List.append_nil]; exact O8.out, Y8.out⟩
      case round =>
        obtain ⟨m, hm, rfl, hown, hbe⟩ := hrel
        have HBE := Lib.hid hbe
        obtain ⟨M, hM⟩ : ∃ M, M = base ++ (ds.take m).flatMap Rc.dirtyB := ⟨_, rfl⟩
        rw [← hM] at hown
        have hMl : M.length ≤ 40000 := by
          rw [hM, List.length_append, Rc.flat_len Rc.dirtyB 9 Rc.dirtyB_len, List.length_take]; omega
        have HMM := Lib.hid hM
        have HO := Lib.hid hown
        clear hM hbe hown O8 Y8
        have hcb := blkCell (blkOld HX0.out HBE.out)
        by_cases hlt : m < ds.length
        · have hm2 : (m : Int) < (ds.length : Int) := by omega
          have hm1 : (0 : Int) ≤ (m : Int) := by omega
          have hwm : IntKind.i64.wrap ((m : Int) + 1) = (m : Int) + 1 := IntWalk.i64_in _ (by omega)
          obtain ⟨b1, off, rfl, hc, hbl, hcell⟩ := read_at diC_len (HD.out.below HBE.out) hlt
          have HFT := Lib.hid (Rc.flat_take Rc.dirtyB ds m hlt)
          generalize ds[m] = x at hcell HFT
          obtain ⟨x1, x2⟩ := x
          have q0 := hcell 0 _ rfl
          have q1 := hcell 1 _ rfl
          simp only [Nat.add_zero] at q0
          clear hcell hc
          obtain ⟨B8, hB8⟩ : ∃ b, b = Rc.mk (Rc.p x1 3) := ⟨_, rfl⟩
          have HC8 := Lib.hid (show ∀ W, Calls Tryz.prog 44 #[.int .i64 x1, .int .i64 3] W fun e w' => e = .returned (.string B8) ∧ Below W.heap.size W w' from fun W => by rw [hB8]; exact rput_mk x1 3 (by omega) W)
          obtain ⟨B9, hB9⟩ : ∃ b, b = Rc.mk (Rc.p x2 6) := ⟨_, rfl⟩
          have HC9 := Lib.hid (show ∀ W, Calls Tryz.prog 44 #[.int .i64 x2, .int .i64 6] W fun e w' => e = .returned (.string B9) ∧ Below W.heap.size W w' from fun W => by rw [hB9]; exact rput_mk x2 6 (by omega) W)
          obtain ⟨S9, hS9⟩ : ∃ b, b = Rc.mk (Rc.p x1 3 ++ Rc.p x2 6) := ⟨_, rfl⟩
          have ha9 : ∀ W : World, (Op.stringOp .add B8 B9).run Tryz.prog W = .ok (.string S9) W := fun W => by rw [hB8, hB9, hS9]; exact add_mk _ _ (by simp only [Rc.p_length]; omega) W
          have HN := Lib.hid (show M ++ S9.data.toList = base ++ (ds.take (m + 1)).flatMap Rc.dirtyB from by rw [HFT.out, HMM.out, hS9, Rc.mk_list]; simp only [List.append_assoc]; rfl)
          have hz9 : S9.size = 9 := by rw [hS9, Rc.mk_size]; simp only [List.length_append, Rc.p_length]
          clear hB8 hB9 hS9
          go_upto_region 14 with fail
          have Xc0 := And.intro (blkOld (blkOld HX0.out HBE.out) (Below.refl _ wr).drew) (And.intro (show wr.drew.cell? ⟨b1, off + m * 2, none⟩ = _ from q0) (show wr.drew.cell? ⟨b1, off + m * 2 + 1, none⟩ = _ from q1))
          have Yc0 := joinB HBE.out (Below.refl _ wr).drew
          have Oc0 := HO.out.below (Below.refl _ wr).drew
          have hblc : b1 < wr.drew.heap.size := hbl
          refine wp_region_Z (S := (fun u => u.heap[g]? = some (.cells (rcA lsn prev txn kind page next nu ok os oo on how root ek ep es (.slice A ts.length c) (.slice (some ⟨b1, off, none⟩) ds.length d)) 42 (0, 0)) ∧ u.cell? ⟨b1, off + m * 2, none⟩ = some (.int .i64 x1) ∧ u.cell? ⟨b1, off + m * 2 + 1, none⟩ = some (.int .i64 x2))) 16 (by kernel_rfl) ?_ (fun hHeld => ?_)
          · first | exact hSn | exact Xc0
          refine wpAnyZ_take (i := 0) (oi := { dst := some 60, op := _, type := _, pos := _, after := _, guard := _ }) (v := ?_) (p := [16]) rfl (by kernel_rfl) (by kernel_rfl) (by kernel_rfl) (by kernel_rfl) (by kernel_rfl) (by kernel_rfl) (fun _ _ _ h => h) (Or.inl ⟨by rfl, ?_⟩) (by assumption) ?_
          rotate_left
          · intro u hSu; obtain ⟨hSa, hSb, hSc⟩ := hSu; have hSv := blkCell hSa; clear hSa; go_simp; (try with_reducible rfl)
          try simp only [Act.put, pS]
          refine wpAnyZ_take (i := 1) (oi := { dst := some 61, op := _, type := _, pos := _, after := _, guard := _ }) (v := ?_) (p := [2, 4, 5, 6, 7, 14, 16]) rfl (by kernel_rfl) (by kernel_rfl) (by kernel_rfl) (by kernel_rfl) (by kernel_rfl) (by kernel_rfl) (fun _ _ _ h => h) (Or.inl ⟨by rfl, ?_⟩) (by assumption) ?_
          rotate_left
          · intro u hSu; obtain ⟨hSa, hSb, hSc⟩ := hSu; have hSv := blkCell hSa; clear hSa; go_simp; (try with_reducible rfl)
          try simp only [Act.put, pS]
          refine wpAnyZ_take (i := 2) (oi := { dst := some 62, op := _, type := _, pos := _, after := _, guard := _ }) (v := ?_) (p := [4, 5, 6, 7, 14, 16]) rfl (by kernel_rfl) (by kernel_rfl) (by kernel_rfl) (by kernel_rfl) (by kernel_rfl) (by kernel_rfl) (fun _ _ _ h => h) (Or.inl ⟨by rfl, ?_⟩) (by assumption) ?_
          rotate_left
          · intro u hSu; obtain ⟨hSa, hSb, hSc⟩ := hSu; have hSv := blkCell hSa; clear hSa; go_simp; (try with_reducible rfl)
          try simp only [Act.put, pS]
          refine wpAnyZ_take (i := 3) (oi := { dst := some 63, op := _, type := _, pos := _, after := _, guard := _ }) (v := ?_) (p := [4, 5, 6, 7, 14, 16]) rfl (by kernel_rfl) (by kernel_rfl) (by kernel_rfl) (by kernel_rfl) (by kernel_rfl) (by kernel_rfl) (fun _ _ _ h => h) (Or.inl ⟨by rfl, ?_⟩) (by assumption) ?_
          rotate_left
          · intro u hSu; obtain ⟨hSa, hSb, hSc⟩ := hSu; have hSv := blkCell hSa; clear hSa; go_simp; (try with_reducible rfl)
          try simp only [Act.put, pS]
          refine wpAnyZ_take (i := 4) (oi := { dst := some 64, op := _, type := _, pos := _, after := _, guard := _ }) (v := ?_) (p := [5, 6, 7, 14, 16]) rfl (by kernel_rfl) (by kernel_rfl) (by kernel_rfl) (by kernel_rfl) (by kernel_rfl) (by kernel_rfl) (fun _ _ _ h => h) (Or.inl ⟨by rfl, ?_⟩) (by assumption) ?_
          rotate_left
          · intro u hSu; obtain ⟨hSa, hSb, hSc⟩ := hSu; have hSv := blkCell hSa; clear hSa; go_simp; (try with_reducible rfl)
          try simp only [Act.put, pS]
          refine wpAnyZ_take (i := 5) (oi := { dst := some 65, op := _, type := _, pos := _, after := _, guard := _ }) (v := ?_) (p := [6, 7, 14, 16]) rfl (by kernel_rfl) (by kernel_rfl) (by kernel_rfl) (by kernel_rfl) (by kernel_rfl) (by kernel_rfl) (fun _ _ _ h => h) (Or.inl ⟨by rfl, ?_⟩) (by assumption) ?_
          rotate_left
          · intro u hSu; obtain ⟨hSa, hSb, hSc⟩ := hSu; have hSv := blkCell hSa; clear hSa; go_simp; (try with_reducible rfl)
          try simp only [Act.put, pS]
          refine wpAnyZ_take (i := 6) (oi := { dst := some 66, op := _, type := _, pos := _, after := _, guard := _ }) (v := ?_) (p := [7, 14, 16]) rfl (by kernel_rfl) (by kernel_rfl) (by kernel_rfl) (by kernel_rfl) (by kernel_rfl) (by kernel_rfl) (fun _ _ _ h => h) (Or.inl ⟨by rfl, ?_⟩) (by assumption) ?_
          rotate_left
          · intro u hSu; obtain ⟨hSa, hSb, hSc⟩ := hSu; have hSv := blkCell hSa; clear hSa; go_simp; (try with_reducible rfl)
          try simp only [Act.put, pS]
          refine wpAnyZ_take (i := 8) (oi := { dst := some 68, op := _, type := _, pos := _, after := _, guard := _ }) (v := ?_) (p := [9, 11, 12, 13, 14, 16]) rfl (by kernel_rfl) (by kernel_rfl) (by kernel_rfl) (by kernel_rfl) (by kernel_rfl) (by kernel_rfl) (fun _ _ _ h => h) (Or.inl ⟨by rfl, ?_⟩) (by assumption) ?_
          rotate_left
          · intro u hSu; obtain ⟨hSa, hSb, hSc⟩ := hSu; have hSv := blkCell hSa; clear hSa; go_simp; (try with_reducible rfl)
          try simp only [Act.put, pS]
          refine wpAnyZ_take (i := 9) (oi := { dst := some 69, op := _, type := _, pos := _, after := _, guard := _ }) (v := ?_) (p := [11, 12, 13, 14, 16]) rfl (by kernel_rfl) (by kernel_rfl) (by kernel_rfl) (by kernel_rfl) (by kernel_rfl) (by kernel_rfl) (fun _ _ _ h => h) (Or.inl ⟨by rfl, ?_⟩) (by assumption) ?_
          rotate_left
          · intro u hSu; obtain ⟨hSa, hSb, hSc⟩ := hSu; have hSv := blkCell hSa; clear hSa; go_simp; (try with_reducible rfl)
          try simp only [Act.put, pS]
          refine wpAnyZ_take (i := 10) (oi := { dst := some 70, op := _, type := _, pos := _, after := _, guard := _ }) (v := ?_) (p := [11, 12, 13, 14, 16]) rfl (by kernel_rfl) (by kernel_rfl) (by kernel_rfl) (by kernel_rfl) (by kernel_rfl) (by kernel_rfl) (fun _ _ _ h => h) (Or.inl ⟨by rfl, ?_⟩) (by assumption) ?_
          rotate_left
          · intro u hSu; obtain ⟨hSa, hSb, hSc⟩ := hSu; have hSv := blkCell hSa; clear hSa; go_simp; (try with_reducible rfl)
          try simp only [Act.put, pS]
          refine wpAnyZ_take (i := 11) (oi := { dst := some 71, op := _, type := _, pos := _, after := _, guard := _ }) (v := ?_) (p := [12, 13, 14, 16]) rfl (by kernel_rfl) (by kernel_rfl) (by kernel_rfl) (by kernel_rfl) (by kernel_rfl) (by kernel_rfl) (fun _ _ _ h => h) (Or.inl ⟨by rfl, ?_⟩) (by assumption) ?_
          rotate_left
          · intro u hSu; obtain ⟨hSa, hSb, hSc⟩ := hSu; have hSv := blkCell hSa; clear hSa; go_simp; (try with_reducible rfl)
          try simp only [Act.put, pS]
          refine wpAnyZ_take (i := 12) (oi := { dst := some 72, op := _, type := _, pos := _, after := _, guard := _ }) (v := ?_) (p := [13, 14, 16]) rfl (by kernel_rfl) (by kernel_rfl) (by kernel_rfl) (by kernel_rfl) (by kernel_rfl) (by kernel_rfl) (fun _ _ _ h => h) (Or.inl ⟨by rfl, ?_⟩) (by assumption) ?_
          rotate_left
          · intro u hSu; obtain ⟨hSa, hSb, hSc⟩ := hSu; have hSv := blkCell hSa; clear hSa; go_simp; (try with_reducible rfl)
          try simp only [Act.put, pS]
          refine wpAnyZ_take (i := 13) (oi := { dst := some 73, op := _, type := _, pos := _, after := _, guard := _ }) (v := ?_) (p := [14, 16]) rfl (by kernel_rfl) (by kernel_rfl) (by kernel_rfl) (by kernel_rfl) (by kernel_rfl) (by kernel_rfl) (fun _ _ _ h => h) (Or.inl ⟨by rfl, ?_⟩) (by assumption) ?_
          rotate_left
          · intro u hSu; obtain ⟨hSa, hSb, hSc⟩ := hSu; have hSv := blkCell hSa; clear hSa; go_simp; (try with_reducible rfl)
          try simp only [Act.put, pS]
          refine wpAnyZ_ready (rs := [7]) (by kernel_rfl) (by simp) ?_
          refine AllReadyZ.cons (o := { dst := some 67, op := _, type := _, pos := _, after := _, guard := _ }) rfl (fun K hK => ?_) ?_
          rotate_left
          · exact AllReadyZ.nil
          go_simp
          refine (HC8.out _).mono ?_; rintro e vc1 ⟨rfl, hb⟩; have Xc1 := And.intro (blkOld Xc0.1 hb) (And.intro ((hb.cell (p := ⟨b1, off + m * 2, none⟩) hblc).trans Xc0.2.1) ((hb.cell (p := ⟨b1, off + m * 2 + 1, none⟩) hblc).trans Xc0.2.2)); have hblc1 := Nat.lt_of_lt_of_le hblc hb.size; have Yc1 := joinB Yc0 hb; have Oc1 := Oc0.below hb; try clear hSn
          have hSn := Xc1
          clear hb
          refine hK.out _ _ ?_ (fun hHeld => ?_)
          · first | exact hSn | exact Xc0
          clear hK K
          try simp only [Act.put, pS]
          refine wpAnyZ_ready (rs := [14]) (by kernel_rfl) (by simp) ?_
          refine AllReadyZ.cons (o := { dst := some 74, op := _, type := _, pos := _, after := _, guard := _ }) rfl (fun K hK => ?_) ?_
          rotate_left
          · exact AllReadyZ.nil
          go_simp
          refine (HC9.out _).mono ?_; rintro e vc2 ⟨rfl, hb⟩; have Xc2 := And.intro (blkOld Xc1.1 hb) (And.intro ((hb.cell (p := ⟨b1, off + m * 2, none⟩) hblc1).trans Xc1.2.1) ((hb.cell (p := ⟨b1, off + m * 2 + 1, none⟩) hblc1).trans Xc1.2.2)); have hblc2 := Nat.lt_of_lt_of_le hblc1 hb.size; have Yc2 := joinB Yc1 hb; have Oc2 := Oc1.below hb; try clear hSn
          have hSn := Xc2
          clear hb
          refine hK.out _ _ ?_ (fun hHeld => ?_)
          · first | exact hSn | exact Xc0
          clear hK K
          try simp only [Act.put, pS]
          refine wpAnyZ_take (i := 15) (oi := { dst := some 75, op := _, type := _, pos := _, after := _, guard := _ }) (v := ?_) (p := [16]) rfl (by kernel_rfl) (by kernel_rfl) (by kernel_rfl) (by kernel_rfl) (by kernel_rfl) (by kernel_rfl) (fun _ _ _ h => h) (Or.inl ⟨by rfl, ?_⟩) (by assumption) ?_
          rotate_left
          · intro u hSu; obtain ⟨hSa, hSb, hSc⟩ := hSu; have hSv := blkCell hSa; clear hSa; go_simp; (try with_reducible rfl)
          try simp only [Act.put, pS]
          refine wpAnyZ_ready (rs := [16]) (by kernel_rfl) (by simp) ?_
          refine AllReadyZ.last (o := { dst := some 76, op := _, type := _, pos := _, after := _, guard := _ }) rfl (by kernel_rfl) (fun K hK => ?_) ?_
          rotate_left
          · exact AllReadyZ.nil
          refine wantedIf (by rfl) ?_
          refine wp_appB _ (.tmp 60) (.tmp 75) 74 9 5 Tryz.underlying74 Tryz.underlying9 info_byte rfl w0.heap.size _ M rfl Oc2 S9 rfl (by omega) Yc2.size ?_
          intro v9 w9 ho hb
          have Yc3 := Yc2.trans hb
          refine hK.out _ _ ?_
          clear hK K
          try simp only [Act.put, pS]
          refine wpAnyZ_ready (rs := [17]) (by kernel_rfl) (by simp) ?_
          refine AllReadyZ.last (o := { dst := some 3, op := _, type := _, pos := _, after := _, guard := _ }) rfl (by kernel_rfl) (fun K hK => ?_) ?_
          rotate_left
          · exact AllReadyZ.nil
          go_simp
          refine hK.out _ _ ?_
          clear hK K
          try simp only [Act.put, pS]
          refine wpAnyZ_done (by kernel_rfl) ?_ _
          rw [HN.out] at ho
          clear hHeld hSn
          go_wp2_with fail
          go_roundw
          case rel => exact ⟨m + 1, by omega, by go_num, ho, Yc3⟩
          case measure => simp [intOf]; omega
        · have hm2 : ¬ (m : Int) < (ds.length : Int) := by omega
          obtain rfl : m = ds.length := by omega
          rw [List.take_length] at HMM
          have HE := Lib.hid (show (⟨M.toArray⟩ : ByteArray) = R from by rw [hR, HMM.out, HBASE.out]; unfold Rc.listsB Rc.mk; simp only [List.append_assoc])
          have hback := HO.out.back (P := Tryz.prog) (t := 74) (u := 9) (e := 5) Tryz.underlying74 Tryz.underlying5 Tryz.underlying9
          rw [HE.out] at hback
          go_wp2_with fail
          go_ret
          exact ⟨rfl, joinB HB0.out HBE.out⟩
end Go.Proofs.YtojaagnfjenhoaaGreat
/- The walks over the reference of records: bare, change. -/
namespace Go.Proofs.YtojaagnfjenhoaaGreat
open Go.RowKit
set_option maxRecDepth 100000 in
theorem rbare_any (r : Rc.Rec) (T D : Value) (w : World) :
    Calls Tryz.prog 78 #[recV r T D] w fun e w' => e = .returned (recV (Rc.bare r.kind r.lsn r.prev r.txn) (.slice none 0 0) (.slice none 0 0)) ∧ Below w.heap.size w w' := by
  obtain ⟨lsn, prev, txn, kind, page, next, nu, ⟨ok, os, oo, on⟩, how, root, ⟨ek, ep, es⟩, ts, ds⟩ := r
  dsimp only [recV, recA, Rc.bare, Rc.noOp, Rc.noKey]
  go_enter Tryz.func78, Tryz.ntmps78
  go_upto_region 1 with fail
  have H0 := Lib.hid (show BxL w.heap.size w [((rcA lsn prev txn kind page next nu ok os oo on how root ek ep es (T) (D)), 42), (zeroA, 42)] ((w.alloc (.cells (rcA lsn prev txn kind page next nu ok os oo on how root ek ep es (T) (D)) 42)).alloc (.cells zeroA 42)) from ((BxL.nil (Below.refl w.heap.size w)).new (by simp) (rcA lsn prev txn kind page next nu ok os oo on how root ek ep es (T) (D)) 42).new (by simp) zeroA 42)
  obtain ⟨W0, hW0⟩ : ∃ W, W = ((w.alloc (.cells (rcA lsn prev txn kind page next nu ok os oo on how root ek ep es (T) (D)) 42)).alloc (.cells zeroA 42)) := ⟨_, rfl⟩
  rw [← hW0] at H0 ⊢
  clear hW0
  have hc := blkCell H0.out.get0
  go_wp2_with (with_reducible refine listStore (by kernel_rfl) 42 (.tmp 2) (.tmp 11) rfl (w.heap.size + 1) (rcA lsn prev txn kind 0 0 0 0 0 ⟨#[]⟩ ⟨#[]⟩ 0 0 ⟨#[]⟩ 0 0 (.slice none 0 0) (.slice none 0 0)) _ _ rfl rfl H0.out.get1 (by kernel_rfl) (by kernel_rfl) (by kernel_rfl) ?_)
  refine bodyPost_ret (v := .agg (rcA lsn prev txn kind 0 0 0 0 0 ⟨#[]⟩ ⟨#[]⟩ 0 0 ⟨#[]⟩ 0 0 (.slice none 0 0) (.slice none 0 0))) (results_cell rfl _ _ rfl (load_whole (setRow_heap _ _ _ _ _ _ H0.out.get1) Tryz.underlying42 (by kernel_rfl) (by kernel_rfl))) rfl ?_
  exact ⟨rfl, (H0.out.row 1 _ _ rfl).below⟩
set_option maxRecDepth 100000 in
set_option maxHeartbeats 2000000 in
theorem rchange_any (r : Rc.Rec) (T D : Value) (w : World) :
    Calls Tryz.prog 79 #[recV r T D] w fun e w' => e = .returned (.bool (decide (Rc.pg r.page ∧ Rc.opR r.op ∧ Rc.treeR r))) ∧ Below w.heap.size w w' := by
  obtain ⟨lsn, prev, txn, kind, page, next, nu, ⟨ok, os, oo, on⟩, how, root, ⟨ek, ep, es⟩, ts, ds⟩ := r
  dsimp only
  have HP := Lib.hid (fun W => rpage_any page W)
  have HO := Lib.hid (fun W => rop_any ⟨ok, os, oo, on⟩ W)
  have HQ := Lib.hid (fun W => rpage_any root W)
  have HE := Lib.hid (fun W => rentry_any ⟨ek, ep, es⟩ W)
  dsimp only at HE HO
  by_cases h1 : Rc.pg page
  rotate_left
  · rw [decide_eq_false h1] at HP
    rw [decide_eq_false (fun h => h1 h.1)]
    clear h1
    go_enter Tryz.func79, Tryz.ntmps79
    go_wp2_with (first | (go_at_call 80; (with_reducible refine (HP.out _).mono ?_); rintro e w2 ⟨rfl, hb2⟩; have hB2 := joinB (allocB w (.cells (rcA lsn prev txn kind page next nu ok os oo on how root ek ep es (T) (D)) 42)) hb2; have hx2 := blkCell (blkNew hb2)))
    go_ret
    exact ⟨rfl, hB2⟩
  rw [decide_eq_true h1] at HP
  by_cases h2 : Rc.opR ⟨ok, os, oo, on⟩
  rotate_left
  · rw [decide_eq_false h2] at HO
    rw [decide_eq_false (fun h => h2 h.2.1)]
    clear h1 h2
    go_enter Tryz.func79, Tryz.ntmps79
    go_wp2_with (first | (go_at_call 80; (with_reducible refine (HP.out _).mono ?_); rintro e w2 ⟨rfl, hb2⟩; have hB2 := joinB (allocB w (.cells (rcA lsn prev txn kind page next nu ok os oo on how root ek ep es (T) (D)) 42)) hb2; have hx2 := blkCell (blkNew hb2)) | (go_at_call 81; (with_reducible refine (HO.out _).mono ?_); rintro e w3 ⟨rfl, hb3⟩; have hB3 := joinB hB2 hb3; have hx3 := blkCell (blkOld (blkNew hb2) hb3)))
    go_ret
    exact ⟨rfl, hB3⟩
  rw [decide_eq_true h2] at HO
  have hred : decide (Rc.pg page ∧ Rc.opR ⟨ok, os, oo, on⟩ ∧ Rc.treeR ⟨lsn, prev, txn, kind, page, next, nu, ⟨ok, os, oo, on⟩, how, root, ⟨ek, ep, es⟩, ts, ds⟩) = decide (Rc.treeR ⟨lsn, prev, txn, kind, page, next, nu, ⟨ok, os, oo, on⟩, how, root, ⟨ek, ep, es⟩, ts, ds⟩) := decide_eq_decide.2 ⟨fun h => h.2.2, fun h => ⟨h1, h2, h⟩⟩
  rw [hred]
  clear hred h1 h2
  by_cases hh : how = 1
  · subst hh
    have HEQ := Lib.hid (fun W => key_equal ⟨ek, ep, es⟩ ⟨⟨#[]⟩, 0, 0⟩ W)
    by_cases hr : root = 0
    · subst hr
      have heq := HEQ.out
      have HT := Lib.hid (show decide (Rc.treeR ⟨lsn, prev, txn, kind, page, next, nu, ⟨ok, os, oo, on⟩, 1, 0, ⟨ek, ep, es⟩, ts, ds⟩) = decide ((⟨ek, ep, es⟩ : Rc.Key) = ⟨⟨#[]⟩, 0, 0⟩) from decide_eq_decide.2 ⟨fun h => by
        rcases h with ⟨_, _, h3⟩ | ⟨h1, _⟩
        · exact h3
        · simp only at h1; omega, fun h => .inl ⟨rfl, rfl, h⟩⟩)
      rw [HT.out]
      generalize decide ((⟨ek, ep, es⟩ : Rc.Key) = ⟨⟨#[]⟩, 0, 0⟩) = b at heq ⊢
      go_enter Tryz.func79, Tryz.ntmps79
      go_wp2_with (first | (go_at_call 80; (with_reducible refine (HP.out _).mono ?_); rintro e w2 ⟨rfl, hb2⟩; have hB2 := joinB (allocB w (.cells (rcA lsn prev txn kind page next nu ok os oo on 1 0 ek ep es (T) (D)) 42)) hb2; have hx2 := blkCell (blkNew hb2)) | (go_at_call 81; (with_reducible refine (HO.out _).mono ?_); rintro e w3 ⟨rfl, hb3⟩; have hB3 := joinB hB2 hb3; have hx3 := blkCell (blkOld (blkNew hb2) hb3)))
      go_ret
      exact ⟨by simp, hB3⟩
    · have h2 : (root == 0) = false := by simp [hr]
      rw [show decide (Rc.treeR ⟨lsn, prev, txn, kind, page, next, nu, ⟨ok, os, oo, on⟩, 1, root, ⟨ek, ep, es⟩, ts, ds⟩) = false from decide_eq_false (fun h => by
        rcases h with ⟨_, h3, _⟩ | ⟨h1, _⟩
        · exact hr h3
        · simp only at h1; omega)]
      clear hr
      go_enter Tryz.func79, Tryz.ntmps79
      go_wp2_with (first | (go_at_call 80; (with_reducible refine (HP.out _).mono ?_); rintro e w2 ⟨rfl, hb2⟩; have hB2 := joinB (allocB w (.cells (rcA lsn prev txn kind page next nu ok os oo on 1 root ek ep es (T) (D)) 42)) hb2; have hx2 := blkCell (blkNew hb2)) | (go_at_call 81; (with_reducible refine (HO.out _).mono ?_); rintro e w3 ⟨rfl, hb3⟩; have hB3 := joinB hB2 hb3; have hx3 := blkCell (blkOld (blkNew hb2) hb3)))
      go_ret
      exact ⟨by simp, hB3⟩
  · have hh1 : (how == 1) = false := by simp [hh]
    have NOT := Lib.hid (show ∀ (h : ¬ ((how = 2 ∨ how = 3) ∧ Rc.pg root ∧ Rc.pg ep ∧ Rc.sl es ∧ ek.size ≤ 100)), decide (Rc.treeR ⟨lsn, prev, txn, kind, page, next, nu, ⟨ok, os, oo, on⟩, how, root, ⟨ek, ep, es⟩, ts, ds⟩) = false from fun h => decide_eq_false (fun h' => by
      rcases h' with ⟨h1, _⟩ | h1
      · exact hh h1
      · exact h h1))
    by_cases hk : how = 2 ∨ how = 3
    rotate_left
    · rw [NOT.out (fun h => hk h.1)]
      have hh2 : (how == 2) = false := by simp; omega
      have hh3 : (how == 3) = false := by simp; omega
      clear hk hh
      go_enter Tryz.func79, Tryz.ntmps79
      go_wp2_with (first | (go_at_call 80; (with_reducible refine (HP.out _).mono ?_); rintro e w2 ⟨rfl, hb2⟩; have hB2 := joinB (allocB w (.cells (rcA lsn prev txn kind page next nu ok os oo on how root ek ep es (T) (D)) 42)) hb2; have hx2 := blkCell (blkNew hb2)) | (go_at_call 81; (with_reducible refine (HO.out _).mono ?_); rintro e w3 ⟨rfl, hb3⟩; have hB3 := joinB hB2 hb3; have hx3 := blkCell (blkOld (blkNew hb2) hb3)))
      go_ret
      exact ⟨by simp, hB3⟩
    have hk2 : (how == 2 || how == 3) = true := by rcases hk with rfl | rfl <;> rfl
    by_cases hq : Rc.pg root
    rotate_left
    · rw [decide_eq_false hq] at HQ
      rw [NOT.out (fun h => hq h.2.1)]
      rcases hk with rfl | rfl
      · clear hh hk2 hq hh1
        go_enter Tryz.func79, Tryz.ntmps79
        go_wp2_with (first | (go_at_call 80; (with_reducible refine (HP.out _).mono ?_); rintro e w2 ⟨rfl, hb2⟩; have hB2 := joinB (allocB w (.cells (rcA lsn prev txn kind page next nu ok os oo on 2 root ek ep es (T) (D)) 42)) hb2; have hx2 := blkCell (blkNew hb2)) | (go_at_call 81; (with_reducible refine (HO.out _).mono ?_); rintro e w3 ⟨rfl, hb3⟩; have hB3 := joinB hB2 hb3; have hx3 := blkCell (blkOld (blkNew hb2) hb3)) | (go_at_call 80; (with_reducible refine (HQ.out _).mono ?_); rintro e w4 ⟨rfl, hb4⟩; have hB4 := joinB hB3 hb4; have hx4 := blkCell (blkOld (blkOld (blkNew hb2) hb3) hb4)))
        go_ret
        exact ⟨by simp, hB4⟩
      · clear hh hk2 hq hh1
        go_enter Tryz.func79, Tryz.ntmps79
        go_wp2_with (first | (go_at_call 80; (with_reducible refine (HP.out _).mono ?_); rintro e w2 ⟨rfl, hb2⟩; have hB2 := joinB (allocB w (.cells (rcA lsn prev txn kind page next nu ok os oo on 3 root ek ep es (T) (D)) 42)) hb2; have hx2 := blkCell (blkNew hb2)) | (go_at_call 81; (with_reducible refine (HO.out _).mono ?_); rintro e w3 ⟨rfl, hb3⟩; have hB3 := joinB hB2 hb3; have hx3 := blkCell (blkOld (blkNew hb2) hb3)) | (go_at_call 80; (with_reducible refine (HQ.out _).mono ?_); rintro e w4 ⟨rfl, hb4⟩; have hB4 := joinB hB3 hb4; have hx4 := blkCell (blkOld (blkOld (blkNew hb2) hb3) hb4)))
        go_ret
        exact ⟨by simp, hB4⟩
    rw [decide_eq_true hq] at HQ
    have HT := Lib.hid (show decide (Rc.treeR ⟨lsn, prev, txn, kind, page, next, nu, ⟨ok, os, oo, on⟩, how, root, ⟨ek, ep, es⟩, ts, ds⟩) = decide (ek.size ≤ 100 ∧ Rc.pg ep ∧ Rc.sl es) from decide_eq_decide.2 ⟨fun h => by
      rcases h with ⟨h1, _⟩ | ⟨_, _, h3, h4, h5⟩
      · exact absurd h1 hh
      · exact ⟨h5, h3, h4⟩, fun h => .inr ⟨hk, hq, h.2.1, h.2.2, h.1⟩⟩)
    rw [HT.out]
    generalize decide (ek.size ≤ 100 ∧ Rc.pg ep ∧ Rc.sl es) = b at HE ⊢
    rcases hk with rfl | rfl
    · clear hh hk2 hq hh1 HT NOT
      go_enter Tryz.func79, Tryz.ntmps79
      go_wp2_with (first | (go_at_call 80; (with_reducible refine (HP.out _).mono ?_); rintro e w2 ⟨rfl, hb2⟩; have hB2 := joinB (allocB w (.cells (rcA lsn prev txn kind page next nu ok os oo on 2 root ek ep es (T) (D)) 42)) hb2; have hx2 := blkCell (blkNew hb2)) | (go_at_call 81; (with_reducible refine (HO.out _).mono ?_); rintro e w3 ⟨rfl, hb3⟩; have hB3 := joinB hB2 hb3; have hx3 := blkCell (blkOld (blkNew hb2) hb3)) | (go_at_call 80; (with_reducible refine (HQ.out _).mono ?_); rintro e w4 ⟨rfl, hb4⟩; have hB4 := joinB hB3 hb4; have hx4 := blkCell (blkOld (blkOld (blkNew hb2) hb3) hb4)) | (go_at_call 108; (with_reducible refine (HE.out _).mono ?_); rintro e w5 ⟨rfl, hb5⟩; have hB5 := joinB hB4 hb5))
      go_ret
      exact ⟨by simp, hB5⟩
    · clear hh hk2 hq hh1 HT NOT
      go_enter Tryz.func79, Tryz.ntmps79
      go_wp2_with (first | (go_at_call 80; (with_reducible refine (HP.out _).mono ?_); rintro e w2 ⟨rfl, hb2⟩; have hB2 := joinB (allocB w (.cells (rcA lsn prev txn kind page next nu ok os oo on 3 root ek ep es (T) (D)) 42)) hb2; have hx2 := blkCell (blkNew hb2)) | (go_at_call 81; (with_reducible refine (HO.out _).mono ?_); rintro e w3 ⟨rfl, hb3⟩; have hB3 := joinB hB2 hb3; have hx3 := blkCell (blkOld (blkNew hb2) hb3)) | (go_at_call 80; (with_reducible refine (HQ.out _).mono ?_); rintro e w4 ⟨rfl, hb4⟩; have hB4 := joinB hB3 hb4; have hx4 := blkCell (blkOld (blkOld (blkNew hb2) hb3) hb4)) | (go_at_call 108; (with_reducible refine (HE.out _).mono ?_); rintro e w5 ⟨rfl, hb5⟩; have hB5 := joinB hB4 hb5))
      go_ret
      exact ⟨by simp, hB5⟩
end Go.Proofs.YtojaagnfjenhoaaGreat
/- The walk over the reference of records: lists. -/
namespace Go.Proofs.YtojaagnfjenhoaaGreat
open Go.RowKit
set_option maxRecDepth 100000 in
set_option maxHeartbeats 4000000 in
theorem rlists_any (r : Rc.Rec) (A B : Option Addr) (c d : Nat) (w : World) (hr : RecR w r A c B d) :
    Calls Tryz.prog 82 #[recV r (.slice A r.txns.length c) (.slice B r.dirty.length d)] w fun e w' => e = .returned (.bool (decide (Rc.listsR r))) ∧ Below w.heap.size w w' := by
  obtain ⟨lsn, prev, txn, kind, page, next, nu, ⟨ok, os, oo, on⟩, how, root, ⟨ek, ep, es⟩, ts, ds⟩ := r
  dsimp only [recV, recA]
  obtain ⟨w0, hw0⟩ : ∃ W, W = w.alloc (.cells (rcA lsn prev txn kind page next nu ok os oo on how root ek ep es (.slice A ts.length c) (.slice B ds.length d)) 42) := ⟨_, rfl⟩
  have HB0 := Lib.hid (show Below w.heap.size w w0 from by rw [hw0]; exact allocB _ _)
  have HX0 := Lib.hid (show w0.heap[w.heap.size]? = some (.cells (rcA lsn prev txn kind page next nu ok os oo on how root ek ep es (.slice A ts.length c) (.slice B ds.length d)) 42 (0, 0)) from by rw [hw0]; exact heap_alloc_new _ _)
  have HT := Lib.hid (show TxR w0 A c ts from hr.txns.below HB0.out)
  have HD := Lib.hid (show DiR w0 B d ds from hr.dirty.below HB0.out)
  have hts : ts.length ≤ 140737488355328 := hr.small.1
  have hds : ds.length ≤ 140737488355328 := hr.small.2
  have HN := Lib.hid (fun n W => rnumber_any n W)
  have HP := Lib.hid (fun n W => rpage_any n W)
  obtain ⟨z, hz⟩ : ∃ z, z = decide (Rc.listsR ⟨lsn, prev, txn, kind, page, next, nu, ⟨ok, os, oo, on⟩, how, root, ⟨ek, ep, es⟩, ts, ds⟩) := ⟨_, rfl⟩
  rw [← hz]
  have HZ := Lib.hid hz
  clear hr hz
  go_enter Tryz.func82, Tryz.ntmps82
  go_upto_region 1 with fail
  rw [← hw0]
  clear hw0
  obtain ⟨g, hg⟩ : ∃ g, g = w.heap.size := ⟨_, rfl⟩
  rw [← hg] at HX0
  rw [← hg]
  clear hg
  go_wp2_with fail
  go_loopw [3] (fun i wr => ∃ k : Nat, k ≤ ts.length ∧ i = .int .i64 (k : Int) ∧ (∀ j (hj : j < ts.length), j < k → Rc.txnR ts[j]) ∧ Below w0.heap.size w0 wr) (fun i _ => ts.length - (intOf i).toNat)
  case atStart => exact ⟨0, Nat.zero_le _, rfl, fun _ _ h => absurd h (by omega), Below.refl _ _⟩
  case round =>
    obtain ⟨k, hk, rfl, hall, hbw⟩ := hrel
    have HA := Lib.hid hall
    clear hall
    have hcb := blkCell (blkOld HX0.out hbw)
    by_cases hlt : k < ts.length
    · have hk2 : (k : Int) < (ts.length : Int) := by omega
      have hk1 : (0 : Int) ≤ (k : Int) := by omega
      have hwk : IntKind.i64.wrap ((k : Int) + 1) = (k : Int) + 1 := IntWalk.i64_in _ (by omega)
      obtain ⟨b1, off, rfl, hc, hbl, hcell⟩ := read_at txC_len (HT.out.below hbw) hlt
      have HBAD := Lib.hid (show ¬ Rc.txnR ts[k] → z = false from fun h => HZ.out.trans (decide_eq_false (fun h2 => h (h2.2.2.1 _ (List.getElem_mem hlt)))))
      have HOK := Lib.hid (show Rc.txnR ts[k] → ∀ j (hj : j < ts.length), j < k + 1 → Rc.txnR ts[j] from fun h j hj hjk => by
        rcases Nat.lt_or_eq_of_le (Nat.le_of_lt_succ hjk) with h1 | h1
        · exact HA.out j hj h1
        · subst h1; exact h)
      clear HA
      generalize ts[k] = x at hcell HBAD HOK
      obtain ⟨x1, x2, x3, x4⟩ := x
      have HC := Lib.hid (show wr.rangeAt b1 (off + k * 4) [.int .i64 x1, .int .i64 x2, .int .i64 x3, .bool x4] from hcell)
      clear hcell hc
      go_upto_region 5 with (first
        | (with_reducible refine wpList_load_mid rfl 106 (.tmp 16) rfl b1 (off + k * 4) rfl [.int .i64 x1, .int .i64 x2, .int .i64 x3, .bool x4] _ HC.out Tryz.underlying106 (by kernel_rfl) (by kernel_rfl) ?_)
        | (with_reducible refine wpList_store_new rfl 106 (.tmp 4) (.tmp 17) rfl #[.int .i64 x1, .int .i64 x2, .int .i64 x3, .bool x4] _ _ rfl (by kernel_rfl) (by kernel_rfl) (by kernel_rfl) (by kernel_rfl) ?_))
      have HG := Lib.hid (heap_alloc_new wr (.cells #[.int .i64 x1, .int .i64 x2, .int .i64 x3, .bool x4] 106))
      have HB1 := Lib.hid (joinB hbw (allocB wr (.cells #[.int .i64 x1, .int .i64 x2, .int .i64 x3, .bool x4] 106)))
      obtain ⟨gx, hge⟩ : ∃ gx, gx = wr.heap.size := ⟨_, rfl⟩
      obtain ⟨W1, hW1⟩ : ∃ W, W = wr.alloc (.cells #[.int .i64 x1, .int .i64 x2, .int .i64 x3, .bool x4] 106) := ⟨_, rfl⟩
      rw [← hge, ← hW1] at HG
      rw [← hW1] at HB1
      rw [← hge, ← hW1]
      clear hge hW1 hbw hcb HC hbl
      have hcx := blkCell HG.out
      have H1 := Lib.hid (fun W => rnumber_any x1 W)
      have H2 := Lib.hid (fun W => rnumber_any x2 W)
      have H3 := Lib.hid (fun W => rnumber_any x3 W)
      by_cases h1 : Rc.num x1
      rotate_left
      · rw [decide_eq_false h1] at H1
        have HZ2 := Lib.hid (HBAD.out (fun h => h1 h.1))
        clear h1
        go_wp2_with (go_at_call 77; (with_reducible refine (H1.out _).mono ?_); rintro e w2 ⟨rfl, hb2⟩)
        go_ret
        exact ⟨by rw [HZ2.out]; rfl, joinB HB0.out (joinB HB1.out hb2)⟩
      rw [decide_eq_true h1] at H1
      by_cases h2 : Rc.num x2
      rotate_left
      · rw [decide_eq_false h2] at H2
        have HZ2 := Lib.hid (HBAD.out (fun h => h2 h.2.1))
        clear h1 h2
        go_wp2_with (first
          | (go_at_call 77; (with_reducible refine (H1.out _).mono ?_); rintro e w2 ⟨rfl, hb2⟩; have hcx2 := blkCell (blkOld HG.out hb2))
          | (go_at_call 77; (with_reducible refine (H2.out _).mono ?_); rintro e w3 ⟨rfl, hb3⟩))
        go_ret
        exact ⟨by rw [HZ2.out]; rfl, joinB HB0.out (joinB (joinB HB1.out hb2) hb3)⟩
      rw [decide_eq_true h2] at H2
      by_cases h3 : Rc.num x3
      · rw [decide_eq_true h3] at H3
        have HOK2 := Lib.hid (HOK.out ⟨h1, h2, h3⟩)
        clear h1 h2 h3
        go_wp2_with (first
          | (go_at_call 77; (with_reducible refine (H1.out _).mono ?_); rintro e w2 ⟨rfl, hb2⟩; have hcx2 := blkCell (blkOld HG.out hb2))
          | (go_at_call 77; (with_reducible refine (H2.out _).mono ?_); rintro e w3 ⟨rfl, hb3⟩; have hcx3 := blkCell (blkOld (blkOld HG.out hb2) hb3))
          | (go_at_call 77; (with_reducible refine (H3.out _).mono ?_); rintro e w4 ⟨rfl, hb4⟩))
        go_roundw
        case rel => exact ⟨k + 1, by omega, by go_num, HOK2.out, joinB (joinB (joinB HB1.out hb2) hb3) hb4⟩
        case measure => simp [intOf]; omega
      · rw [decide_eq_false h3] at H3
        have HZ2 := Lib.hid (HBAD.out (fun h => h3 h.2.2))
        clear h1 h2 h3
        go_wp2_with (first
          | (go_at_call 77; (with_reducible refine (H1.out _).mono ?_); rintro e w2 ⟨rfl, hb2⟩; have hcx2 := blkCell (blkOld HG.out hb2))
          | (go_at_call 77; (with_reducible refine (H2.out _).mono ?_); rintro e w3 ⟨rfl, hb3⟩; have hcx3 := blkCell (blkOld (blkOld HG.out hb2) hb3))
          | (go_at_call 77; (with_reducible refine (H3.out _).mono ?_); rintro e w4 ⟨rfl, hb4⟩))
        go_ret
        exact ⟨by rw [HZ2.out]; rfl, joinB HB0.out (joinB (joinB (joinB HB1.out hb2) hb3) hb4)⟩
    · have hk2 : ¬ (k : Int) < (ts.length : Int) := by omega
      have HTX := Lib.hid (show ∀ x ∈ ts, Rc.txnR x from fun x hx => by
        obtain ⟨j, hj, rfl⟩ := List.mem_iff_getElem.1 hx
        exact HA.out j hj (by omega))
      clear HA
      obtain ⟨wo, rfl⟩ : ∃ wo : World, wo = wr := ⟨_, rfl⟩
      go_wp2_with fail
      go_loopw [5] (fun i wr => ∃ k : Nat, k ≤ ds.length ∧ i = .int .i64 (k : Int) ∧ (∀ j (hj : j < ds.length), j < k → Rc.dirtyR ds[j]) ∧ Below w0.heap.size w0 wr) (fun i _ => ds.length - (intOf i).toNat)
      case atStart => exact ⟨0, Nat.zero_le _, rfl, fun _ _ h => absurd h (by omega), hbw⟩
      case round =>
        obtain ⟨m, hm, rfl, hall, hbw2⟩ := hrel
        have HA := Lib.hid hall
        clear hall hcb
        have hcb := blkCell (blkOld HX0.out hbw2)
        by_cases hlt2 : m < ds.length
        · have hm2 : (m : Int) < (ds.length : Int) := by omega
          have hm1 : (0 : Int) ≤ (m : Int) := by omega
          have hwm : IntKind.i64.wrap ((m : Int) + 1) = (m : Int) + 1 := IntWalk.i64_in _ (by omega)
          obtain ⟨b1, off, rfl, hc, hbl, hcell⟩ := read_at diC_len (HD.out.below hbw2) hlt2
          have q0 := hcell 0 _ rfl
          have q1 := hcell 1 _ rfl
          simp only [Nat.add_zero] at q0
          have HBAD := Lib.hid (show ¬ Rc.dirtyR ds[m] → z = false from fun h => HZ.out.trans (decide_eq_false (fun h2 => h (h2.2.2.2 _ (List.getElem_mem hlt2)))))
          have HOK := Lib.hid (show Rc.dirtyR ds[m] → ∀ j (hj : j < ds.length), j < m + 1 → Rc.dirtyR ds[j] from fun h j hj hjk => by
            rcases Nat.lt_or_eq_of_le (Nat.le_of_lt_succ hjk) with h1 | h1
            · exact HA.out j hj h1
            · subst h1; exact h)
          clear HA hcell hc
          generalize ds[m] = x at q0 q1 HBAD HOK
          obtain ⟨x1, x2⟩ := x
          have Q1 := Lib.hid q1
          have H1 := Lib.hid (fun W => rpage_any x1 W)
          have H2 := Lib.hid (fun W => rnumber_any x2 W)
          by_cases h1 : Rc.pg x1
          rotate_left
          · rw [decide_eq_false h1] at H1
            have HZ2 := Lib.hid (HBAD.out (fun h => h1 h.1))
            clear h1
            go_wp2_with (go_at_call 80; (with_reducible refine (H1.out _).mono ?_); rintro e w2 ⟨rfl, hb2⟩)
            go_ret
            exact ⟨by rw [HZ2.out]; rfl, joinB HB0.out (joinB hbw2 hb2)⟩
          rw [decide_eq_true h1] at H1
          by_cases h2 : Rc.num x2
          · rw [decide_eq_true h2] at H2
            have HOK2 := Lib.hid (HOK.out ⟨h1, h2⟩)
            clear h1 h2
            go_wp2_with (first
              | (go_at_call 80; (with_reducible refine (H1.out _).mono ?_); rintro e w2 ⟨rfl, hb2⟩; have hcx2 := blkCell (blkOld (blkOld HX0.out hbw2) hb2); have hq2 := (hb2.cell (p := ⟨b1, off + m * 2 + 1, none⟩) hbl).trans Q1.out)
              | (go_at_call 77; (with_reducible refine (H2.out _).mono ?_); rintro e w3 ⟨rfl, hb3⟩))
            go_roundw
            case rel => exact ⟨m + 1, by omega, by go_num, HOK2.out, joinB (joinB hbw2 hb2) hb3⟩
            case measure => simp [intOf]; omega
          · rw [decide_eq_false h2] at H2
            have HZ2 := Lib.hid (HBAD.out (fun h => h2 h.2))
            clear h1 h2
            go_wp2_with (first
              | (go_at_call 80; (with_reducible refine (H1.out _).mono ?_); rintro e w2 ⟨rfl, hb2⟩; have hcx2 := blkCell (blkOld (blkOld HX0.out hbw2) hb2); have hq2 := (hb2.cell (p := ⟨b1, off + m * 2 + 1, none⟩) hbl).trans Q1.out)
              | (go_at_call 77; (with_reducible refine (H2.out _).mono ?_); rintro e w3 ⟨rfl, hb3⟩))
            go_ret
            exact ⟨by rw [HZ2.out]; rfl, joinB HB0.out (joinB (joinB hbw2 hb2) hb3)⟩
        · have hm2 : ¬ (m : Int) < (ds.length : Int) := by omega
          have HZ2 := Lib.hid (show z = (decide (ts.length ≤ 1000) && decide (ds.length ≤ 2000)) from by
            rw [HZ.out, ← Bool.decide_and]
            exact decide_eq_decide.2 ⟨fun h => ⟨h.1, h.2.1⟩, fun h => ⟨h.1, h.2, HTX.out, fun x hx => by
              obtain ⟨j, hj, rfl⟩ := List.mem_iff_getElem.1 hx
              exact HA.out j hj (by have h9 : j < ds.length := hj; omega)⟩⟩)
          by_cases h5 : (ts.length : Int) ≤ 1000
          · have h5n : ts.length ≤ 1000 := by omega
            go_wp2_with fail
            go_ret
            exact ⟨by rw [HZ2.out]; simp [h5n]; try omega, joinB HB0.out hbw2⟩
          · have h5n : ¬ ts.length ≤ 1000 := by omega
            go_wp2_with fail
            go_ret
            exact ⟨by rw [HZ2.out]; simp [h5n]; try omega, joinB HB0.out hbw2⟩
end Go.Proofs.YtojaagnfjenhoaaGreat
/- The plain law of records: what may be, kind by kind, as the reference asks it. -/
namespace Rc
variable {lsn prev txn page next nu how root : Int} {op : Op} {e : Key} {ts : List TxnAt} {ds : List DirtyAt}
theorem r_nums {r : Rec} (h : Right r) : num r.lsn ∧ num r.prev ∧ num r.txn := (form_of h).nums
theorem r_small {kind : Int} (hk : kind = 1 ∨ kind = 5 ∨ kind = 6 ∨ kind = 7) (hn : num lsn ∧ num prev ∧ num txn) :
    Right ⟨lsn, prev, txn, kind, page, next, nu, op, how, root, e, ts, ds⟩ ↔ bare kind lsn prev txn = ⟨lsn, prev, txn, kind, page, next, nu, op, how, root, e, ts, ds⟩ := by
  constructor
  · intro h
    have F := form_of h
    have h1 := F.bare (by unfold hasChange; simp only; omega)
    have h2 := F.noTree (by simp only; omega)
    have h3 := F.noNext (by unfold hasNext; simp only; omega)
    have h4 := F.noLists (by simp only; omega)
    simp only at h1 h2 h3 h4
    obtain ⟨rfl, rfl⟩ := h1
    obtain ⟨rfl, rfl, rfl⟩ := h2
    obtain ⟨rfl, rfl, rfl⟩ := h4
    subst h3
    rfl
  · intro h
    rw [← h]
    exact .small kind lsn prev txn hk hn.1 hn.2.1 hn.2.2
theorem r_2 (hn : num lsn ∧ num prev ∧ num txn) :
    Right ⟨lsn, prev, txn, 2, page, next, nu, op, how, root, e, ts, ds⟩ ↔ (⟨lsn, prev, txn, 2, page, 0, 0, op, how, root, e, [], []⟩ : Rec) = ⟨lsn, prev, txn, 2, page, next, nu, op, how, root, e, ts, ds⟩ ∧ pg page ∧ opR op ∧ treeR ⟨lsn, prev, txn, 2, page, next, nu, op, how, root, e, ts, ds⟩ := by
  constructor
  · intro h
    have F := form_of h
    have h1 := F.change (by unfold hasChange; simp)
    have h2 := F.tree rfl
    have h3 := F.noNext (by unfold hasNext; simp)
    have h4 := F.noLists (by simp)
    simp only at h1 h3 h4
    obtain ⟨rfl, rfl, rfl⟩ := h4
    subst h3
    exact ⟨rfl, h1.1, h1.2, h2⟩
  · rintro ⟨h, h1, h2, h3⟩
    injection h with _ _ _ _ _ e1 e2 _ _ _ _ e3 e4
    subst e1 e2 e3 e4
    exact .change lsn prev txn page op how root e hn.1 hn.2.1 hn.2.2 h1 h2 h3
theorem r_3 (hn : num lsn ∧ num prev ∧ num txn) :
    Right ⟨lsn, prev, txn, 3, page, next, nu, op, how, root, e, ts, ds⟩ ↔ (⟨lsn, prev, txn, 3, page, next, 0, op, 0, 0, noKey, [], []⟩ : Rec) = ⟨lsn, prev, txn, 3, page, next, nu, op, how, root, e, ts, ds⟩ ∧ pg page ∧ opR op ∧ num next := by
  constructor
  · intro h
    have F := form_of h
    have h1 := F.change (by unfold hasChange; simp)
    have h2 := F.noTree (by simp)
    have h3 := F.next (by unfold hasNext; simp)
    have h4 := F.noLists (by simp)
    simp only at h1 h2 h3 h4
    obtain ⟨rfl, rfl, rfl⟩ := h4
    obtain ⟨rfl, rfl, rfl⟩ := h2
    exact ⟨rfl, h1.1, h1.2, h3⟩
  · rintro ⟨h, h1, h2, h3⟩
    injection h with _ _ _ _ _ _ e2 _ e5 e6 e7 e3 e4
    subst e2 e3 e4 e5 e6 e7
    exact .clr lsn prev txn page op next hn.1 hn.2.1 hn.2.2 h1 h2 h3
theorem r_4 (hn : num lsn ∧ num prev ∧ num txn) :
    Right ⟨lsn, prev, txn, 4, page, next, nu, op, how, root, e, ts, ds⟩ ↔ (⟨lsn, prev, txn, 4, 0, next, 0, noOp, 0, 0, noKey, [], []⟩ : Rec) = ⟨lsn, prev, txn, 4, page, next, nu, op, how, root, e, ts, ds⟩ ∧ num next := by
  constructor
  · intro h
    have F := form_of h
    have h1 := F.bare (by unfold hasChange; simp)
    have h2 := F.noTree (by simp)
    have h3 := F.next (by unfold hasNext; simp)
    have h4 := F.noLists (by simp)
    simp only at h1 h2 h3 h4
    obtain ⟨rfl, rfl, rfl⟩ := h4
    obtain ⟨rfl, rfl, rfl⟩ := h2
    obtain ⟨rfl, rfl⟩ := h1
    exact ⟨rfl, h3⟩
  · rintro ⟨h, h3⟩
    injection h with _ _ _ _ e0 _ e2 e1 e5 e6 e7 e3 e4
    subst e0 e1 e2 e3 e4 e5 e6 e7
    exact .nest lsn prev txn next hn.1 hn.2.1 hn.2.2 h3
theorem r_8 (hn : num lsn ∧ num prev ∧ num txn) :
    Right ⟨lsn, prev, txn, 8, page, next, nu, op, how, root, e, ts, ds⟩ ↔ (⟨lsn, prev, txn, 8, page, 0, 0, op, 0, 0, noKey, [], []⟩ : Rec) = ⟨lsn, prev, txn, 8, page, next, nu, op, how, root, e, ts, ds⟩ ∧ pg page ∧ opR op := by
  constructor
  · intro h
    have F := form_of h
    have h1 := F.change (by unfold hasChange; simp)
    have h2 := F.noTree (by simp)
    have h3 := F.noNext (by unfold hasNext; simp)
    have h4 := F.noLists (by simp)
    simp only at h1 h2 h3 h4
    obtain ⟨rfl, rfl, rfl⟩ := h4
    obtain ⟨rfl, rfl, rfl⟩ := h2
    subst h3
    exact ⟨rfl, h1.1, h1.2⟩
  · rintro ⟨h, h1, h2⟩
    injection h with _ _ _ _ _ e1 e2 _ e5 e6 e7 e3 e4
    subst e1 e2 e3 e4 e5 e6 e7
    exact .image lsn prev txn page op hn.1 hn.2.1 hn.2.2 h1 h2
theorem r_9 (hn : num lsn ∧ num prev ∧ num txn) :
    Right ⟨lsn, prev, txn, 9, page, next, nu, op, how, root, e, ts, ds⟩ ↔ (⟨lsn, prev, txn, 9, 0, 0, nu, noOp, 0, 0, noKey, ts, ds⟩ : Rec) = ⟨lsn, prev, txn, 9, page, next, nu, op, how, root, e, ts, ds⟩ ∧ num nu ∧ listsR ⟨lsn, prev, txn, 9, page, next, nu, op, how, root, e, ts, ds⟩ := by
  constructor
  · intro h
    have F := form_of h
    have h1 := F.bare (by unfold hasChange; simp)
    have h2 := F.noTree (by simp)
    have h3 := F.noNext (by unfold hasNext; simp)
    have h4 := F.lists rfl
    simp only at h1 h2 h3 h4
    obtain ⟨rfl, rfl⟩ := h1
    obtain ⟨rfl, rfl, rfl⟩ := h2
    subst h3
    exact ⟨rfl, h4.1, h4.2⟩
  · rintro ⟨h, h1, h2⟩
    injection h with _ _ _ _ e0 e1 _ e2 e5 e6 e7 _ _
    subst e0 e1 e2 e5 e6 e7
    exact .check lsn prev txn nu ts ds hn.1 hn.2.1 hn.2.2 h1 h2
theorem r_other {r : Rec} (h : ¬ (1 ≤ r.kind ∧ r.kind ≤ 9)) : ¬ Right r := fun hr => h (form_of hr).kind
end Rc
