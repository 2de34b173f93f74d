/- The walks over the reference of records: a record's bytes. -/
import Derived.Test.YtojaagnfjenhoaaHo10
import Derived.Test.YtojaagnfjenhoaaHo04
namespace Rc
/-- Bytes as a string. -/
def mk (l : List UInt8) : ByteArray := ⟨l.toArray⟩
theorem mk_size (l : List UInt8) : (mk l).size = l.length := by unfold mk; show l.toArray.size = _; simp
theorem mk_app (a b : List UInt8) : mk a ++ mk b = mk (a ++ b) := by
  apply ByteArray.ext
  rw [ByteArray.data_append]
  unfold mk
  simp
theorem put_mk (n : Int) (k : Nat) (hk : k ≤ 8) : Oct.putB n (k : Int) = mk (p n k) := by
  apply ByteArray.ext
  apply Array.toList_inj.1
  rw [Oct.putB_list _ _ hk]
  rfl
end Rc
namespace Go.Proofs.Ytojaagnfjenhoaa
open Go.RowKit
theorem rput_mk (n : Int) (k : Nat) (hk : k ≤ 8) (w : World) :
    Calls Try.prog 83 #[.int .i64 n, .int .i64 (k : Int)] w fun e w' => e = .returned (.string (Rc.mk (Rc.p n k))) ∧ Below w.heap.size w w' := by
  rw [← Rc.put_mk n k hk]
  exact rput_any n k (by omega) (by omega) w
theorem add_mk (a b : List UInt8) (h : a.length + b.length ≤ 1000000) (W : World) : (Op.stringOp .add (Rc.mk a) (Rc.mk b)).run Try.prog W = .ok (.string (Rc.mk (a ++ b))) W := by
  rw [← Rc.mk_app]
  exact run_string_add_sum W _ _ (by rw [Rc.mk_size, Rc.mk_size]; omega)
set_option maxRecDepth 100000 in
set_option maxHeartbeats 4000000 in
theorem rbody_8 (lsn prev txn page next nu ok os root ep es : Int) (how : Int) (oo on ek : ByteArray) (ts : List Rc.TxnAt) (ds : List Rc.DirtyAt) (A B : Option Addr) (c d : Nat) (hoo : oo.size ≤ 65535) (hon : on.size ≤ 65535) (w : World) :
    Calls Try.prog 44 #[.agg #[.int .i64 lsn, .int .i64 prev, .int .i64 txn, .int .i64 8, .int .i64 page, .int .i64 next, .int .i64 nu, .int .i64 ok, .int .i64 os, .string oo, .string on, .int .i64 how, .int .i64 root, .string ek, .int .i64 ep, .int .i64 es, .slice A ts.length c, .slice B ds.length d]] w fun e w' => e = .returned (.string (Rc.mk (Rc.bodyB ⟨lsn, prev, txn, 8, page, next, nu, ⟨ok, os, oo, on⟩, how, root, ⟨ek, ep, es⟩, ts, ds⟩))) ∧ Below w.heap.size w w' := by
  obtain ⟨w0, hw0⟩ : ∃ W, W = w.alloc (.cells #[.int .i64 lsn, .int .i64 prev, .int .i64 txn, .int .i64 8, .int .i64 page, .int .i64 next, .int .i64 nu, .int .i64 ok, .int .i64 os, .string oo, .string on, .int .i64 how, .int .i64 root, .string ek, .int .i64 ep, .int .i64 es, .slice A ts.length c, .slice B ds.length d] 49) := ⟨_, rfl⟩
  have HB0 := Lib.hid (show Below w.heap.size w w0 from by rw [hw0]; exact allocB _ _)
  have HX0 := Lib.hid (show w0.heap[w.heap.size]? = some (.cells #[.int .i64 lsn, .int .i64 prev, .int .i64 txn, .int .i64 8, .int .i64 page, .int .i64 next, .int .i64 nu, .int .i64 ok, .int .i64 os, .string oo, .string on, .int .i64 how, .int .i64 root, .string ek, .int .i64 ep, .int .i64 es, .slice A ts.length c, .slice B ds.length d] 49 (0, 0)) from by rw [hw0]; exact heap_alloc_new _ _)
  obtain ⟨R, hR⟩ : ∃ R, R = Rc.mk (Rc.bodyB ⟨lsn, prev, txn, 8, page, next, nu, ⟨ok, os, oo, on⟩, how, root, ⟨ek, ep, es⟩, ts, ds⟩) := ⟨_, rfl⟩
  rw [← hR]
  obtain ⟨B1, hB1⟩ : ∃ b, b = Rc.mk (Rc.p 8 1) := ⟨_, rfl⟩
  have hl1 : ((Rc.p 8 1)).length = 1 := Rc.p_length _ _
  have HC1 := Lib.hid (show ∀ W, Calls Try.prog 83 #[.int .i64 8, .int .i64 1] W fun e w' => e = .returned (.string B1) ∧ Below W.heap.size W w' from fun W => by rw [hB1]; exact rput_mk 8 1 (by omega) W)
  obtain ⟨B2, hB2⟩ : ∃ b, b = Rc.mk (Rc.p lsn 6) := ⟨_, rfl⟩
  have hl2 : ((Rc.p lsn 6)).length = 6 := Rc.p_length _ _
  have HC2 := Lib.hid (show ∀ W, Calls Try.prog 83 #[.int .i64 lsn, .int .i64 6] W fun e w' => e = .returned (.string B2) ∧ Below W.heap.size W w' from fun W => by rw [hB2]; exact rput_mk lsn 6 (by omega) W)
  obtain ⟨S2, hS2⟩ : ∃ b, b = Rc.mk ((Rc.p 8 1) ++ (Rc.p lsn 6)) := ⟨_, rfl⟩
  have ha2 : ∀ W : World, (Op.stringOp .add B1 B2).run Try.prog W = .ok (.string S2) W := fun W => by rw [hB1, hB2, hS2]; exact add_mk _ _ (by (try simp only [List.length_append]); omega) W
  obtain ⟨B3, hB3⟩ : ∃ b, b = Rc.mk (Rc.p prev 6) := ⟨_, rfl⟩
  have hl3 : ((Rc.p prev 6)).length = 6 := Rc.p_length _ _
  have HC3 := Lib.hid (show ∀ W, Calls Try.prog 83 #[.int .i64 prev, .int .i64 6] W fun e w' => e = .returned (.string B3) ∧ Below W.heap.size W w' from fun W => by rw [hB3]; exact rput_mk prev 6 (by omega) W)
  obtain ⟨S3, hS3⟩ : ∃ b, b = Rc.mk (((Rc.p 8 1) ++ (Rc.p lsn 6)) ++ (Rc.p prev 6)) := ⟨_, rfl⟩
  have ha3 : ∀ W : World, (Op.stringOp .add S2 B3).run Try.prog W = .ok (.string S3) W := fun W => by rw [hS2, hB3, hS3]; exact add_mk _ _ (by (try simp only [List.length_append]); omega) W
  obtain ⟨B4, hB4⟩ : ∃ b, b = Rc.mk (Rc.p txn 6) := ⟨_, rfl⟩
  have hl4 : ((Rc.p txn 6)).length = 6 := Rc.p_length _ _
  have HC4 := Lib.hid (show ∀ W, Calls Try.prog 83 #[.int .i64 txn, .int .i64 6] W fun e w' => e = .returned (.string B4) ∧ Below W.heap.size W w' from fun W => by rw [hB4]; exact rput_mk txn 6 (by omega) W)
  obtain ⟨S4, hS4⟩ : ∃ b, b = Rc.mk ((((Rc.p 8 1) ++ (Rc.p lsn 6)) ++ (Rc.p prev 6)) ++ (Rc.p txn 6)) := ⟨_, rfl⟩
  have ha4 : ∀ W : World, (Op.stringOp .add S3 B4).run Try.prog W = .ok (.string S4) W := fun W => by rw [hS3, hB4, hS4]; exact add_mk _ _ (by (try simp only [List.length_append]); omega) W
  obtain ⟨B5, hB5⟩ : ∃ b, b = Rc.mk (Rc.p page 3) := ⟨_, rfl⟩
  have hl5 : ((Rc.p page 3)).length = 3 := Rc.p_length _ _
  have HC5 := Lib.hid (show ∀ W, Calls Try.prog 83 #[.int .i64 page, .int .i64 3] W fun e w' => e = .returned (.string B5) ∧ Below W.heap.size W w' from fun W => by rw [hB5]; exact rput_mk page 3 (by omega) W)
  obtain ⟨S5, hS5⟩ : ∃ b, b = Rc.mk (((((Rc.p 8 1) ++ (Rc.p lsn 6)) ++ (Rc.p prev 6)) ++ (Rc.p txn 6)) ++ (Rc.p page 3)) := ⟨_, rfl⟩
  have ha5 : ∀ W : World, (Op.stringOp .add S4 B5).run Try.prog W = .ok (.string S5) W := fun W => by rw [hS4, hB5, hS5]; exact add_mk _ _ (by (try simp only [List.length_append]); omega) W
  obtain ⟨B6, hB6⟩ : ∃ b, b = Rc.mk (Rc.opB ⟨ok, os, oo, on⟩) := ⟨_, rfl⟩
  have hl6 : ((Rc.opB ⟨ok, os, oo, on⟩)).length ≤ 140000 := by unfold Rc.opB; simp only [List.length_append, Rc.p_length, Rc.t_len]; omega
  have HC6 := Lib.hid (show ∀ W, Calls Try.prog 84 #[.agg #[.int .i64 ok, .int .i64 os, .string oo, .string on]] W fun e w' => e = .returned (.string B6) ∧ Below W.heap.size W w' from fun W => by rw [hB6]; exact ropb_any ⟨ok, os, oo, on⟩ hoo hon W)
  obtain ⟨S6, hS6⟩ : ∃ b, b = Rc.mk ((((((Rc.p 8 1) ++ (Rc.p lsn 6)) ++ (Rc.p prev 6)) ++ (Rc.p txn 6)) ++ (Rc.p page 3)) ++ (Rc.opB ⟨ok, os, oo, on⟩)) := ⟨_, rfl⟩
  have ha6 : ∀ W : World, (Op.stringOp .add S5 B6).run Try.prog W = .ok (.string S6) W := fun W => by rw [hS5, hB6, hS6]; exact add_mk _ _ (by (try simp only [List.length_append]); omega) W
  have HE := Lib.hid (show S6 = R from by rw [hS6, hR]; (congr 1) <;> (unfold Rc.bodyB; rw [Rc.restB_8 rfl]; unfold Rc.headB; simp only [List.append_assoc]))
  clear hB1 hl1
  clear hB2 hl2
  clear hB3 hl3
  clear hB4 hl4
  clear hB5 hl5
  clear hB6 hl6
  clear hS2
  clear hS3
  clear hS4
  clear hS5
  clear hS6
  clear hR
  go_enter Try.func44, Try.ntmps44
  go_upto_region 1 with fail
  rw [← hw0]
  clear hw0
  obtain ⟨g, hg⟩ : ∃ g, g = w.heap.size := ⟨_, rfl⟩
  rw [← hg] at HX0
  rw [← hg]
  clear hg
  go_upto_region 1 with fail
  have Xb0 := blkOld HX0.out (Below.refl _ w0).drew
  have Yb0 := joinB HB0.out (Below.refl _ w0).drew
  refine wp_region_held_drew (S := (fun u => u.heap[g]? = some (.cells #[.int .i64 lsn, .int .i64 prev, .int .i64 txn, .int .i64 8, .int .i64 page, .int .i64 next, .int .i64 nu, .int .i64 ok, .int .i64 os, .string oo, .string on, .int .i64 how, .int .i64 root, .string ek, .int .i64 ep, .int .i64 es, .slice A ts.length c, .slice B ds.length d] 49 (0, 0)))) (by kernel_rfl) ?_ (fun hHeld => ?_)
  · first | exact hSn | exact Xb0
  refine wpAnyH_take (i := 0) (oi := { dst := some 4, op := _, type := _, pos := _, after := _, guard := _ }) (v := ?_) rfl (by kernel_rfl) (by kernel_rfl) (by kernel_rfl) (fun _ _ _ h => h) (Or.inl ⟨by rfl, ?_⟩) (by assumption) ?_
  rotate_left
  · intro u hSu; have hSv := blkCell hSu; clear hSu; go_simp; (try with_reducible rfl)
  try simp only [Act.put, List.setIfInBounds_toArray, List.set_cons_zero, List.set_cons_succ]
  refine wpAnyH_take (i := 1) (oi := { dst := some 5, op := _, type := _, pos := _, after := _, guard := _ }) (v := ?_) rfl (by kernel_rfl) (by kernel_rfl) (by kernel_rfl) (fun _ _ _ h => h) (Or.inl ⟨by rfl, ?_⟩) (by assumption) ?_
  rotate_left
  · intro u hSu; have hSv := blkCell hSu; clear hSu; go_simp; (try with_reducible rfl)
  try simp only [Act.put, List.setIfInBounds_toArray, List.set_cons_zero, List.set_cons_succ]
  refine wpAnyH_take (i := 3) (oi := { dst := some 7, op := _, type := _, pos := _, after := _, guard := _ }) (v := ?_) rfl (by kernel_rfl) (by kernel_rfl) (by kernel_rfl) (fun _ _ _ h => h) (Or.inl ⟨by rfl, ?_⟩) (by assumption) ?_
  rotate_left
  · intro u hSu; have hSv := blkCell hSu; clear hSu; go_simp; (try with_reducible rfl)
  try simp only [Act.put, List.setIfInBounds_toArray, List.set_cons_zero, List.set_cons_succ]
  refine wpAnyH_take (i := 4) (oi := { dst := some 8, op := _, type := _, pos := _, after := _, guard := _ }) (v := ?_) rfl (by kernel_rfl) (by kernel_rfl) (by kernel_rfl) (fun _ _ _ h => h) (Or.inl ⟨by rfl, ?_⟩) (by assumption) ?_
  rotate_left
  · intro u hSu; have hSv := blkCell hSu; clear hSu; go_simp; (try with_reducible rfl)
  try simp only [Act.put, List.setIfInBounds_toArray, List.set_cons_zero, List.set_cons_succ]
  refine wpAnyH_take (i := 7) (oi := { dst := some 11, op := _, type := _, pos := _, after := _, guard := _ }) (v := ?_) rfl (by kernel_rfl) (by kernel_rfl) (by kernel_rfl) (fun _ _ _ h => h) (Or.inl ⟨by rfl, ?_⟩) (by assumption) ?_
  rotate_left
  · intro u hSu; have hSv := blkCell hSu; clear hSu; go_simp; (try with_reducible rfl)
  try simp only [Act.put, List.setIfInBounds_toArray, List.set_cons_zero, List.set_cons_succ]
  refine wpAnyH_take (i := 8) (oi := { dst := some 12, op := _, type := _, pos := _, after := _, guard := _ }) (v := ?_) rfl (by kernel_rfl) (by kernel_rfl) (by kernel_rfl) (fun _ _ _ h => h) (Or.inl ⟨by rfl, ?_⟩) (by assumption) ?_
  rotate_left
  · intro u hSu; have hSv := blkCell hSu; clear hSu; go_simp; (try with_reducible rfl)
  try simp only [Act.put, List.setIfInBounds_toArray, List.set_cons_zero, List.set_cons_succ]
  refine wpAnyH_take (i := 11) (oi := { dst := some 15, op := _, type := _, pos := _, after := _, guard := _ }) (v := ?_) rfl (by kernel_rfl) (by kernel_rfl) (by kernel_rfl) (fun _ _ _ h => h) (Or.inl ⟨by rfl, ?_⟩) (by assumption) ?_
  rotate_left
  · intro u hSu; have hSv := blkCell hSu; clear hSu; go_simp; (try with_reducible rfl)
  try simp only [Act.put, List.setIfInBounds_toArray, List.set_cons_zero, List.set_cons_succ]
  refine wpAnyH_take (i := 12) (oi := { dst := some 16, op := _, type := _, pos := _, after := _, guard := _ }) (v := ?_) rfl (by kernel_rfl) (by kernel_rfl) (by kernel_rfl) (fun _ _ _ h => h) (Or.inl ⟨by rfl, ?_⟩) (by assumption) ?_
  rotate_left
  · intro u hSu; have hSv := blkCell hSu; clear hSu; go_simp; (try with_reducible rfl)
  try simp only [Act.put, List.setIfInBounds_toArray, List.set_cons_zero, List.set_cons_succ]
  refine wpAnyH_ready (rs := [2]) (by kernel_rfl) (by simp) ?_
  refine AllReadyH.cons (o := { dst := some 6, op := _, type := _, pos := _, after := _, guard := _ }) rfl (fun K hK => ?_) ?_
  rotate_left
  · exact AllReadyH.nil
  go_simp
  refine (HC1.out _).mono ?_; rintro e vb1 ⟨rfl, hb⟩; have Xb1 := blkOld Xb0 hb; have Yb1 := joinB Yb0 hb; try clear hSn
  have hSn := Xb1
  clear hb
  refine hK.out _ _ ?_ (fun hHeld => ?_)
  · first | exact hSn | exact Xb0
  clear hK K
  try simp only [Act.put, List.setIfInBounds_toArray, List.set_cons_zero, List.set_cons_succ]
  refine wpAnyH_ready (rs := [5]) (by kernel_rfl) (by simp) ?_
  refine AllReadyH.cons (o := { dst := some 9, op := _, type := _, pos := _, after := _, guard := _ }) rfl (fun K hK => ?_) ?_
  rotate_left
  · exact AllReadyH.nil
  go_simp
  refine (HC2.out _).mono ?_; rintro e vb2 ⟨rfl, hb⟩; have Xb2 := blkOld Xb1 hb; have Yb2 := joinB Yb1 hb; try clear hSn
  have hSn := Xb2
  clear hb
  refine hK.out _ _ ?_ (fun hHeld => ?_)
  · first | exact hSn | exact Xb0
  clear hK K
  try simp only [Act.put, List.setIfInBounds_toArray, List.set_cons_zero, List.set_cons_succ]
  refine wpAnyH_take (i := 6) (oi := { dst := some 10, op := _, type := _, pos := _, after := _, guard := _ }) (v := ?_) rfl (by kernel_rfl) (by kernel_rfl) (by kernel_rfl) (fun _ _ _ h => h) (Or.inl ⟨by rfl, ?_⟩) (by assumption) ?_
  rotate_left
  · intro u hSu; have hSv := blkCell hSu; clear hSu; go_simp; (try with_reducible rfl)
  try simp only [Act.put, List.setIfInBounds_toArray, List.set_cons_zero, List.set_cons_succ]
  refine wpAnyH_ready (rs := [9]) (by kernel_rfl) (by simp) ?_
  refine AllReadyH.cons (o := { dst := some 13, op := _, type := _, pos := _, after := _, guard := _ }) rfl (fun K hK => ?_) ?_
  rotate_left
  · exact AllReadyH.nil
  go_simp
  refine (HC3.out _).mono ?_; rintro e vb3 ⟨rfl, hb⟩; have Xb3 := blkOld Xb2 hb; have Yb3 := joinB Yb2 hb; try clear hSn
  have hSn := Xb3
  clear hb
  refine hK.out _ _ ?_ (fun hHeld => ?_)
  · first | exact hSn | exact Xb0
  clear hK K
  try simp only [Act.put, List.setIfInBounds_toArray, List.set_cons_zero, List.set_cons_succ]
  refine wpAnyH_take (i := 10) (oi := { dst := some 14, op := _, type := _, pos := _, after := _, guard := _ }) (v := ?_) rfl (by kernel_rfl) (by kernel_rfl) (by kernel_rfl) (fun _ _ _ h => h) (Or.inl ⟨by rfl, ?_⟩) (by assumption) ?_
  rotate_left
  · intro u hSu; have hSv := blkCell hSu; clear hSu; go_simp; (try with_reducible rfl)
  try simp only [Act.put, List.setIfInBounds_toArray, List.set_cons_zero, List.set_cons_succ]
  refine wpAnyH_ready (rs := [13]) (by kernel_rfl) (by simp) ?_
  refine AllReadyH.cons (o := { dst := some 17, op := _, type := _, pos := _, after := _, guard := _ }) rfl (fun K hK => ?_) ?_
  rotate_left
  · exact AllReadyH.nil
  go_simp
  refine (HC4.out _).mono ?_; rintro e vb4 ⟨rfl, hb⟩; have Xb4 := blkOld Xb3 hb; have Yb4 := joinB Yb3 hb; try clear hSn
  have hSn := Xb4
  clear hb
  refine hK.out _ _ ?_ (fun hHeld => ?_)
  · first | exact hSn | exact Xb0
  clear hK K
  try simp only [Act.put, List.setIfInBounds_toArray, List.set_cons_zero, List.set_cons_succ]
  refine wpAnyH_take (i := 14) (oi := { dst := some 18, op := _, type := _, pos := _, after := _, guard := _ }) (v := ?_) rfl (by kernel_rfl) (by kernel_rfl) (by kernel_rfl) (fun _ _ _ h => h) (Or.inl ⟨by rfl, ?_⟩) (by assumption) ?_
  rotate_left
  · intro u hSu; have hSv := blkCell hSu; clear hSu; go_simp; (try with_reducible rfl)
  try simp only [Act.put, List.setIfInBounds_toArray, List.set_cons_zero, List.set_cons_succ]
  refine wpAnyH_take (i := 15) (oi := { dst := some 3, op := _, type := _, pos := _, after := _, guard := _ }) (v := ?_) rfl (by kernel_rfl) (by kernel_rfl) (by kernel_rfl) (fun _ _ _ h => h) (Or.inl ⟨by rfl, ?_⟩) (by assumption) ?_
  rotate_left
  · intro u hSu; have hSv := blkCell hSu; clear hSu; go_simp; (try with_reducible rfl)
  try simp only [Act.put, List.setIfInBounds_toArray, List.set_cons_zero, List.set_cons_succ]
  refine wpAnyH_done (by kernel_rfl) ?_ _
  have HX1 := Lib.hid Xb4
  have HB1 := Lib.hid Yb4
  clear hHeld hSn Xb0 Yb0 Xb1 Yb1 Xb2 Yb2 Xb3 Yb3 Xb4 Yb4
  have hcg1 := blkCell HX1.out
  go_upto_region 13 with fail
  have Xc0 := blkOld HX1.out (Below.refl _ vb4).drew
  have Yc0 := joinB HB1.out (Below.refl _ vb4).drew
  refine wp_region_held_drew (S := (fun u => u.heap[g]? = some (.cells #[.int .i64 lsn, .int .i64 prev, .int .i64 txn, .int .i64 8, .int .i64 page, .int .i64 next, .int .i64 nu, .int .i64 ok, .int .i64 os, .string oo, .string on, .int .i64 how, .int .i64 root, .string ek, .int .i64 ep, .int .i64 es, .slice A ts.length c, .slice B ds.length d] 49 (0, 0)))) (by kernel_rfl) ?_ (fun hHeld => ?_)
  · first | exact hSn | exact Xc0
  refine wpAnyH_take (i := 0) (oi := { dst := some 86, op := _, type := _, pos := _, after := _, guard := _ }) (v := ?_) rfl (by kernel_rfl) (by kernel_rfl) (by kernel_rfl) (fun _ _ _ h => h) (Or.inl ⟨by rfl, ?_⟩) (by assumption) ?_
  rotate_left
  · intro u hSu; have hSv := blkCell hSu; clear hSu; go_simp; (try with_reducible rfl)
  try simp only [Act.put, List.setIfInBounds_toArray, List.set_cons_zero, List.set_cons_succ]
  refine wpAnyH_take (i := 1) (oi := { dst := some 87, op := _, type := _, pos := _, after := _, guard := _ }) (v := ?_) rfl (by kernel_rfl) (by kernel_rfl) (by kernel_rfl) (fun _ _ _ h => h) (Or.inl ⟨by rfl, ?_⟩) (by assumption) ?_
  rotate_left
  · intro u hSu; have hSv := blkCell hSu; clear hSu; go_simp; (try with_reducible rfl)
  try simp only [Act.put, List.setIfInBounds_toArray, List.set_cons_zero, List.set_cons_succ]
  refine wpAnyH_take (i := 2) (oi := { dst := some 88, op := _, type := _, pos := _, after := _, guard := _ }) (v := ?_) rfl (by kernel_rfl) (by kernel_rfl) (by kernel_rfl) (fun _ _ _ h => h) (Or.inl ⟨by rfl, ?_⟩) (by assumption) ?_
  rotate_left
  · intro u hSu; have hSv := blkCell hSu; clear hSu; go_simp; (try with_reducible rfl)
  try simp only [Act.put, List.setIfInBounds_toArray, List.set_cons_zero, List.set_cons_succ]
  refine wpAnyH_take (i := 5) (oi := { dst := some 91, op := _, type := _, pos := _, after := _, guard := _ }) (v := ?_) rfl (by kernel_rfl) (by kernel_rfl) (by kernel_rfl) (fun _ _ _ h => h) (Or.inl ⟨by rfl, ?_⟩) (by assumption) ?_
  rotate_left
  · intro u hSu; have hSv := blkCell hSu; clear hSu; go_simp; (try with_reducible rfl)
  try simp only [Act.put, List.setIfInBounds_toArray, List.set_cons_zero, List.set_cons_succ]
  refine wpAnyH_take (i := 6) (oi := { dst := some 92, op := _, type := _, pos := _, after := _, guard := _ }) (v := ?_) rfl (by kernel_rfl) (by kernel_rfl) (by kernel_rfl) (fun _ _ _ h => h) (Or.inl ⟨by rfl, ?_⟩) (by assumption) ?_
  rotate_left
  · intro u hSu; have hSv := blkCell hSu; clear hSu; go_simp; (try with_reducible rfl)
  try simp only [Act.put, List.setIfInBounds_toArray, List.set_cons_zero, List.set_cons_succ]
  refine wpAnyH_ready (rs := [3]) (by kernel_rfl) (by simp) ?_
  refine AllReadyH.cons (o := { dst := some 89, op := _, type := _, pos := _, after := _, guard := _ }) rfl (fun K hK => ?_) ?_
  rotate_left
  · exact AllReadyH.nil
  go_simp
  refine (HC5.out _).mono ?_; rintro e vc1 ⟨rfl, hb⟩; have Xc1 := blkOld Xc0 hb; have Yc1 := joinB Yc0 hb; try clear hSn
  have hSn := Xc1
  clear hb
  refine hK.out _ _ ?_ (fun hHeld => ?_)
  · first | exact hSn | exact Xc0
  clear hK K
  try simp only [Act.put, List.setIfInBounds_toArray, List.set_cons_zero, List.set_cons_succ]
  refine wpAnyH_take (i := 4) (oi := { dst := some 90, op := _, type := _, pos := _, after := _, guard := _ }) (v := ?_) rfl (by kernel_rfl) (by kernel_rfl) (by kernel_rfl) (fun _ _ _ h => h) (Or.inl ⟨by rfl, ?_⟩) (by assumption) ?_
  rotate_left
  · intro u hSu; have hSv := blkCell hSu; clear hSu; go_simp; (try with_reducible rfl)
  try simp only [Act.put, List.setIfInBounds_toArray, List.set_cons_zero, List.set_cons_succ]
  refine wpAnyH_ready (rs := [7]) (by kernel_rfl) (by simp) ?_
  refine AllReadyH.cons (o := { dst := some 93, op := _, type := _, pos := _, after := _, guard := _ }) rfl (fun K hK => ?_) ?_
  rotate_left
  · exact AllReadyH.nil
  go_simp
  refine (HC6.out _).mono ?_; rintro e vc2 ⟨rfl, hb⟩; have Xc2 := blkOld Xc1 hb; have Yc2 := joinB Yc1 hb; try clear hSn
  have hSn := Xc2
  clear hb
  refine hK.out _ _ ?_ (fun hHeld => ?_)
  · first | exact hSn | exact Xc0
  clear hK K
  try simp only [Act.put, List.setIfInBounds_toArray, List.set_cons_zero, List.set_cons_succ]
  refine wpAnyH_take (i := 8) (oi := { dst := some 94, op := _, type := _, pos := _, after := _, guard := _ }) (v := ?_) rfl (by kernel_rfl) (by kernel_rfl) (by kernel_rfl) (fun _ _ _ h => h) (Or.inl ⟨by rfl, ?_⟩) (by assumption) ?_
  rotate_left
  · intro u hSu; have hSv := blkCell hSu; clear hSu; go_simp; (try with_reducible rfl)
  try simp only [Act.put, List.setIfInBounds_toArray, List.set_cons_zero, List.set_cons_succ]
  refine wpAnyH_take (i := 9) (oi := { dst := some 2, op := _, type := _, pos := _, after := _, guard := _ }) (v := ?_) rfl (by kernel_rfl) (by kernel_rfl) (by kernel_rfl) (fun _ _ _ h => h) (Or.inl ⟨by rfl, ?_⟩) (by assumption) ?_
  rotate_left
  · intro u hSu; have hSv := blkCell hSu; clear hSu; go_simp; (try with_reducible rfl)
  try simp only [Act.put, List.setIfInBounds_toArray, List.set_cons_zero, List.set_cons_succ]
  refine wpAnyH_done (by kernel_rfl) ?_ _
  have HX2 := Lib.hid Xc2
  have HB2 := Lib.hid Yc2
  clear hHeld hSn Xc0 Yc0 Xc1 Yc1 Xc2 Yc2
  have hcg2 := blkCell HX2.out
  go_wp2_with fail
  go_ret
  exact ⟨by rw [← HE.out]; rfl, HB2.out⟩
set_option maxRecDepth 100000 in
set_option maxHeartbeats 4000000 in
theorem rbody_1 (lsn prev txn page next nu ok os root ep es : Int) (how : Int) (oo on ek : ByteArray) (ts : List Rc.TxnAt) (ds : List Rc.DirtyAt) (A B : Option Addr) (c d : Nat) (w : World) :
    Calls Try.prog 44 #[.agg #[.int .i64 lsn, .int .i64 prev, .int .i64 txn, .int .i64 1, .int .i64 page, .int .i64 next, .int .i64 nu, .int .i64 ok, .int .i64 os, .string oo, .string on, .int .i64 how, .int .i64 root, .string ek, .int .i64 ep, .int .i64 es, .slice A ts.length c, .slice B ds.length d]] w fun e w' => e = .returned (.string (Rc.mk (Rc.bodyB ⟨lsn, prev, txn, 1, page, next, nu, ⟨ok, os, oo, on⟩, how, root, ⟨ek, ep, es⟩, ts, ds⟩))) ∧ Below w.heap.size w w' := by
  obtain ⟨w0, hw0⟩ : ∃ W, W = w.alloc (.cells #[.int .i64 lsn, .int .i64 prev, .int .i64 txn, .int .i64 1, .int .i64 page, .int .i64 next, .int .i64 nu, .int .i64 ok, .int .i64 os, .string oo, .string on, .int .i64 how, .int .i64 root, .string ek, .int .i64 ep, .int .i64 es, .slice A ts.length c, .slice B ds.length d] 49) := ⟨_, rfl⟩
  have HB0 := Lib.hid (show Below w.heap.size w w0 from by rw [hw0]; exact allocB _ _)
  have HX0 := Lib.hid (show w0.heap[w.heap.size]? = some (.cells #[.int .i64 lsn, .int .i64 prev, .int .i64 txn, .int .i64 1, .int .i64 page, .int .i64 next, .int .i64 nu, .int .i64 ok, .int .i64 os, .string oo, .string on, .int .i64 how, .int .i64 root, .string ek, .int .i64 ep, .int .i64 es, .slice A ts.length c, .slice B ds.length d] 49 (0, 0)) from by rw [hw0]; exact heap_alloc_new _ _)
  obtain ⟨R, hR⟩ : ∃ R, R = Rc.mk (Rc.bodyB ⟨lsn, prev, txn, 1, page, next, nu, ⟨ok, os, oo, on⟩, how, root, ⟨ek, ep, es⟩, ts, ds⟩) := ⟨_, rfl⟩
  rw [← hR]
  obtain ⟨B1, hB1⟩ : ∃ b, b = Rc.mk (Rc.p 1 1) := ⟨_, rfl⟩
  have hl1 : ((Rc.p 1 1)).length = 1 := Rc.p_length _ _
  have HC1 := Lib.hid (show ∀ W, Calls Try.prog 83 #[.int .i64 1, .int .i64 1] W fun e w' => e = .returned (.string B1) ∧ Below W.heap.size W w' from fun W => by rw [hB1]; exact rput_mk 1 1 (by omega) W)
  obtain ⟨B2, hB2⟩ : ∃ b, b = Rc.mk (Rc.p lsn 6) := ⟨_, rfl⟩
  have hl2 : ((Rc.p lsn 6)).length = 6 := Rc.p_length _ _
  have HC2 := Lib.hid (show ∀ W, Calls Try.prog 83 #[.int .i64 lsn, .int .i64 6] W fun e w' => e = .returned (.string B2) ∧ Below W.heap.size W w' from fun W => by rw [hB2]; exact rput_mk lsn 6 (by omega) W)
  obtain ⟨S2, hS2⟩ : ∃ b, b = Rc.mk ((Rc.p 1 1) ++ (Rc.p lsn 6)) := ⟨_, rfl⟩
  have ha2 : ∀ W : World, (Op.stringOp .add B1 B2).run Try.prog W = .ok (.string S2) W := fun W => by rw [hB1, hB2, hS2]; exact add_mk _ _ (by (try simp only [List.length_append]); omega) W
  obtain ⟨B3, hB3⟩ : ∃ b, b = Rc.mk (Rc.p prev 6) := ⟨_, rfl⟩
  have hl3 : ((Rc.p prev 6)).length = 6 := Rc.p_length _ _
  have HC3 := Lib.hid (show ∀ W, Calls Try.prog 83 #[.int .i64 prev, .int .i64 6] W fun e w' => e = .returned (.string B3) ∧ Below W.heap.size W w' from fun W => by rw [hB3]; exact rput_mk prev 6 (by omega) W)
  obtain ⟨S3, hS3⟩ : ∃ b, b = Rc.mk (((Rc.p 1 1) ++ (Rc.p lsn 6)) ++ (Rc.p prev 6)) := ⟨_, rfl⟩
  have ha3 : ∀ W : World, (Op.stringOp .add S2 B3).run Try.prog W = .ok (.string S3) W := fun W => by rw [hS2, hB3, hS3]; exact add_mk _ _ (by (try simp only [List.length_append]); omega) W
  obtain ⟨B4, hB4⟩ : ∃ b, b = Rc.mk (Rc.p txn 6) := ⟨_, rfl⟩
  have hl4 : ((Rc.p txn 6)).length = 6 := Rc.p_length _ _
  have HC4 := Lib.hid (show ∀ W, Calls Try.prog 83 #[.int .i64 txn, .int .i64 6] W fun e w' => e = .returned (.string B4) ∧ Below W.heap.size W w' from fun W => by rw [hB4]; exact rput_mk txn 6 (by omega) W)
  obtain ⟨S4, hS4⟩ : ∃ b, b = Rc.mk ((((Rc.p 1 1) ++ (Rc.p lsn 6)) ++ (Rc.p prev 6)) ++ (Rc.p txn 6)) := ⟨_, rfl⟩
  have ha4 : ∀ W : World, (Op.stringOp .add S3 B4).run Try.prog W = .ok (.string S4) W := fun W => by rw [hS3, hB4, hS4]; exact add_mk _ _ (by (try simp only [List.length_append]); omega) W
  have HE := Lib.hid (show S4 = R from by rw [hS4, hR]; (congr 1) <;> (unfold Rc.bodyB; rw [show Rc.restB ⟨lsn, prev, txn, 1, page, next, nu, ⟨ok, os, oo, on⟩, how, root, ⟨ek, ep, es⟩, ts, ds⟩ = [] from by unfold Rc.restB; rfl]; unfold Rc.headB; simp only [List.append_assoc, List.append_nil]))
  clear hB1 hl1
  clear hB2 hl2
  clear hB3 hl3
  clear hB4 hl4
  clear hS2
  clear hS3
  clear hS4
  clear hR
  go_enter Try.func44, Try.ntmps44
  go_upto_region 1 with fail
  rw [← hw0]
  clear hw0
  obtain ⟨g, hg⟩ : ∃ g, g = w.heap.size := ⟨_, rfl⟩
  rw [← hg] at HX0
  rw [← hg]
  clear hg
  go_upto_region 1 with fail
  have Xb0 := blkOld HX0.out (Below.refl _ w0).drew
  have Yb0 := joinB HB0.out (Below.refl _ w0).drew
  refine wp_region_held_drew (S := (fun u => u.heap[g]? = some (.cells #[.int .i64 lsn, .int .i64 prev, .int .i64 txn, .int .i64 1, .int .i64 page, .int .i64 next, .int .i64 nu, .int .i64 ok, .int .i64 os, .string oo, .string on, .int .i64 how, .int .i64 root, .string ek, .int .i64 ep, .int .i64 es, .slice A ts.length c, .slice B ds.length d] 49 (0, 0)))) (by kernel_rfl) ?_ (fun hHeld => ?_)
  · first | exact hSn | exact Xb0
  refine wpAnyH_take (i := 0) (oi := { dst := some 4, op := _, type := _, pos := _, after := _, guard := _ }) (v := ?_) rfl (by kernel_rfl) (by kernel_rfl) (by kernel_rfl) (fun _ _ _ h => h) (Or.inl ⟨by rfl, ?_⟩) (by assumption) ?_
  rotate_left
  · intro u hSu; have hSv := blkCell hSu; clear hSu; go_simp; (try with_reducible rfl)
  try simp only [Act.put, List.setIfInBounds_toArray, List.set_cons_zero, List.set_cons_succ]
  refine wpAnyH_take (i := 1) (oi := { dst := some 5, op := _, type := _, pos := _, after := _, guard := _ }) (v := ?_) rfl (by kernel_rfl) (by kernel_rfl) (by kernel_rfl) (fun _ _ _ h => h) (Or.inl ⟨by rfl, ?_⟩) (by assumption) ?_
  rotate_left
  · intro u hSu; have hSv := blkCell hSu; clear hSu; go_simp; (try with_reducible rfl)
  try simp only [Act.put, List.setIfInBounds_toArray, List.set_cons_zero, List.set_cons_succ]
  refine wpAnyH_take (i := 3) (oi := { dst := some 7, op := _, type := _, pos := _, after := _, guard := _ }) (v := ?_) rfl (by kernel_rfl) (by kernel_rfl) (by kernel_rfl) (fun _ _ _ h => h) (Or.inl ⟨by rfl, ?_⟩) (by assumption) ?_
  rotate_left
  · intro u hSu; have hSv := blkCell hSu; clear hSu; go_simp; (try with_reducible rfl)
  try simp only [Act.put, List.setIfInBounds_toArray, List.set_cons_zero, List.set_cons_succ]
  refine wpAnyH_take (i := 4) (oi := { dst := some 8, op := _, type := _, pos := _, after := _, guard := _ }) (v := ?_) rfl (by kernel_rfl) (by kernel_rfl) (by kernel_rfl) (fun _ _ _ h => h) (Or.inl ⟨by rfl, ?_⟩) (by assumption) ?_
  rotate_left
  · intro u hSu; have hSv := blkCell hSu; clear hSu; go_simp; (try with_reducible rfl)
  try simp only [Act.put, List.setIfInBounds_toArray, List.set_cons_zero, List.set_cons_succ]
  refine wpAnyH_take (i := 7) (oi := { dst := some 11, op := _, type := _, pos := _, after := _, guard := _ }) (v := ?_) rfl (by kernel_rfl) (by kernel_rfl) (by kernel_rfl) (fun _ _ _ h => h) (Or.inl ⟨by rfl, ?_⟩) (by assumption) ?_
  rotate_left
  · intro u hSu; have hSv := blkCell hSu; clear hSu; go_simp; (try with_reducible rfl)
  try simp only [Act.put, List.setIfInBounds_toArray, List.set_cons_zero, List.set_cons_succ]
  refine wpAnyH_take (i := 8) (oi := { dst := some 12, op := _, type := _, pos := _, after := _, guard := _ }) (v := ?_) rfl (by kernel_rfl) (by kernel_rfl) (by kernel_rfl) (fun _ _ _ h => h) (Or.inl ⟨by rfl, ?_⟩) (by assumption) ?_
  rotate_left
  · intro u hSu; have hSv := blkCell hSu; clear hSu; go_simp; (try with_reducible rfl)
  try simp only [Act.put, List.setIfInBounds_toArray, List.set_cons_zero, List.set_cons_succ]
  refine wpAnyH_take (i := 11) (oi := { dst := some 15, op := _, type := _, pos := _, after := _, guard := _ }) (v := ?_) rfl (by kernel_rfl) (by kernel_rfl) (by kernel_rfl) (fun _ _ _ h => h) (Or.inl ⟨by rfl, ?_⟩) (by assumption) ?_
  rotate_left
  · intro u hSu; have hSv := blkCell hSu; clear hSu; go_simp; (try with_reducible rfl)
  try simp only [Act.put, List.setIfInBounds_toArray, List.set_cons_zero, List.set_cons_succ]
  refine wpAnyH_take (i := 12) (oi := { dst := some 16, op := _, type := _, pos := _, after := _, guard := _ }) (v := ?_) rfl (by kernel_rfl) (by kernel_rfl) (by kernel_rfl) (fun _ _ _ h => h) (Or.inl ⟨by rfl, ?_⟩) (by assumption) ?_
  rotate_left
  · intro u hSu; have hSv := blkCell hSu; clear hSu; go_simp; (try with_reducible rfl)
  try simp only [Act.put, List.setIfInBounds_toArray, List.set_cons_zero, List.set_cons_succ]
  refine wpAnyH_ready (rs := [2]) (by kernel_rfl) (by simp) ?_
  refine AllReadyH.cons (o := { dst := some 6, op := _, type := _, pos := _, after := _, guard := _ }) rfl (fun K hK => ?_) ?_
  rotate_left
  · exact AllReadyH.nil
  go_simp
  refine (HC1.out _).mono ?_; rintro e vb1 ⟨rfl, hb⟩; have Xb1 := blkOld Xb0 hb; have Yb1 := joinB Yb0 hb; try clear hSn
  have hSn := Xb1
  clear hb
  refine hK.out _ _ ?_ (fun hHeld => ?_)
  · first | exact hSn | exact Xb0
  clear hK K
  try simp only [Act.put, List.setIfInBounds_toArray, List.set_cons_zero, List.set_cons_succ]
  refine wpAnyH_ready (rs := [5]) (by kernel_rfl) (by simp) ?_
  refine AllReadyH.cons (o := { dst := some 9, op := _, type := _, pos := _, after := _, guard := _ }) rfl (fun K hK => ?_) ?_
  rotate_left
  · exact AllReadyH.nil
  go_simp
  refine (HC2.out _).mono ?_; rintro e vb2 ⟨rfl, hb⟩; have Xb2 := blkOld Xb1 hb; have Yb2 := joinB Yb1 hb; try clear hSn
  have hSn := Xb2
  clear hb
  refine hK.out _ _ ?_ (fun hHeld => ?_)
  · first | exact hSn | exact Xb0
  clear hK K
  try simp only [Act.put, List.setIfInBounds_toArray, List.set_cons_zero, List.set_cons_succ]
  refine wpAnyH_take (i := 6) (oi := { dst := some 10, op := _, type := _, pos := _, after := _, guard := _ }) (v := ?_) rfl (by kernel_rfl) (by kernel_rfl) (by kernel_rfl) (fun _ _ _ h => h) (Or.inl ⟨by rfl, ?_⟩) (by assumption) ?_
  rotate_left
  · intro u hSu; have hSv := blkCell hSu; clear hSu; go_simp; (try with_reducible rfl)
  try simp only [Act.put, List.setIfInBounds_toArray, List.set_cons_zero, List.set_cons_succ]
  refine wpAnyH_ready (rs := [9]) (by kernel_rfl) (by simp) ?_
  refine AllReadyH.cons (o := { dst := some 13, op := _, type := _, pos := _, after := _, guard := _ }) rfl (fun K hK => ?_) ?_
  rotate_left
  · exact AllReadyH.nil
  go_simp
  refine (HC3.out _).mono ?_; rintro e vb3 ⟨rfl, hb⟩; have Xb3 := blkOld Xb2 hb; have Yb3 := joinB Yb2 hb; try clear hSn
  have hSn := Xb3
  clear hb
  refine hK.out _ _ ?_ (fun hHeld => ?_)
  · first | exact hSn | exact Xb0
  clear hK K
  try simp only [Act.put, List.setIfInBounds_toArray, List.set_cons_zero, List.set_cons_succ]
  refine wpAnyH_take (i := 10) (oi := { dst := some 14, op := _, type := _, pos := _, after := _, guard := _ }) (v := ?_) rfl (by kernel_rfl) (by kernel_rfl) (by kernel_rfl) (fun _ _ _ h => h) (Or.inl ⟨by rfl, ?_⟩) (by assumption) ?_
  rotate_left
  · intro u hSu; have hSv := blkCell hSu; clear hSu; go_simp; (try with_reducible rfl)
  try simp only [Act.put, List.setIfInBounds_toArray, List.set_cons_zero, List.set_cons_succ]
  refine wpAnyH_ready (rs := [13]) (by kernel_rfl) (by simp) ?_
  refine AllReadyH.cons (o := { dst := some 17, op := _, type := _, pos := _, after := _, guard := _ }) rfl (fun K hK => ?_) ?_
  rotate_left
  · exact AllReadyH.nil
  go_simp
  refine (HC4.out _).mono ?_; rintro e vb4 ⟨rfl, hb⟩; have Xb4 := blkOld Xb3 hb; have Yb4 := joinB Yb3 hb; try clear hSn
  have hSn := Xb4
  clear hb
  refine hK.out _ _ ?_ (fun hHeld => ?_)
  · first | exact hSn | exact Xb0
  clear hK K
  try simp only [Act.put, List.setIfInBounds_toArray, List.set_cons_zero, List.set_cons_succ]
  refine wpAnyH_take (i := 14) (oi := { dst := some 18, op := _, type := _, pos := _, after := _, guard := _ }) (v := ?_) rfl (by kernel_rfl) (by kernel_rfl) (by kernel_rfl) (fun _ _ _ h => h) (Or.inl ⟨by rfl, ?_⟩) (by assumption) ?_
  rotate_left
  · intro u hSu; have hSv := blkCell hSu; clear hSu; go_simp; (try with_reducible rfl)
  try simp only [Act.put, List.setIfInBounds_toArray, List.set_cons_zero, List.set_cons_succ]
  refine wpAnyH_take (i := 15) (oi := { dst := some 3, op := _, type := _, pos := _, after := _, guard := _ }) (v := ?_) rfl (by kernel_rfl) (by kernel_rfl) (by kernel_rfl) (fun _ _ _ h => h) (Or.inl ⟨by rfl, ?_⟩) (by assumption) ?_
  rotate_left
  · intro u hSu; have hSv := blkCell hSu; clear hSu; go_simp; (try with_reducible rfl)
  try simp only [Act.put, List.setIfInBounds_toArray, List.set_cons_zero, List.set_cons_succ]
  refine wpAnyH_done (by kernel_rfl) ?_ _
  have HX1 := Lib.hid Xb4
  have HB1 := Lib.hid Yb4
  clear hHeld hSn Xb0 Yb0 Xb1 Yb1 Xb2 Yb2 Xb3 Yb3 Xb4 Yb4
  have hcg1 := blkCell HX1.out
  go_wp2_with fail
  go_ret
  exact ⟨by rw [← HE.out]; rfl, HB1.out⟩
set_option maxRecDepth 100000 in
set_option maxHeartbeats 4000000 in
theorem rbody_5 (lsn prev txn page next nu ok os root ep es : Int) (how : Int) (oo on ek : ByteArray) (ts : List Rc.TxnAt) (ds : List Rc.DirtyAt) (A B : Option Addr) (c d : Nat) (w : World) :
    Calls Try.prog 44 #[.agg #[.int .i64 lsn, .int .i64 prev, .int .i64 txn, .int .i64 5, .int .i64 page, .int .i64 next, .int .i64 nu, .int .i64 ok, .int .i64 os, .string oo, .string on, .int .i64 how, .int .i64 root, .string ek, .int .i64 ep, .int .i64 es, .slice A ts.length c, .slice B ds.length d]] w fun e w' => e = .returned (.string (Rc.mk (Rc.bodyB ⟨lsn, prev, txn, 5, page, next, nu, ⟨ok, os, oo, on⟩, how, root, ⟨ek, ep, es⟩, ts, ds⟩))) ∧ Below w.heap.size w w' := by
  obtain ⟨w0, hw0⟩ : ∃ W, W = w.alloc (.cells #[.int .i64 lsn, .int .i64 prev, .int .i64 txn, .int .i64 5, .int .i64 page, .int .i64 next, .int .i64 nu, .int .i64 ok, .int .i64 os, .string oo, .string on, .int .i64 how, .int .i64 root, .string ek, .int .i64 ep, .int .i64 es, .slice A ts.length c, .slice B ds.length d] 49) := ⟨_, rfl⟩
  have HB0 := Lib.hid (show Below w.heap.size w w0 from by rw [hw0]; exact allocB _ _)
  have HX0 := Lib.hid (show w0.heap[w.heap.size]? = some (.cells #[.int .i64 lsn, .int .i64 prev, .int .i64 txn, .int .i64 5, .int .i64 page, .int .i64 next, .int .i64 nu, .int .i64 ok, .int .i64 os, .string oo, .string on, .int .i64 how, .int .i64 root, .string ek, .int .i64 ep, .int .i64 es, .slice A ts.length c, .slice B ds.length d] 49 (0, 0)) from by rw [hw0]; exact heap_alloc_new _ _)
  obtain ⟨R, hR⟩ : ∃ R, R = Rc.mk (Rc.bodyB ⟨lsn, prev, txn, 5, page, next, nu, ⟨ok, os, oo, on⟩, how, root, ⟨ek, ep, es⟩, ts, ds⟩) := ⟨_, rfl⟩
  rw [← hR]
  obtain ⟨B1, hB1⟩ : ∃ b, b = Rc.mk (Rc.p 5 1) := ⟨_, rfl⟩
  have hl1 : ((Rc.p 5 1)).length = 1 := Rc.p_length _ _
  have HC1 := Lib.hid (show ∀ W, Calls Try.prog 83 #[.int .i64 5, .int .i64 1] W fun e w' => e = .returned (.string B1) ∧ Below W.heap.size W w' from fun W => by rw [hB1]; exact rput_mk 5 1 (by omega) W)
  obtain ⟨B2, hB2⟩ : ∃ b, b = Rc.mk (Rc.p lsn 6) := ⟨_, rfl⟩
  have hl2 : ((Rc.p lsn 6)).length = 6 := Rc.p_length _ _
  have HC2 := Lib.hid (show ∀ W, Calls Try.prog 83 #[.int .i64 lsn, .int .i64 6] W fun e w' => e = .returned (.string B2) ∧ Below W.heap.size W w' from fun W => by rw [hB2]; exact rput_mk lsn 6 (by omega) W)
  obtain ⟨S2, hS2⟩ : ∃ b, b = Rc.mk ((Rc.p 5 1) ++ (Rc.p lsn 6)) := ⟨_, rfl⟩
  have ha2 : ∀ W : World, (Op.stringOp .add B1 B2).run Try.prog W = .ok (.string S2) W := fun W => by rw [hB1, hB2, hS2]; exact add_mk _ _ (by (try simp only [List.length_append]); omega) W
  obtain ⟨B3, hB3⟩ : ∃ b, b = Rc.mk (Rc.p prev 6) := ⟨_, rfl⟩
  have hl3 : ((Rc.p prev 6)).length = 6 := Rc.p_length _ _
  have HC3 := Lib.hid (show ∀ W, Calls Try.prog 83 #[.int .i64 prev, .int .i64 6] W fun e w' => e = .returned (.string B3) ∧ Below W.heap.size W w' from fun W => by rw [hB3]; exact rput_mk prev 6 (by omega) W)
  obtain ⟨S3, hS3⟩ : ∃ b, b = Rc.mk (((Rc.p 5 1) ++ (Rc.p lsn 6)) ++ (Rc.p prev 6)) := ⟨_, rfl⟩
  have ha3 : ∀ W : World, (Op.stringOp .add S2 B3).run Try.prog W = .ok (.string S3) W := fun W => by rw [hS2, hB3, hS3]; exact add_mk _ _ (by (try simp only [List.length_append]); omega) W
  obtain ⟨B4, hB4⟩ : ∃ b, b = Rc.mk (Rc.p txn 6) := ⟨_, rfl⟩
  have hl4 : ((Rc.p txn 6)).length = 6 := Rc.p_length _ _
  have HC4 := Lib.hid (show ∀ W, Calls Try.prog 83 #[.int .i64 txn, .int .i64 6] W fun e w' => e = .returned (.string B4) ∧ Below W.heap.size W w' from fun W => by rw [hB4]; exact rput_mk txn 6 (by omega) W)
  obtain ⟨S4, hS4⟩ : ∃ b, b = Rc.mk ((((Rc.p 5 1) ++ (Rc.p lsn 6)) ++ (Rc.p prev 6)) ++ (Rc.p txn 6)) := ⟨_, rfl⟩
  have ha4 : ∀ W : World, (Op.stringOp .add S3 B4).run Try.prog W = .ok (.string S4) W := fun W => by rw [hS3, hB4, hS4]; exact add_mk _ _ (by (try simp only [List.length_append]); omega) W
  have HE := Lib.hid (show S4 = R from by rw [hS4, hR]; (congr 1) <;> (unfold Rc.bodyB; rw [show Rc.restB ⟨lsn, prev, txn, 5, page, next, nu, ⟨ok, os, oo, on⟩, how, root, ⟨ek, ep, es⟩, ts, ds⟩ = [] from by unfold Rc.restB; rfl]; unfold Rc.headB; simp only [List.append_assoc, List.append_nil]))
  clear hB1 hl1
  clear hB2 hl2
  clear hB3 hl3
  clear hB4 hl4
  clear hS2
  clear hS3
  clear hS4
  clear hR
  go_enter Try.func44, Try.ntmps44
  go_upto_region 1 with fail
  rw [← hw0]
  clear hw0
  obtain ⟨g, hg⟩ : ∃ g, g = w.heap.size := ⟨_, rfl⟩
  rw [← hg] at HX0
  rw [← hg]
  clear hg
  go_upto_region 1 with fail
  have Xb0 := blkOld HX0.out (Below.refl _ w0).drew
  have Yb0 := joinB HB0.out (Below.refl _ w0).drew
  refine wp_region_held_drew (S := (fun u => u.heap[g]? = some (.cells #[.int .i64 lsn, .int .i64 prev, .int .i64 txn, .int .i64 5, .int .i64 page, .int .i64 next, .int .i64 nu, .int .i64 ok, .int .i64 os, .string oo, .string on, .int .i64 how, .int .i64 root, .string ek, .int .i64 ep, .int .i64 es, .slice A ts.length c, .slice B ds.length d] 49 (0, 0)))) (by kernel_rfl) ?_ (fun hHeld => ?_)
  · first | exact hSn | exact Xb0
  refine wpAnyH_take (i := 0) (oi := { dst := some 4, op := _, type := _, pos := _, after := _, guard := _ }) (v := ?_) rfl (by kernel_rfl) (by kernel_rfl) (by kernel_rfl) (fun _ _ _ h => h) (Or.inl ⟨by rfl, ?_⟩) (by assumption) ?_
  rotate_left
  · intro u hSu; have hSv := blkCell hSu; clear hSu; go_simp; (try with_reducible rfl)
  try simp only [Act.put, List.setIfInBounds_toArray, List.set_cons_zero, List.set_cons_succ]
  refine wpAnyH_take (i := 1) (oi := { dst := some 5, op := _, type := _, pos := _, after := _, guard := _ }) (v := ?_) rfl (by kernel_rfl) (by kernel_rfl) (by kernel_rfl) (fun _ _ _ h => h) (Or.inl ⟨by rfl, ?_⟩) (by assumption) ?_
  rotate_left
  · intro u hSu; have hSv := blkCell hSu; clear hSu; go_simp; (try with_reducible rfl)
  try simp only [Act.put, List.setIfInBounds_toArray, List.set_cons_zero, List.set_cons_succ]
  refine wpAnyH_take (i := 3) (oi := { dst := some 7, op := _, type := _, pos := _, after := _, guard := _ }) (v := ?_) rfl (by kernel_rfl) (by kernel_rfl) (by kernel_rfl) (fun _ _ _ h => h) (Or.inl ⟨by rfl, ?_⟩) (by assumption) ?_
  rotate_left
  · intro u hSu; have hSv := blkCell hSu; clear hSu; go_simp; (try with_reducible rfl)
  try simp only [Act.put, List.setIfInBounds_toArray, List.set_cons_zero, List.set_cons_succ]
  refine wpAnyH_take (i := 4) (oi := { dst := some 8, op := _, type := _, pos := _, after := _, guard := _ }) (v := ?_) rfl (by kernel_rfl) (by kernel_rfl) (by kernel_rfl) (fun _ _ _ h => h) (Or.inl ⟨by rfl, ?_⟩) (by assumption) ?_
  rotate_left
  · intro u hSu; have hSv := blkCell hSu; clear hSu; go_simp; (try with_reducible rfl)
  try simp only [Act.put, List.setIfInBounds_toArray, List.set_cons_zero, List.set_cons_succ]
  refine wpAnyH_take (i := 7) (oi := { dst := some 11, op := _, type := _, pos := _, after := _, guard := _ }) (v := ?_) rfl (by kernel_rfl) (by kernel_rfl) (by kernel_rfl) (fun _ _ _ h => h) (Or.inl ⟨by rfl, ?_⟩) (by assumption) ?_
  rotate_left
  · intro u hSu; have hSv := blkCell hSu; clear hSu; go_simp; (try with_reducible rfl)
  try simp only [Act.put, List.setIfInBounds_toArray, List.set_cons_zero, List.set_cons_succ]
  refine wpAnyH_take (i := 8) (oi := { dst := some 12, op := _, type := _, pos := _, after := _, guard := _ }) (v := ?_) rfl (by kernel_rfl) (by kernel_rfl) (by kernel_rfl) (fun _ _ _ h => h) (Or.inl ⟨by rfl, ?_⟩) (by assumption) ?_
  rotate_left
  · intro u hSu; have hSv := blkCell hSu; clear hSu; go_simp; (try with_reducible rfl)
  try simp only [Act.put, List.setIfInBounds_toArray, List.set_cons_zero, List.set_cons_succ]
  refine wpAnyH_take (i := 11) (oi := { dst := some 15, op := _, type := _, pos := _, after := _, guard := _ }) (v := ?_) rfl (by kernel_rfl) (by kernel_rfl) (by kernel_rfl) (fun _ _ _ h => h) (Or.inl ⟨by rfl, ?_⟩) (by assumption) ?_
  rotate_left
  · intro u hSu; have hSv := blkCell hSu; clear hSu; go_simp; (try with_reducible rfl)
  try simp only [Act.put, List.setIfInBounds_toArray, List.set_cons_zero, List.set_cons_succ]
  refine wpAnyH_take (i := 12) (oi := { dst := some 16, op := _, type := _, pos := _, after := _, guard := _ }) (v := ?_) rfl (by kernel_rfl) (by kernel_rfl) (by kernel_rfl) (fun _ _ _ h => h) (Or.inl ⟨by rfl, ?_⟩) (by assumption) ?_
  rotate_left
  · intro u hSu; have hSv := blkCell hSu; clear hSu; go_simp; (try with_reducible rfl)
  try simp only [Act.put, List.setIfInBounds_toArray, List.set_cons_zero, List.set_cons_succ]
  refine wpAnyH_ready (rs := [2]) (by kernel_rfl) (by simp) ?_
  refine AllReadyH.cons (o := { dst := some 6, op := _, type := _, pos := _, after := _, guard := _ }) rfl (fun K hK => ?_) ?_
  rotate_left
  · exact AllReadyH.nil
  go_simp
  refine (HC1.out _).mono ?_; rintro e vb1 ⟨rfl, hb⟩; have Xb1 := blkOld Xb0 hb; have Yb1 := joinB Yb0 hb; try clear hSn
  have hSn := Xb1
  clear hb
  refine hK.out _ _ ?_ (fun hHeld => ?_)
  · first | exact hSn | exact Xb0
  clear hK K
  try simp only [Act.put, List.setIfInBounds_toArray, List.set_cons_zero, List.set_cons_succ]
  refine wpAnyH_ready (rs := [5]) (by kernel_rfl) (by simp) ?_
  refine AllReadyH.cons (o := { dst := some 9, op := _, type := _, pos := _, after := _, guard := _ }) rfl (fun K hK => ?_) ?_
  rotate_left
  · exact AllReadyH.nil
  go_simp
  refine (HC2.out _).mono ?_; rintro e vb2 ⟨rfl, hb⟩; have Xb2 := blkOld Xb1 hb; have Yb2 := joinB Yb1 hb; try clear hSn
  have hSn := Xb2
  clear hb
  refine hK.out _ _ ?_ (fun hHeld => ?_)
  · first | exact hSn | exact Xb0
  clear hK K
  try simp only [Act.put, List.setIfInBounds_toArray, List.set_cons_zero, List.set_cons_succ]
  refine wpAnyH_take (i := 6) (oi := { dst := some 10, op := _, type := _, pos := _, after := _, guard := _ }) (v := ?_) rfl (by kernel_rfl) (by kernel_rfl) (by kernel_rfl) (fun _ _ _ h => h) (Or.inl ⟨by rfl, ?_⟩) (by assumption) ?_
  rotate_left
  · intro u hSu; have hSv := blkCell hSu; clear hSu; go_simp; (try with_reducible rfl)
  try simp only [Act.put, List.setIfInBounds_toArray, List.set_cons_zero, List.set_cons_succ]
  refine wpAnyH_ready (rs := [9]) (by kernel_rfl) (by simp) ?_
  refine AllReadyH.cons (o := { dst := some 13, op := _, type := _, pos := _, after := _, guard := _ }) rfl (fun K hK => ?_) ?_
  rotate_left
  · exact AllReadyH.nil
  go_simp
  refine (HC3.out _).mono ?_; rintro e vb3 ⟨rfl, hb⟩; have Xb3 := blkOld Xb2 hb; have Yb3 := joinB Yb2 hb; try clear hSn
  have hSn := Xb3
  clear hb
  refine hK.out _ _ ?_ (fun hHeld => ?_)
  · first | exact hSn | exact Xb0
  clear hK K
  try simp only [Act.put, List.setIfInBounds_toArray, List.set_cons_zero, List.set_cons_succ]
  refine wpAnyH_take (i := 10) (oi := { dst := some 14, op := _, type := _, pos := _, after := _, guard := _ }) (v := ?_) rfl (by kernel_rfl) (by kernel_rfl) (by kernel_rfl) (fun _ _ _ h => h) (Or.inl ⟨by rfl, ?_⟩) (by assumption) ?_
  rotate_left
  · intro u hSu; have hSv := blkCell hSu; clear hSu; go_simp; (try with_reducible rfl)
  try simp only [Act.put, List.setIfInBounds_toArray, List.set_cons_zero, List.set_cons_succ]
  refine wpAnyH_ready (rs := [13]) (by kernel_rfl) (by simp) ?_
  refine AllReadyH.cons (o := { dst := some 17, op := _, type := _, pos := _, after := _, guard := _ }) rfl (fun K hK => ?_) ?_
  rotate_left
  · exact AllReadyH.nil
  go_simp
  refine (HC4.out _).mono ?_; rintro e vb4 ⟨rfl, hb⟩; have Xb4 := blkOld Xb3 hb; have Yb4 := joinB Yb3 hb; try clear hSn
  have hSn := Xb4
  clear hb
  refine hK.out _ _ ?_ (fun hHeld => ?_)
  · first | exact hSn | exact Xb0
  clear hK K
  try simp only [Act.put, List.setIfInBounds_toArray, List.set_cons_zero, List.set_cons_succ]
  refine wpAnyH_take (i := 14) (oi := { dst := some 18, op := _, type := _, pos := _, after := _, guard := _ }) (v := ?_) rfl (by kernel_rfl) (by kernel_rfl) (by kernel_rfl) (fun _ _ _ h => h) (Or.inl ⟨by rfl, ?_⟩) (by assumption) ?_
  rotate_left
  · intro u hSu; have hSv := blkCell hSu; clear hSu; go_simp; (try with_reducible rfl)
  try simp only [Act.put, List.setIfInBounds_toArray, List.set_cons_zero, List.set_cons_succ]
  refine wpAnyH_take (i := 15) (oi := { dst := some 3, op := _, type := _, pos := _, after := _, guard := _ }) (v := ?_) rfl (by kernel_rfl) (by kernel_rfl) (by kernel_rfl) (fun _ _ _ h => h) (Or.inl ⟨by rfl, ?_⟩) (by assumption) ?_
  rotate_left
  · intro u hSu; have hSv := blkCell hSu; clear hSu; go_simp; (try with_reducible rfl)
  try simp only [Act.put, List.setIfInBounds_toArray, List.set_cons_zero, List.set_cons_succ]
  refine wpAnyH_done (by kernel_rfl) ?_ _
  have HX1 := Lib.hid Xb4
  have HB1 := Lib.hid Yb4
  clear hHeld hSn Xb0 Yb0 Xb1 Yb1 Xb2 Yb2 Xb3 Yb3 Xb4 Yb4
  have hcg1 := blkCell HX1.out
  go_wp2_with fail
  go_ret
  exact ⟨by rw [← HE.out]; rfl, HB1.out⟩
set_option maxRecDepth 100000 in
set_option maxHeartbeats 4000000 in
theorem rbody_6 (lsn prev txn page next nu ok os root ep es : Int) (how : Int) (oo on ek : ByteArray) (ts : List Rc.TxnAt) (ds : List Rc.DirtyAt) (A B : Option Addr) (c d : Nat) (w : World) :
    Calls Try.prog 44 #[.agg #[.int .i64 lsn, .int .i64 prev, .int .i64 txn, .int .i64 6, .int .i64 page, .int .i64 next, .int .i64 nu, .int .i64 ok, .int .i64 os, .string oo, .string on, .int .i64 how, .int .i64 root, .string ek, .int .i64 ep, .int .i64 es, .slice A ts.length c, .slice B ds.length d]] w fun e w' => e = .returned (.string (Rc.mk (Rc.bodyB ⟨lsn, prev, txn, 6, page, next, nu, ⟨ok, os, oo, on⟩, how, root, ⟨ek, ep, es⟩, ts, ds⟩))) ∧ Below w.heap.size w w' := by
  obtain ⟨w0, hw0⟩ : ∃ W, W = w.alloc (.cells #[.int .i64 lsn, .int .i64 prev, .int .i64 txn, .int .i64 6, .int .i64 page, .int .i64 next, .int .i64 nu, .int .i64 ok, .int .i64 os, .string oo, .string on, .int .i64 how, .int .i64 root, .string ek, .int .i64 ep, .int .i64 es, .slice A ts.length c, .slice B ds.length d] 49) := ⟨_, rfl⟩
  have HB0 := Lib.hid (show Below w.heap.size w w0 from by rw [hw0]; exact allocB _ _)
  have HX0 := Lib.hid (show w0.heap[w.heap.size]? = some (.cells #[.int .i64 lsn, .int .i64 prev, .int .i64 txn, .int .i64 6, .int .i64 page, .int .i64 next, .int .i64 nu, .int .i64 ok, .int .i64 os, .string oo, .string on, .int .i64 how, .int .i64 root, .string ek, .int .i64 ep, .int .i64 es, .slice A ts.length c, .slice B ds.length d] 49 (0, 0)) from by rw [hw0]; exact heap_alloc_new _ _)
  obtain ⟨R, hR⟩ : ∃ R, R = Rc.mk (Rc.bodyB ⟨lsn, prev, txn, 6, page, next, nu, ⟨ok, os, oo, on⟩, how, root, ⟨ek, ep, es⟩, ts, ds⟩) := ⟨_, rfl⟩
  rw [← hR]
  obtain ⟨B1, hB1⟩ : ∃ b, b = Rc.mk (Rc.p 6 1) := ⟨_, rfl⟩
  have hl1 : ((Rc.p 6 1)).length = 1 := Rc.p_length _ _
  have HC1 := Lib.hid (show ∀ W, Calls Try.prog 83 #[.int .i64 6, .int .i64 1] W fun e w' => e = .returned (.string B1) ∧ Below W.heap.size W w' from fun W => by rw [hB1]; exact rput_mk 6 1 (by omega) W)
  obtain ⟨B2, hB2⟩ : ∃ b, b = Rc.mk (Rc.p lsn 6) := ⟨_, rfl⟩
  have hl2 : ((Rc.p lsn 6)).length = 6 := Rc.p_length _ _
  have HC2 := Lib.hid (show ∀ W, Calls Try.prog 83 #[.int .i64 lsn, .int .i64 6] W fun e w' => e = .returned (.string B2) ∧ Below W.heap.size W w' from fun W => by rw [hB2]; exact rput_mk lsn 6 (by omega) W)
  obtain ⟨S2, hS2⟩ : ∃ b, b = Rc.mk ((Rc.p 6 1) ++ (Rc.p lsn 6)) := ⟨_, rfl⟩
  have ha2 : ∀ W : World, (Op.stringOp .add B1 B2).run Try.prog W = .ok (.string S2) W := fun W => by rw [hB1, hB2, hS2]; exact add_mk _ _ (by (try simp only [List.length_append]); omega) W
  obtain ⟨B3, hB3⟩ : ∃ b, b = Rc.mk (Rc.p prev 6) := ⟨_, rfl⟩
  have hl3 : ((Rc.p prev 6)).length = 6 := Rc.p_length _ _
  have HC3 := Lib.hid (show ∀ W, Calls Try.prog 83 #[.int .i64 prev, .int .i64 6] W fun e w' => e = .returned (.string B3) ∧ Below W.heap.size W w' from fun W => by rw [hB3]; exact rput_mk prev 6 (by omega) W)
  obtain ⟨S3, hS3⟩ : ∃ b, b = Rc.mk (((Rc.p 6 1) ++ (Rc.p lsn 6)) ++ (Rc.p prev 6)) := ⟨_, rfl⟩
  have ha3 : ∀ W : World, (Op.stringOp .add S2 B3).run Try.prog W = .ok (.string S3) W := fun W => by rw [hS2, hB3, hS3]; exact add_mk _ _ (by (try simp only [List.length_append]); omega) W
  obtain ⟨B4, hB4⟩ : ∃ b, b = Rc.mk (Rc.p txn 6) := ⟨_, rfl⟩
  have hl4 : ((Rc.p txn 6)).length = 6 := Rc.p_length _ _
  have HC4 := Lib.hid (show ∀ W, Calls Try.prog 83 #[.int .i64 txn, .int .i64 6] W fun e w' => e = .returned (.string B4) ∧ Below W.heap.size W w' from fun W => by rw [hB4]; exact rput_mk txn 6 (by omega) W)
  obtain ⟨S4, hS4⟩ : ∃ b, b = Rc.mk ((((Rc.p 6 1) ++ (Rc.p lsn 6)) ++ (Rc.p prev 6)) ++ (Rc.p txn 6)) := ⟨_, rfl⟩
  have ha4 : ∀ W : World, (Op.stringOp .add S3 B4).run Try.prog W = .ok (.string S4) W := fun W => by rw [hS3, hB4, hS4]; exact add_mk _ _ (by (try simp only [List.length_append]); omega) W
  have HE := Lib.hid (show S4 = R from by rw [hS4, hR]; (congr 1) <;> (unfold Rc.bodyB; rw [show Rc.restB ⟨lsn, prev, txn, 6, page, next, nu, ⟨ok, os, oo, on⟩, how, root, ⟨ek, ep, es⟩, ts, ds⟩ = [] from by unfold Rc.restB; rfl]; unfold Rc.headB; simp only [List.append_assoc, List.append_nil]))
  clear hB1 hl1
  clear hB2 hl2
  clear hB3 hl3
  clear hB4 hl4
  clear hS2
  clear hS3
  clear hS4
  clear hR
  go_enter Try.func44, Try.ntmps44
  go_upto_region 1 with fail
  rw [← hw0]
  clear hw0
  obtain ⟨g, hg⟩ : ∃ g, g = w.heap.size := ⟨_, rfl⟩
  rw [← hg] at HX0
  rw [← hg]
  clear hg
  go_upto_region 1 with fail
  have Xb0 := blkOld HX0.out (Below.refl _ w0).drew
  have Yb0 := joinB HB0.out (Below.refl _ w0).drew
  refine wp_region_held_drew (S := (fun u => u.heap[g]? = some (.cells #[.int .i64 lsn, .int .i64 prev, .int .i64 txn, .int .i64 6, .int .i64 page, .int .i64 next, .int .i64 nu, .int .i64 ok, .int .i64 os, .string oo, .string on, .int .i64 how, .int .i64 root, .string ek, .int .i64 ep, .int .i64 es, .slice A ts.length c, .slice B ds.length d] 49 (0, 0)))) (by kernel_rfl) ?_ (fun hHeld => ?_)
  · first | exact hSn | exact Xb0
  refine wpAnyH_take (i := 0) (oi := { dst := some 4, op := _, type := _, pos := _, after := _, guard := _ }) (v := ?_) rfl (by kernel_rfl) (by kernel_rfl) (by kernel_rfl) (fun _ _ _ h => h) (Or.inl ⟨by rfl, ?_⟩) (by assumption) ?_
  rotate_left
  · intro u hSu; have hSv := blkCell hSu; clear hSu; go_simp; (try with_reducible rfl)
  try simp only [Act.put, List.setIfInBounds_toArray, List.set_cons_zero, List.set_cons_succ]
  refine wpAnyH_take (i := 1) (oi := { dst := some 5, op := _, type := _, pos := _, after := _, guard := _ }) (v := ?_) rfl (by kernel_rfl) (by kernel_rfl) (by kernel_rfl) (fun _ _ _ h => h) (Or.inl ⟨by rfl, ?_⟩) (by assumption) ?_
  rotate_left
  · intro u hSu; have hSv := blkCell hSu; clear hSu; go_simp; (try with_reducible rfl)
  try simp only [Act.put, List.setIfInBounds_toArray, List.set_cons_zero, List.set_cons_succ]
  refine wpAnyH_take (i := 3) (oi := { dst := some 7, op := _, type := _, pos := _, after := _, guard := _ }) (v := ?_) rfl (by kernel_rfl) (by kernel_rfl) (by kernel_rfl) (fun _ _ _ h => h) (Or.inl ⟨by rfl, ?_⟩) (by assumption) ?_
  rotate_left
  · intro u hSu; have hSv := blkCell hSu; clear hSu; go_simp; (try with_reducible rfl)
  try simp only [Act.put, List.setIfInBounds_toArray, List.set_cons_zero, List.set_cons_succ]
  refine wpAnyH_take (i := 4) (oi := { dst := some 8, op := _, type := _, pos := _, after := _, guard := _ }) (v := ?_) rfl (by kernel_rfl) (by kernel_rfl) (by kernel_rfl) (fun _ _ _ h => h) (Or.inl ⟨by rfl, ?_⟩) (by assumption) ?_
  rotate_left
  · intro u hSu; have hSv := blkCell hSu; clear hSu; go_simp; (try with_reducible rfl)
  try simp only [Act.put, List.setIfInBounds_toArray, List.set_cons_zero, List.set_cons_succ]
  refine wpAnyH_take (i := 7) (oi := { dst := some 11, op := _, type := _, pos := _, after := _, guard := _ }) (v := ?_) rfl (by kernel_rfl) (by kernel_rfl) (by kernel_rfl) (fun _ _ _ h => h) (Or.inl ⟨by rfl, ?_⟩) (by assumption) ?_
  rotate_left
  · intro u hSu; have hSv := blkCell hSu; clear hSu; go_simp; (try with_reducible rfl)
  try simp only [Act.put, List.setIfInBounds_toArray, List.set_cons_zero, List.set_cons_succ]
  refine wpAnyH_take (i := 8) (oi := { dst := some 12, op := _, type := _, pos := _, after := _, guard := _ }) (v := ?_) rfl (by kernel_rfl) (by kernel_rfl) (by kernel_rfl) (fun _ _ _ h => h) (Or.inl ⟨by rfl, ?_⟩) (by assumption) ?_
  rotate_left
  · intro u hSu; have hSv := blkCell hSu; clear hSu; go_simp; (try with_reducible rfl)
  try simp only [Act.put, List.setIfInBounds_toArray, List.set_cons_zero, List.set_cons_succ]
  refine wpAnyH_take (i := 11) (oi := { dst := some 15, op := _, type := _, pos := _, after := _, guard := _ }) (v := ?_) rfl (by kernel_rfl) (by kernel_rfl) (by kernel_rfl) (fun _ _ _ h => h) (Or.inl ⟨by rfl, ?_⟩) (by assumption) ?_
  rotate_left
  · intro u hSu; have hSv := blkCell hSu; clear hSu; go_simp; (try with_reducible rfl)
  try simp only [Act.put, List.setIfInBounds_toArray, List.set_cons_zero, List.set_cons_succ]
  refine wpAnyH_take (i := 12) (oi := { dst := some 16, op := _, type := _, pos := _, after := _, guard := _ }) (v := ?_) rfl (by kernel_rfl) (by kernel_rfl) (by kernel_rfl) (fun _ _ _ h => h) (Or.inl ⟨by rfl, ?_⟩) (by assumption) ?_
  rotate_left
  · intro u hSu; have hSv := blkCell hSu; clear hSu; go_simp; (try with_reducible rfl)
  try simp only [Act.put, List.setIfInBounds_toArray, List.set_cons_zero, List.set_cons_succ]
  refine wpAnyH_ready (rs := [2]) (by kernel_rfl) (by simp) ?_
  refine AllReadyH.cons (o := { dst := some 6, op := _, type := _, pos := _, after := _, guard := _ }) rfl (fun K hK => ?_) ?_
  rotate_left
  · exact AllReadyH.nil
  go_simp
  refine (HC1.out _).mono ?_; rintro e vb1 ⟨rfl, hb⟩; have Xb1 := blkOld Xb0 hb; have Yb1 := joinB Yb0 hb; try clear hSn
  have hSn := Xb1
  clear hb
  refine hK.out _ _ ?_ (fun hHeld => ?_)
  · first | exact hSn | exact Xb0
  clear hK K
  try simp only [Act.put, List.setIfInBounds_toArray, List.set_cons_zero, List.set_cons_succ]
  refine wpAnyH_ready (rs := [5]) (by kernel_rfl) (by simp) ?_
  refine AllReadyH.cons (o := { dst := some 9, op := _, type := _, pos := _, after := _, guard := _ }) rfl (fun K hK => ?_) ?_
  rotate_left
  · exact AllReadyH.nil
  go_simp
  refine (HC2.out _).mono ?_; rintro e vb2 ⟨rfl, hb⟩; have Xb2 := blkOld Xb1 hb; have Yb2 := joinB Yb1 hb; try clear hSn
  have hSn := Xb2
  clear hb
  refine hK.out _ _ ?_ (fun hHeld => ?_)
  · first | exact hSn | exact Xb0
  clear hK K
  try simp only [Act.put, List.setIfInBounds_toArray, List.set_cons_zero, List.set_cons_succ]
  refine wpAnyH_take (i := 6) (oi := { dst := some 10, op := _, type := _, pos := _, after := _, guard := _ }) (v := ?_) rfl (by kernel_rfl) (by kernel_rfl) (by kernel_rfl) (fun _ _ _ h => h) (Or.inl ⟨by rfl, ?_⟩) (by assumption) ?_
  rotate_left
  · intro u hSu; have hSv := blkCell hSu; clear hSu; go_simp; (try with_reducible rfl)
  try simp only [Act.put, List.setIfInBounds_toArray, List.set_cons_zero, List.set_cons_succ]
  refine wpAnyH_ready (rs := [9]) (by kernel_rfl) (by simp) ?_
  refine AllReadyH.cons (o := { dst := some 13, op := _, type := _, pos := _, after := _, guard := _ }) rfl (fun K hK => ?_) ?_
  rotate_left
  · exact AllReadyH.nil
  go_simp
  refine (HC3.out _).mono ?_; rintro e vb3 ⟨rfl, hb⟩; have Xb3 := blkOld Xb2 hb; have Yb3 := joinB Yb2 hb; try clear hSn
  have hSn := Xb3
  clear hb
  refine hK.out _ _ ?_ (fun hHeld => ?_)
  · first | exact hSn | exact Xb0
  clear hK K
  try simp only [Act.put, List.setIfInBounds_toArray, List.set_cons_zero, List.set_cons_succ]
  refine wpAnyH_take (i := 10) (oi := { dst := some 14, op := _, type := _, pos := _, after := _, guard := _ }) (v := ?_) rfl (by kernel_rfl) (by kernel_rfl) (by kernel_rfl) (fun _ _ _ h => h) (Or.inl ⟨by rfl, ?_⟩) (by assumption) ?_
  rotate_left
  · intro u hSu; have hSv := blkCell hSu; clear hSu; go_simp; (try with_reducible rfl)
  try simp only [Act.put, List.setIfInBounds_toArray, List.set_cons_zero, List.set_cons_succ]
  refine wpAnyH_ready (rs := [13]) (by kernel_rfl) (by simp) ?_
  refine AllReadyH.cons (o := { dst := some 17, op := _, type := _, pos := _, after := _, guard := _ }) rfl (fun K hK => ?_) ?_
  rotate_left
  · exact AllReadyH.nil
  go_simp
  refine (HC4.out _).mono ?_; rintro e vb4 ⟨rfl, hb⟩; have Xb4 := blkOld Xb3 hb; have Yb4 := joinB Yb3 hb; try clear hSn
  have hSn := Xb4
  clear hb
  refine hK.out _ _ ?_ (fun hHeld => ?_)
  · first | exact hSn | exact Xb0
  clear hK K
  try simp only [Act.put, List.setIfInBounds_toArray, List.set_cons_zero, List.set_cons_succ]
  refine wpAnyH_take (i := 14) (oi := { dst := some 18, op := _, type := _, pos := _, after := _, guard := _ }) (v := ?_) rfl (by kernel_rfl) (by kernel_rfl) (by kernel_rfl) (fun _ _ _ h => h) (Or.inl ⟨by rfl, ?_⟩) (by assumption) ?_
  rotate_left
  · intro u hSu; have hSv := blkCell hSu; clear hSu; go_simp; (try with_reducible rfl)
  try simp only [Act.put, List.setIfInBounds_toArray, List.set_cons_zero, List.set_cons_succ]
  refine wpAnyH_take (i := 15) (oi := { dst := some 3, op := _, type := _, pos := _, after := _, guard := _ }) (v := ?_) rfl (by kernel_rfl) (by kernel_rfl) (by kernel_rfl) (fun _ _ _ h => h) (Or.inl ⟨by rfl, ?_⟩) (by assumption) ?_
  rotate_left
  · intro u hSu; have hSv := blkCell hSu; clear hSu; go_simp; (try with_reducible rfl)
  try simp only [Act.put, List.setIfInBounds_toArray, List.set_cons_zero, List.set_cons_succ]
  refine wpAnyH_done (by kernel_rfl) ?_ _
  have HX1 := Lib.hid Xb4
  have HB1 := Lib.hid Yb4
  clear hHeld hSn Xb0 Yb0 Xb1 Yb1 Xb2 Yb2 Xb3 Yb3 Xb4 Yb4
  have hcg1 := blkCell HX1.out
  go_wp2_with fail
  go_ret
  exact ⟨by rw [← HE.out]; rfl, HB1.out⟩
set_option maxRecDepth 100000 in
set_option maxHeartbeats 4000000 in
theorem rbody_7 (lsn prev txn page next nu ok os root ep es : Int) (how : Int) (oo on ek : ByteArray) (ts : List Rc.TxnAt) (ds : List Rc.DirtyAt) (A B : Option Addr) (c d : Nat) (w : World) :
    Calls Try.prog 44 #[.agg #[.int .i64 lsn, .int .i64 prev, .int .i64 txn, .int .i64 7, .int .i64 page, .int .i64 next, .int .i64 nu, .int .i64 ok, .int .i64 os, .string oo, .string on, .int .i64 how, .int .i64 root, .string ek, .int .i64 ep, .int .i64 es, .slice A ts.length c, .slice B ds.length d]] w fun e w' => e = .returned (.string (Rc.mk (Rc.bodyB ⟨lsn, prev, txn, 7, page, next, nu, ⟨ok, os, oo, on⟩, how, root, ⟨ek, ep, es⟩, ts, ds⟩))) ∧ Below w.heap.size w w' := by
  obtain ⟨w0, hw0⟩ : ∃ W, W = w.alloc (.cells #[.int .i64 lsn, .int .i64 prev, .int .i64 txn, .int .i64 7, .int .i64 page, .int .i64 next, .int .i64 nu, .int .i64 ok, .int .i64 os, .string oo, .string on, .int .i64 how, .int .i64 root, .string ek, .int .i64 ep, .int .i64 es, .slice A ts.length c, .slice B ds.length d] 49) := ⟨_, rfl⟩
  have HB0 := Lib.hid (show Below w.heap.size w w0 from by rw [hw0]; exact allocB _ _)
  have HX0 := Lib.hid (show w0.heap[w.heap.size]? = some (.cells #[.int .i64 lsn, .int .i64 prev, .int .i64 txn, .int .i64 7, .int .i64 page, .int .i64 next, .int .i64 nu, .int .i64 ok, .int .i64 os, .string oo, .string on, .int .i64 how, .int .i64 root, .string ek, .int .i64 ep, .int .i64 es, .slice A ts.length c, .slice B ds.length d] 49 (0, 0)) from by rw [hw0]; exact heap_alloc_new _ _)
  obtain ⟨R, hR⟩ : ∃ R, R = Rc.mk (Rc.bodyB ⟨lsn, prev, txn, 7, page, next, nu, ⟨ok, os, oo, on⟩, how, root, ⟨ek, ep, es⟩, ts, ds⟩) := ⟨_, rfl⟩
  rw [← hR]
  obtain ⟨B1, hB1⟩ : ∃ b, b = Rc.mk (Rc.p 7 1) := ⟨_, rfl⟩
  have hl1 : ((Rc.p 7 1)).length = 1 := Rc.p_length _ _
  have HC1 := Lib.hid (show ∀ W, Calls Try.prog 83 #[.int .i64 7, .int .i64 1] W fun e w' => e = .returned (.string B1) ∧ Below W.heap.size W w' from fun W => by rw [hB1]; exact rput_mk 7 1 (by omega) W)
  obtain ⟨B2, hB2⟩ : ∃ b, b = Rc.mk (Rc.p lsn 6) := ⟨_, rfl⟩
  have hl2 : ((Rc.p lsn 6)).length = 6 := Rc.p_length _ _
  have HC2 := Lib.hid (show ∀ W, Calls Try.prog 83 #[.int .i64 lsn, .int .i64 6] W fun e w' => e = .returned (.string B2) ∧ Below W.heap.size W w' from fun W => by rw [hB2]; exact rput_mk lsn 6 (by omega) W)
  obtain ⟨S2, hS2⟩ : ∃ b, b = Rc.mk ((Rc.p 7 1) ++ (Rc.p lsn 6)) := ⟨_, rfl⟩
  have ha2 : ∀ W : World, (Op.stringOp .add B1 B2).run Try.prog W = .ok (.string S2) W := fun W => by rw [hB1, hB2, hS2]; exact add_mk _ _ (by (try simp only [List.length_append]); omega) W
  obtain ⟨B3, hB3⟩ : ∃ b, b = Rc.mk (Rc.p prev 6) := ⟨_, rfl⟩
  have hl3 : ((Rc.p prev 6)).length = 6 := Rc.p_length _ _
  have HC3 := Lib.hid (show ∀ W, Calls Try.prog 83 #[.int .i64 prev, .int .i64 6] W fun e w' => e = .returned (.string B3) ∧ Below W.heap.size W w' from fun W => by rw [hB3]; exact rput_mk prev 6 (by omega) W)
  obtain ⟨S3, hS3⟩ : ∃ b, b = Rc.mk (((Rc.p 7 1) ++ (Rc.p lsn 6)) ++ (Rc.p prev 6)) := ⟨_, rfl⟩
  have ha3 : ∀ W : World, (Op.stringOp .add S2 B3).run Try.prog W = .ok (.string S3) W := fun W => by rw [hS2, hB3, hS3]; exact add_mk _ _ (by (try simp only [List.length_append]); omega) W
  obtain ⟨B4, hB4⟩ : ∃ b, b = Rc.mk (Rc.p txn 6) := ⟨_, rfl⟩
  have hl4 : ((Rc.p txn 6)).length = 6 := Rc.p_length _ _
  have HC4 := Lib.hid (show ∀ W, Calls Try.prog 83 #[.int .i64 txn, .int .i64 6] W fun e w' => e = .returned (.string B4) ∧ Below W.heap.size W w' from fun W => by rw [hB4]; exact rput_mk txn 6 (by omega) W)
  obtain ⟨S4, hS4⟩ : ∃ b, b = Rc.mk ((((Rc.p 7 1) ++ (Rc.p lsn 6)) ++ (Rc.p prev 6)) ++ (Rc.p txn 6)) := ⟨_, rfl⟩
  have ha4 : ∀ W : World, (Op.stringOp .add S3 B4).run Try.prog W = .ok (.string S4) W := fun W => by rw [hS3, hB4, hS4]; exact add_mk _ _ (by (try simp only [List.length_append]); omega) W
  have HE := Lib.hid (show S4 = R from by rw [hS4, hR]; (congr 1) <;> (unfold Rc.bodyB; rw [show Rc.restB ⟨lsn, prev, txn, 7, page, next, nu, ⟨ok, os, oo, on⟩, how, root, ⟨ek, ep, es⟩, ts, ds⟩ = [] from by unfold Rc.restB; rfl]; unfold Rc.headB; simp only [List.append_assoc, List.append_nil]))
  clear hB1 hl1
  clear hB2 hl2
  clear hB3 hl3
  clear hB4 hl4
  clear hS2
  clear hS3
  clear hS4
  clear hR
  go_enter Try.func44, Try.ntmps44
  go_upto_region 1 with fail
  rw [← hw0]
  clear hw0
  obtain ⟨g, hg⟩ : ∃ g, g = w.heap.size := ⟨_, rfl⟩
  rw [← hg] at HX0
  rw [← hg]
  clear hg
  go_upto_region 1 with fail
  have Xb0 := blkOld HX0.out (Below.refl _ w0).drew
  have Yb0 := joinB HB0.out (Below.refl _ w0).drew
  refine wp_region_held_drew (S := (fun u => u.heap[g]? = some (.cells #[.int .i64 lsn, .int .i64 prev, .int .i64 txn, .int .i64 7, .int .i64 page, .int .i64 next, .int .i64 nu, .int .i64 ok, .int .i64 os, .string oo, .string on, .int .i64 how, .int .i64 root, .string ek, .int .i64 ep, .int .i64 es, .slice A ts.length c, .slice B ds.length d] 49 (0, 0)))) (by kernel_rfl) ?_ (fun hHeld => ?_)
  · first | exact hSn | exact Xb0
  refine wpAnyH_take (i := 0) (oi := { dst := some 4, op := _, type := _, pos := _, after := _, guard := _ }) (v := ?_) rfl (by kernel_rfl) (by kernel_rfl) (by kernel_rfl) (fun _ _ _ h => h) (Or.inl ⟨by rfl, ?_⟩) (by assumption) ?_
  rotate_left
  · intro u hSu; have hSv := blkCell hSu; clear hSu; go_simp; (try with_reducible rfl)
  try simp only [Act.put, List.setIfInBounds_toArray, List.set_cons_zero, List.set_cons_succ]
  refine wpAnyH_take (i := 1) (oi := { dst := some 5, op := _, type := _, pos := _, after := _, guard := _ }) (v := ?_) rfl (by kernel_rfl) (by kernel_rfl) (by kernel_rfl) (fun _ _ _ h => h) (Or.inl ⟨by rfl, ?_⟩) (by assumption) ?_
  rotate_left
  · intro u hSu; have hSv := blkCell hSu; clear hSu; go_simp; (try with_reducible rfl)
  try simp only [Act.put, List.setIfInBounds_toArray, List.set_cons_zero, List.set_cons_succ]
  refine wpAnyH_take (i := 3) (oi := { dst := some 7, op := _, type := _, pos := _, after := _, guard := _ }) (v := ?_) rfl (by kernel_rfl) (by kernel_rfl) (by kernel_rfl) (fun _ _ _ h => h) (Or.inl ⟨by rfl, ?_⟩) (by assumption) ?_
  rotate_left
  · intro u hSu; have hSv := blkCell hSu; clear hSu; go_simp; (try with_reducible rfl)
  try simp only [Act.put, List.setIfInBounds_toArray, List.set_cons_zero, List.set_cons_succ]
  refine wpAnyH_take (i := 4) (oi := { dst := some 8, op := _, type := _, pos := _, after := _, guard := _ }) (v := ?_) rfl (by kernel_rfl) (by kernel_rfl) (by kernel_rfl) (fun _ _ _ h => h) (Or.inl ⟨by rfl, ?_⟩) (by assumption) ?_
  rotate_left
  · intro u hSu; have hSv := blkCell hSu; clear hSu; go_simp; (try with_reducible rfl)
  try simp only [Act.put, List.setIfInBounds_toArray, List.set_cons_zero, List.set_cons_succ]
  refine wpAnyH_take (i := 7) (oi := { dst := some 11, op := _, type := _, pos := _, after := _, guard := _ }) (v := ?_) rfl (by kernel_rfl) (by kernel_rfl) (by kernel_rfl) (fun _ _ _ h => h) (Or.inl ⟨by rfl, ?_⟩) (by assumption) ?_
  rotate_left
  · intro u hSu; have hSv := blkCell hSu; clear hSu; go_simp; (try with_reducible rfl)
  try simp only [Act.put, List.setIfInBounds_toArray, List.set_cons_zero, List.set_cons_succ]
  refine wpAnyH_take (i := 8) (oi := { dst := some 12, op := _, type := _, pos := _, after := _, guard := _ }) (v := ?_) rfl (by kernel_rfl) (by kernel_rfl) (by kernel_rfl) (fun _ _ _ h => h) (Or.inl ⟨by rfl, ?_⟩) (by assumption) ?_
  rotate_left
  · intro u hSu; have hSv := blkCell hSu; clear hSu; go_simp; (try with_reducible rfl)
  try simp only [Act.put, List.setIfInBounds_toArray, List.set_cons_zero, List.set_cons_succ]
  refine wpAnyH_take (i := 11) (oi := { dst := some 15, op := _, type := _, pos := _, after := _, guard := _ }) (v := ?_) rfl (by kernel_rfl) (by kernel_rfl) (by kernel_rfl) (fun _ _ _ h => h) (Or.inl ⟨by rfl, ?_⟩) (by assumption) ?_
  rotate_left
  · intro u hSu; have hSv := blkCell hSu; clear hSu; go_simp; (try with_reducible rfl)
  try simp only [Act.put, List.setIfInBounds_toArray, List.set_cons_zero, List.set_cons_succ]
  refine wpAnyH_take (i := 12) (oi := { dst := some 16, op := _, type := _, pos := _, after := _, guard := _ }) (v := ?_) rfl (by kernel_rfl) (by kernel_rfl) (by kernel_rfl) (fun _ _ _ h => h) (Or.inl ⟨by rfl, ?_⟩) (by assumption) ?_
  rotate_left
  · intro u hSu; have hSv := blkCell hSu; clear hSu; go_simp; (try with_reducible rfl)
  try simp only [Act.put, List.setIfInBounds_toArray, List.set_cons_zero, List.set_cons_succ]
  refine wpAnyH_ready (rs := [2]) (by kernel_rfl) (by simp) ?_
  refine AllReadyH.cons (o := { dst := some 6, op := _, type := _, pos := _, after := _, guard := _ }) rfl (fun K hK => ?_) ?_
  rotate_left
  · exact AllReadyH.nil
  go_simp
  refine (HC1.out _).mono ?_; rintro e vb1 ⟨rfl, hb⟩; have Xb1 := blkOld Xb0 hb; have Yb1 := joinB Yb0 hb; try clear hSn
  have hSn := Xb1
  clear hb
  refine hK.out _ _ ?_ (fun hHeld => ?_)
  · first | exact hSn | exact Xb0
  clear hK K
  try simp only [Act.put, List.setIfInBounds_toArray, List.set_cons_zero, List.set_cons_succ]
  refine wpAnyH_ready (rs := [5]) (by kernel_rfl) (by simp) ?_
  refine AllReadyH.cons (o := { dst := some 9, op := _, type := _, pos := _, after := _, guard := _ }) rfl (fun K hK => ?_) ?_
  rotate_left
  · exact AllReadyH.nil
  go_simp
  refine (HC2.out _).mono ?_; rintro e vb2 ⟨rfl, hb⟩; have Xb2 := blkOld Xb1 hb; have Yb2 := joinB Yb1 hb; try clear hSn
  have hSn := Xb2
  clear hb
  refine hK.out _ _ ?_ (fun hHeld => ?_)
  · first | exact hSn | exact Xb0
  clear hK K
  try simp only [Act.put, List.setIfInBounds_toArray, List.set_cons_zero, List.set_cons_succ]
  refine wpAnyH_take (i := 6) (oi := { dst := some 10, op := _, type := _, pos := _, after := _, guard := _ }) (v := ?_) rfl (by kernel_rfl) (by kernel_rfl) (by kernel_rfl) (fun _ _ _ h => h) (Or.inl ⟨by rfl, ?_⟩) (by assumption) ?_
  rotate_left
  · intro u hSu; have hSv := blkCell hSu; clear hSu; go_simp; (try with_reducible rfl)
  try simp only [Act.put, List.setIfInBounds_toArray, List.set_cons_zero, List.set_cons_succ]
  refine wpAnyH_ready (rs := [9]) (by kernel_rfl) (by simp) ?_
  refine AllReadyH.cons (o := { dst := some 13, op := _, type := _, pos := _, after := _, guard := _ }) rfl (fun K hK => ?_) ?_
  rotate_left
  · exact AllReadyH.nil
  go_simp
  refine (HC3.out _).mono ?_; rintro e vb3 ⟨rfl, hb⟩; have Xb3 := blkOld Xb2 hb; have Yb3 := joinB Yb2 hb; try clear hSn
  have hSn := Xb3
  clear hb
  refine hK.out _ _ ?_ (fun hHeld => ?_)
  · first | exact hSn | exact Xb0
  clear hK K
  try simp only [Act.put, List.setIfInBounds_toArray, List.set_cons_zero, List.set_cons_succ]
  refine wpAnyH_take (i := 10) (oi := { dst := some 14, op := _, type := _, pos := _, after := _, guard := _ }) (v := ?_) rfl (by kernel_rfl) (by kernel_rfl) (by kernel_rfl) (fun _ _ _ h => h) (Or.inl ⟨by rfl, ?_⟩) (by assumption) ?_
  rotate_left
  · intro u hSu; have hSv := blkCell hSu; clear hSu; go_simp; (try with_reducible rfl)
  try simp only [Act.put, List.setIfInBounds_toArray, List.set_cons_zero, List.set_cons_succ]
  refine wpAnyH_ready (rs := [13]) (by kernel_rfl) (by simp) ?_
  refine AllReadyH.cons (o := { dst := some 17, op := _, type := _, pos := _, after := _, guard := _ }) rfl (fun K hK => ?_) ?_
  rotate_left
  · exact AllReadyH.nil
  go_simp
  refine (HC4.out _).mono ?_; rintro e vb4 ⟨rfl, hb⟩; have Xb4 := blkOld Xb3 hb; have Yb4 := joinB Yb3 hb; try clear hSn
  have hSn := Xb4
  clear hb
  refine hK.out _ _ ?_ (fun hHeld => ?_)
  · first | exact hSn | exact Xb0
  clear hK K
  try simp only [Act.put, List.setIfInBounds_toArray, List.set_cons_zero, List.set_cons_succ]
  refine wpAnyH_take (i := 14) (oi := { dst := some 18, op := _, type := _, pos := _, after := _, guard := _ }) (v := ?_) rfl (by kernel_rfl) (by kernel_rfl) (by kernel_rfl) (fun _ _ _ h => h) (Or.inl ⟨by rfl, ?_⟩) (by assumption) ?_
  rotate_left
  · intro u hSu; have hSv := blkCell hSu; clear hSu; go_simp; (try with_reducible rfl)
  try simp only [Act.put, List.setIfInBounds_toArray, List.set_cons_zero, List.set_cons_succ]
  refine wpAnyH_take (i := 15) (oi := { dst := some 3, op := _, type := _, pos := _, after := _, guard := _ }) (v := ?_) rfl (by kernel_rfl) (by kernel_rfl) (by kernel_rfl) (fun _ _ _ h => h) (Or.inl ⟨by rfl, ?_⟩) (by assumption) ?_
  rotate_left
  · intro u hSu; have hSv := blkCell hSu; clear hSu; go_simp; (try with_reducible rfl)
  try simp only [Act.put, List.setIfInBounds_toArray, List.set_cons_zero, List.set_cons_succ]
  refine wpAnyH_done (by kernel_rfl) ?_ _
  have HX1 := Lib.hid Xb4
  have HB1 := Lib.hid Yb4
  clear hHeld hSn Xb0 Yb0 Xb1 Yb1 Xb2 Yb2 Xb3 Yb3 Xb4 Yb4
  have hcg1 := blkCell HX1.out
  go_wp2_with fail
  go_ret
  exact ⟨by rw [← HE.out]; rfl, HB1.out⟩
set_option maxRecDepth 100000 in
set_option maxHeartbeats 4000000 in
theorem rbody_4 (lsn prev txn page next nu ok os root ep es : Int) (how : Int) (oo on ek : ByteArray) (ts : List Rc.TxnAt) (ds : List Rc.DirtyAt) (A B : Option Addr) (c d : Nat) (w : World) :
    Calls Try.prog 44 #[.agg #[.int .i64 lsn, .int .i64 prev, .int .i64 txn, .int .i64 4, .int .i64 page, .int .i64 next, .int .i64 nu, .int .i64 ok, .int .i64 os, .string oo, .string on, .int .i64 how, .int .i64 root, .string ek, .int .i64 ep, .int .i64 es, .slice A ts.length c, .slice B ds.length d]] w fun e w' => e = .returned (.string (Rc.mk (Rc.bodyB ⟨lsn, prev, txn, 4, page, next, nu, ⟨ok, os, oo, on⟩, how, root, ⟨ek, ep, es⟩, ts, ds⟩))) ∧ Below w.heap.size w w' := by
  obtain ⟨w0, hw0⟩ : ∃ W, W = w.alloc (.cells #[.int .i64 lsn, .int .i64 prev, .int .i64 txn, .int .i64 4, .int .i64 page, .int .i64 next, .int .i64 nu, .int .i64 ok, .int .i64 os, .string oo, .string on, .int .i64 how, .int .i64 root, .string ek, .int .i64 ep, .int .i64 es, .slice A ts.length c, .slice B ds.length d] 49) := ⟨_, rfl⟩
  have HB0 := Lib.hid (show Below w.heap.size w w0 from by rw [hw0]; exact allocB _ _)
  have HX0 := Lib.hid (show w0.heap[w.heap.size]? = some (.cells #[.int .i64 lsn, .int .i64 prev, .int .i64 txn, .int .i64 4, .int .i64 page, .int .i64 next, .int .i64 nu, .int .i64 ok, .int .i64 os, .string oo, .string on, .int .i64 how, .int .i64 root, .string ek, .int .i64 ep, .int .i64 es, .slice A ts.length c, .slice B ds.length d] 49 (0, 0)) from by rw [hw0]; exact heap_alloc_new _ _)
  obtain ⟨R, hR⟩ : ∃ R, R = Rc.mk (Rc.bodyB ⟨lsn, prev, txn, 4, page, next, nu, ⟨ok, os, oo, on⟩, how, root, ⟨ek, ep, es⟩, ts, ds⟩) := ⟨_, rfl⟩
  rw [← hR]
  obtain ⟨B1, hB1⟩ : ∃ b, b = Rc.mk (Rc.p 4 1) := ⟨_, rfl⟩
  have hl1 : ((Rc.p 4 1)).length = 1 := Rc.p_length _ _
  have HC1 := Lib.hid (show ∀ W, Calls Try.prog 83 #[.int .i64 4, .int .i64 1] W fun e w' => e = .returned (.string B1) ∧ Below W.heap.size W w' from fun W => by rw [hB1]; exact rput_mk 4 1 (by omega) W)
  obtain ⟨B2, hB2⟩ : ∃ b, b = Rc.mk (Rc.p lsn 6) := ⟨_, rfl⟩
  have hl2 : ((Rc.p lsn 6)).length = 6 := Rc.p_length _ _
  have HC2 := Lib.hid (show ∀ W, Calls Try.prog 83 #[.int .i64 lsn, .int .i64 6] W fun e w' => e = .returned (.string B2) ∧ Below W.heap.size W w' from fun W => by rw [hB2]; exact rput_mk lsn 6 (by omega) W)
  obtain ⟨S2, hS2⟩ : ∃ b, b = Rc.mk ((Rc.p 4 1) ++ (Rc.p lsn 6)) := ⟨_, rfl⟩
  have ha2 : ∀ W : World, (Op.stringOp .add B1 B2).run Try.prog W = .ok (.string S2) W := fun W => by rw [hB1, hB2, hS2]; exact add_mk _ _ (by (try simp only [List.length_append]); omega) W
  obtain ⟨B3, hB3⟩ : ∃ b, b = Rc.mk (Rc.p prev 6) := ⟨_, rfl⟩
  have hl3 : ((Rc.p prev 6)).length = 6 := Rc.p_length _ _
  have HC3 := Lib.hid (show ∀ W, Calls Try.prog 83 #[.int .i64 prev, .int .i64 6] W fun e w' => e = .returned (.string B3) ∧ Below W.heap.size W w' from fun W => by rw [hB3]; exact rput_mk prev 6 (by omega) W)
  obtain ⟨S3, hS3⟩ : ∃ b, b = Rc.mk (((Rc.p 4 1) ++ (Rc.p lsn 6)) ++ (Rc.p prev 6)) := ⟨_, rfl⟩
  have ha3 : ∀ W : World, (Op.stringOp .add S2 B3).run Try.prog W = .ok (.string S3) W := fun W => by rw [hS2, hB3, hS3]; exact add_mk _ _ (by (try simp only [List.length_append]); omega) W
  obtain ⟨B4, hB4⟩ : ∃ b, b = Rc.mk (Rc.p txn 6) := ⟨_, rfl⟩
  have hl4 : ((Rc.p txn 6)).length = 6 := Rc.p_length _ _
  have HC4 := Lib.hid (show ∀ W, Calls Try.prog 83 #[.int .i64 txn, .int .i64 6] W fun e w' => e = .returned (.string B4) ∧ Below W.heap.size W w' from fun W => by rw [hB4]; exact rput_mk txn 6 (by omega) W)
  obtain ⟨S4, hS4⟩ : ∃ b, b = Rc.mk ((((Rc.p 4 1) ++ (Rc.p lsn 6)) ++ (Rc.p prev 6)) ++ (Rc.p txn 6)) := ⟨_, rfl⟩
  have ha4 : ∀ W : World, (Op.stringOp .add S3 B4).run Try.prog W = .ok (.string S4) W := fun W => by rw [hS3, hB4, hS4]; exact add_mk _ _ (by (try simp only [List.length_append]); omega) W
  obtain ⟨B5, hB5⟩ : ∃ b, b = Rc.mk (Rc.p next 6) := ⟨_, rfl⟩
  have hl5 : ((Rc.p next 6)).length = 6 := Rc.p_length _ _
  have HC5 := Lib.hid (show ∀ W, Calls Try.prog 83 #[.int .i64 next, .int .i64 6] W fun e w' => e = .returned (.string B5) ∧ Below W.heap.size W w' from fun W => by rw [hB5]; exact rput_mk next 6 (by omega) W)
  obtain ⟨S5, hS5⟩ : ∃ b, b = Rc.mk (((((Rc.p 4 1) ++ (Rc.p lsn 6)) ++ (Rc.p prev 6)) ++ (Rc.p txn 6)) ++ (Rc.p next 6)) := ⟨_, rfl⟩
  have ha5 : ∀ W : World, (Op.stringOp .add S4 B5).run Try.prog W = .ok (.string S5) W := fun W => by rw [hS4, hB5, hS5]; exact add_mk _ _ (by (try simp only [List.length_append]); omega) W
  have HE := Lib.hid (show S5 = R from by rw [hS5, hR]; (congr 1) <;> (unfold Rc.bodyB; rw [Rc.restB_4 rfl]; unfold Rc.headB; simp only [List.append_assoc]))
  clear hB1 hl1
  clear hB2 hl2
  clear hB3 hl3
  clear hB4 hl4
  clear hB5 hl5
  clear hS2
  clear hS3
  clear hS4
  clear hS5
  clear hR
  go_enter Try.func44, Try.ntmps44
  go_upto_region 1 with fail
  rw [← hw0]
  clear hw0
  obtain ⟨g, hg⟩ : ∃ g, g = w.heap.size := ⟨_, rfl⟩
  rw [← hg] at HX0
  rw [← hg]
  clear hg
  go_upto_region 1 with fail
  have Xb0 := blkOld HX0.out (Below.refl _ w0).drew
  have Yb0 := joinB HB0.out (Below.refl _ w0).drew
  refine wp_region_held_drew (S := (fun u => u.heap[g]? = some (.cells #[.int .i64 lsn, .int .i64 prev, .int .i64 txn, .int .i64 4, .int .i64 page, .int .i64 next, .int .i64 nu, .int .i64 ok, .int .i64 os, .string oo, .string on, .int .i64 how, .int .i64 root, .string ek, .int .i64 ep, .int .i64 es, .slice A ts.length c, .slice B ds.length d] 49 (0, 0)))) (by kernel_rfl) ?_ (fun hHeld => ?_)
  · first | exact hSn | exact Xb0
  refine wpAnyH_take (i := 0) (oi := { dst := some 4, op := _, type := _, pos := _, after := _, guard := _ }) (v := ?_) rfl (by kernel_rfl) (by kernel_rfl) (by kernel_rfl) (fun _ _ _ h => h) (Or.inl ⟨by rfl, ?_⟩) (by assumption) ?_
  rotate_left
  · intro u hSu; have hSv := blkCell hSu; clear hSu; go_simp; (try with_reducible rfl)
  try simp only [Act.put, List.setIfInBounds_toArray, List.set_cons_zero, List.set_cons_succ]
  refine wpAnyH_take (i := 1) (oi := { dst := some 5, op := _, type := _, pos := _, after := _, guard := _ }) (v := ?_) rfl (by kernel_rfl) (by kernel_rfl) (by kernel_rfl) (fun _ _ _ h => h) (Or.inl ⟨by rfl, ?_⟩) (by assumption) ?_
  rotate_left
  · intro u hSu; have hSv := blkCell hSu; clear hSu; go_simp; (try with_reducible rfl)
  try simp only [Act.put, List.setIfInBounds_toArray, List.set_cons_zero, List.set_cons_succ]
  refine wpAnyH_take (i := 3) (oi := { dst := some 7, op := _, type := _, pos := _, after := _, guard := _ }) (v := ?_) rfl (by kernel_rfl) (by kernel_rfl) (by kernel_rfl) (fun _ _ _ h => h) (Or.inl ⟨by rfl, ?_⟩) (by assumption) ?_
  rotate_left
  · intro u hSu; have hSv := blkCell hSu; clear hSu; go_simp; (try with_reducible rfl)
  try simp only [Act.put, List.setIfInBounds_toArray, List.set_cons_zero, List.set_cons_succ]
  refine wpAnyH_take (i := 4) (oi := { dst := some 8, op := _, type := _, pos := _, after := _, guard := _ }) (v := ?_) rfl (by kernel_rfl) (by kernel_rfl) (by kernel_rfl) (fun _ _ _ h => h) (Or.inl ⟨by rfl, ?_⟩) (by assumption) ?_
  rotate_left
  · intro u hSu; have hSv := blkCell hSu; clear hSu; go_simp; (try with_reducible rfl)
  try simp only [Act.put, List.setIfInBounds_toArray, List.set_cons_zero, List.set_cons_succ]
  refine wpAnyH_take (i := 7) (oi := { dst := some 11, op := _, type := _, pos := _, after := _, guard := _ }) (v := ?_) rfl (by kernel_rfl) (by kernel_rfl) (by kernel_rfl) (fun _ _ _ h => h) (Or.inl ⟨by rfl, ?_⟩) (by assumption) ?_
  rotate_left
  · intro u hSu; have hSv := blkCell hSu; clear hSu; go_simp; (try with_reducible rfl)
  try simp only [Act.put, List.setIfInBounds_toArray, List.set_cons_zero, List.set_cons_succ]
  refine wpAnyH_take (i := 8) (oi := { dst := some 12, op := _, type := _, pos := _, after := _, guard := _ }) (v := ?_) rfl (by kernel_rfl) (by kernel_rfl) (by kernel_rfl) (fun _ _ _ h => h) (Or.inl ⟨by rfl, ?_⟩) (by assumption) ?_
  rotate_left
  · intro u hSu; have hSv := blkCell hSu; clear hSu; go_simp; (try with_reducible rfl)
  try simp only [Act.put, List.setIfInBounds_toArray, List.set_cons_zero, List.set_cons_succ]
  refine wpAnyH_take (i := 11) (oi := { dst := some 15, op := _, type := _, pos := _, after := _, guard := _ }) (v := ?_) rfl (by kernel_rfl) (by kernel_rfl) (by kernel_rfl) (fun _ _ _ h => h) (Or.inl ⟨by rfl, ?_⟩) (by assumption) ?_
  rotate_left
  · intro u hSu; have hSv := blkCell hSu; clear hSu; go_simp; (try with_reducible rfl)
  try simp only [Act.put, List.setIfInBounds_toArray, List.set_cons_zero, List.set_cons_succ]
  refine wpAnyH_take (i := 12) (oi := { dst := some 16, op := _, type := _, pos := _, after := _, guard := _ }) (v := ?_) rfl (by kernel_rfl) (by kernel_rfl) (by kernel_rfl) (fun _ _ _ h => h) (Or.inl ⟨by rfl, ?_⟩) (by assumption) ?_
  rotate_left
  · intro u hSu; have hSv := blkCell hSu; clear hSu; go_simp; (try with_reducible rfl)
  try simp only [Act.put, List.setIfInBounds_toArray, List.set_cons_zero, List.set_cons_succ]
  refine wpAnyH_ready (rs := [2]) (by kernel_rfl) (by simp) ?_
  refine AllReadyH.cons (o := { dst := some 6, op := _, type := _, pos := _, after := _, guard := _ }) rfl (fun K hK => ?_) ?_
  rotate_left
  · exact AllReadyH.nil
  go_simp
  refine (HC1.out _).mono ?_; rintro e vb1 ⟨rfl, hb⟩; have Xb1 := blkOld Xb0 hb; have Yb1 := joinB Yb0 hb; try clear hSn
  have hSn := Xb1
  clear hb
  refine hK.out _ _ ?_ (fun hHeld => ?_)
  · first | exact hSn | exact Xb0
  clear hK K
  try simp only [Act.put, List.setIfInBounds_toArray, List.set_cons_zero, List.set_cons_succ]
  refine wpAnyH_ready (rs := [5]) (by kernel_rfl) (by simp) ?_
  refine AllReadyH.cons (o := { dst := some 9, op := _, type := _, pos := _, after := _, guard := _ }) rfl (fun K hK => ?_) ?_
  rotate_left
  · exact AllReadyH.nil
  go_simp
  refine (HC2.out _).mono ?_; rintro e vb2 ⟨rfl, hb⟩; have Xb2 := blkOld Xb1 hb; have Yb2 := joinB Yb1 hb; try clear hSn
  have hSn := Xb2
  clear hb
  refine hK.out _ _ ?_ (fun hHeld => ?_)
  · first | exact hSn | exact Xb0
  clear hK K
  try simp only [Act.put, List.setIfInBounds_toArray, List.set_cons_zero, List.set_cons_succ]
  refine wpAnyH_take (i := 6) (oi := { dst := some 10, op := _, type := _, pos := _, after := _, guard := _ }) (v := ?_) rfl (by kernel_rfl) (by kernel_rfl) (by kernel_rfl) (fun _ _ _ h => h) (Or.inl ⟨by rfl, ?_⟩) (by assumption) ?_
  rotate_left
  · intro u hSu; have hSv := blkCell hSu; clear hSu; go_simp; (try with_reducible rfl)
  try simp only [Act.put, List.setIfInBounds_toArray, List.set_cons_zero, List.set_cons_succ]
  refine wpAnyH_ready (rs := [9]) (by kernel_rfl) (by simp) ?_
  refine AllReadyH.cons (o := { dst := some 13, op := _, type := _, pos := _, after := _, guard := _ }) rfl (fun K hK => ?_) ?_
  rotate_left
  · exact AllReadyH.nil
  go_simp
  refine (HC3.out _).mono ?_; rintro e vb3 ⟨rfl, hb⟩; have Xb3 := blkOld Xb2 hb; have Yb3 := joinB Yb2 hb; try clear hSn
  have hSn := Xb3
  clear hb
  refine hK.out _ _ ?_ (fun hHeld => ?_)
  · first | exact hSn | exact Xb0
  clear hK K
  try simp only [Act.put, List.setIfInBounds_toArray, List.set_cons_zero, List.set_cons_succ]
  refine wpAnyH_take (i := 10) (oi := { dst := some 14, op := _, type := _, pos := _, after := _, guard := _ }) (v := ?_) rfl (by kernel_rfl) (by kernel_rfl) (by kernel_rfl) (fun _ _ _ h => h) (Or.inl ⟨by rfl, ?_⟩) (by assumption) ?_
  rotate_left
  · intro u hSu; have hSv := blkCell hSu; clear hSu; go_simp; (try with_reducible rfl)
  try simp only [Act.put, List.setIfInBounds_toArray, List.set_cons_zero, List.set_cons_succ]
  refine wpAnyH_ready (rs := [13]) (by kernel_rfl) (by simp) ?_
  refine AllReadyH.cons (o := { dst := some 17, op := _, type := _, pos := _, after := _, guard := _ }) rfl (fun K hK => ?_) ?_
  rotate_left
  · exact AllReadyH.nil
  go_simp
  refine (HC4.out _).mono ?_; rintro e vb4 ⟨rfl, hb⟩; have Xb4 := blkOld Xb3 hb; have Yb4 := joinB Yb3 hb; try clear hSn
  have hSn := Xb4
  clear hb
  refine hK.out _ _ ?_ (fun hHeld => ?_)
  · first | exact hSn | exact Xb0
  clear hK K
  try simp only [Act.put, List.setIfInBounds_toArray, List.set_cons_zero, List.set_cons_succ]
  refine wpAnyH_take (i := 14) (oi := { dst := some 18, op := _, type := _, pos := _, after := _, guard := _ }) (v := ?_) rfl (by kernel_rfl) (by kernel_rfl) (by kernel_rfl) (fun _ _ _ h => h) (Or.inl ⟨by rfl, ?_⟩) (by assumption) ?_
  rotate_left
  · intro u hSu; have hSv := blkCell hSu; clear hSu; go_simp; (try with_reducible rfl)
  try simp only [Act.put, List.setIfInBounds_toArray, List.set_cons_zero, List.set_cons_succ]
  refine wpAnyH_take (i := 15) (oi := { dst := some 3, op := _, type := _, pos := _, after := _, guard := _ }) (v := ?_) rfl (by kernel_rfl) (by kernel_rfl) (by kernel_rfl) (fun _ _ _ h => h) (Or.inl ⟨by rfl, ?_⟩) (by assumption) ?_
  rotate_left
  · intro u hSu; have hSv := blkCell hSu; clear hSu; go_simp; (try with_reducible rfl)
  try simp only [Act.put, List.setIfInBounds_toArray, List.set_cons_zero, List.set_cons_succ]
  refine wpAnyH_done (by kernel_rfl) ?_ _
  have HX1 := Lib.hid Xb4
  have HB1 := Lib.hid Yb4
  clear hHeld hSn Xb0 Yb0 Xb1 Yb1 Xb2 Yb2 Xb3 Yb3 Xb4 Yb4
  have hcg1 := blkCell HX1.out
  go_wp2_with (go_at_call 83; (with_reducible refine (HC5.out _).mono ?_); rintro e w9 ⟨rfl, hb9⟩)
  go_ret
  exact ⟨by rw [← HE.out]; rfl, joinB HB1.out hb9⟩
set_option maxRecDepth 100000 in
set_option maxHeartbeats 4000000 in
theorem rbody_3 (lsn prev txn page next nu ok os root ep es : Int) (how : Int) (oo on ek : ByteArray) (ts : List Rc.TxnAt) (ds : List Rc.DirtyAt) (A B : Option Addr) (c d : Nat) (hoo : oo.size ≤ 65535) (hon : on.size ≤ 65535) (w : World) :
    Calls Try.prog 44 #[.agg #[.int .i64 lsn, .int .i64 prev, .int .i64 txn, .int .i64 3, .int .i64 page, .int .i64 next, .int .i64 nu, .int .i64 ok, .int .i64 os, .string oo, .string on, .int .i64 how, .int .i64 root, .string ek, .int .i64 ep, .int .i64 es, .slice A ts.length c, .slice B ds.length d]] w fun e w' => e = .returned (.string (Rc.mk (Rc.bodyB ⟨lsn, prev, txn, 3, page, next, nu, ⟨ok, os, oo, on⟩, how, root, ⟨ek, ep, es⟩, ts, ds⟩))) ∧ Below w.heap.size w w' := by
  obtain ⟨w0, hw0⟩ : ∃ W, W = w.alloc (.cells #[.int .i64 lsn, .int .i64 prev, .int .i64 txn, .int .i64 3, .int .i64 page, .int .i64 next, .int .i64 nu, .int .i64 ok, .int .i64 os, .string oo, .string on, .int .i64 how, .int .i64 root, .string ek, .int .i64 ep, .int .i64 es, .slice A ts.length c, .slice B ds.length d] 49) := ⟨_, rfl⟩
  have HB0 := Lib.hid (show Below w.heap.size w w0 from by rw [hw0]; exact allocB _ _)
  have HX0 := Lib.hid (show w0.heap[w.heap.size]? = some (.cells #[.int .i64 lsn, .int .i64 prev, .int .i64 txn, .int .i64 3, .int .i64 page, .int .i64 next, .int .i64 nu, .int .i64 ok, .int .i64 os, .string oo, .string on, .int .i64 how, .int .i64 root, .string ek, .int .i64 ep, .int .i64 es, .slice A ts.length c, .slice B ds.length d] 49 (0, 0)) from by rw [hw0]; exact heap_alloc_new _ _)
  obtain ⟨R, hR⟩ : ∃ R, R = Rc.mk (Rc.bodyB ⟨lsn, prev, txn, 3, page, next, nu, ⟨ok, os, oo, on⟩, how, root, ⟨ek, ep, es⟩, ts, ds⟩) := ⟨_, rfl⟩
  rw [← hR]
  obtain ⟨B1, hB1⟩ : ∃ b, b = Rc.mk (Rc.p 3 1) := ⟨_, rfl⟩
  have hl1 : ((Rc.p 3 1)).length = 1 := Rc.p_length _ _
  have HC1 := Lib.hid (show ∀ W, Calls Try.prog 83 #[.int .i64 3, .int .i64 1] W fun e w' => e = .returned (.string B1) ∧ Below W.heap.size W w' from fun W => by rw [hB1]; exact rput_mk 3 1 (by omega) W)
  obtain ⟨B2, hB2⟩ : ∃ b, b = Rc.mk (Rc.p lsn 6) := ⟨_, rfl⟩
  have hl2 : ((Rc.p lsn 6)).length = 6 := Rc.p_length _ _
  have HC2 := Lib.hid (show ∀ W, Calls Try.prog 83 #[.int .i64 lsn, .int .i64 6] W fun e w' => e = .returned (.string B2) ∧ Below W.heap.size W w' from fun W => by rw [hB2]; exact rput_mk lsn 6 (by omega) W)
  obtain ⟨S2, hS2⟩ : ∃ b, b = Rc.mk ((Rc.p 3 1) ++ (Rc.p lsn 6)) := ⟨_, rfl⟩
  have ha2 : ∀ W : World, (Op.stringOp .add B1 B2).run Try.prog W = .ok (.string S2) W := fun W => by rw [hB1, hB2, hS2]; exact add_mk _ _ (by (try simp only [List.length_append]); omega) W
  obtain ⟨B3, hB3⟩ : ∃ b, b = Rc.mk (Rc.p prev 6) := ⟨_, rfl⟩
  have hl3 : ((Rc.p prev 6)).length = 6 := Rc.p_length _ _
  have HC3 := Lib.hid (show ∀ W, Calls Try.prog 83 #[.int .i64 prev, .int .i64 6] W fun e w' => e = .returned (.string B3) ∧ Below W.heap.size W w' from fun W => by rw [hB3]; exact rput_mk prev 6 (by omega) W)
  obtain ⟨S3, hS3⟩ : ∃ b, b = Rc.mk (((Rc.p 3 1) ++ (Rc.p lsn 6)) ++ (Rc.p prev 6)) := ⟨_, rfl⟩
  have ha3 : ∀ W : World, (Op.stringOp .add S2 B3).run Try.prog W = .ok (.string S3) W := fun W => by rw [hS2, hB3, hS3]; exact add_mk _ _ (by (try simp only [List.length_append]); omega) W
  obtain ⟨B4, hB4⟩ : ∃ b, b = Rc.mk (Rc.p txn 6) := ⟨_, rfl⟩
  have hl4 : ((Rc.p txn 6)).length = 6 := Rc.p_length _ _
  have HC4 := Lib.hid (show ∀ W, Calls Try.prog 83 #[.int .i64 txn, .int .i64 6] W fun e w' => e = .returned (.string B4) ∧ Below W.heap.size W w' from fun W => by rw [hB4]; exact rput_mk txn 6 (by omega) W)
  obtain ⟨S4, hS4⟩ : ∃ b, b = Rc.mk ((((Rc.p 3 1) ++ (Rc.p lsn 6)) ++ (Rc.p prev 6)) ++ (Rc.p txn 6)) := ⟨_, rfl⟩
  have ha4 : ∀ W : World, (Op.stringOp .add S3 B4).run Try.prog W = .ok (.string S4) W := fun W => by rw [hS3, hB4, hS4]; exact add_mk _ _ (by (try simp only [List.length_append]); omega) W
  obtain ⟨B5, hB5⟩ : ∃ b, b = Rc.mk (Rc.p page 3) := ⟨_, rfl⟩
  have hl5 : ((Rc.p page 3)).length = 3 := Rc.p_length _ _
  have HC5 := Lib.hid (show ∀ W, Calls Try.prog 83 #[.int .i64 page, .int .i64 3] W fun e w' => e = .returned (.string B5) ∧ Below W.heap.size W w' from fun W => by rw [hB5]; exact rput_mk page 3 (by omega) W)
  obtain ⟨S5, hS5⟩ : ∃ b, b = Rc.mk (((((Rc.p 3 1) ++ (Rc.p lsn 6)) ++ (Rc.p prev 6)) ++ (Rc.p txn 6)) ++ (Rc.p page 3)) := ⟨_, rfl⟩
  have ha5 : ∀ W : World, (Op.stringOp .add S4 B5).run Try.prog W = .ok (.string S5) W := fun W => by rw [hS4, hB5, hS5]; exact add_mk _ _ (by (try simp only [List.length_append]); omega) W
  obtain ⟨B6, hB6⟩ : ∃ b, b = Rc.mk (Rc.opB ⟨ok, os, oo, on⟩) := ⟨_, rfl⟩
  have hl6 : ((Rc.opB ⟨ok, os, oo, on⟩)).length ≤ 140000 := by unfold Rc.opB; simp only [List.length_append, Rc.p_length, Rc.t_len]; omega
  have HC6 := Lib.hid (show ∀ W, Calls Try.prog 84 #[.agg #[.int .i64 ok, .int .i64 os, .string oo, .string on]] W fun e w' => e = .returned (.string B6) ∧ Below W.heap.size W w' from fun W => by rw [hB6]; exact ropb_any ⟨ok, os, oo, on⟩ hoo hon W)
  obtain ⟨S6, hS6⟩ : ∃ b, b = Rc.mk ((((((Rc.p 3 1) ++ (Rc.p lsn 6)) ++ (Rc.p prev 6)) ++ (Rc.p txn 6)) ++ (Rc.p page 3)) ++ (Rc.opB ⟨ok, os, oo, on⟩)) := ⟨_, rfl⟩
  have ha6 : ∀ W : World, (Op.stringOp .add S5 B6).run Try.prog W = .ok (.string S6) W := fun W => by rw [hS5, hB6, hS6]; exact add_mk _ _ (by (try simp only [List.length_append]); omega) W
  obtain ⟨B7, hB7⟩ : ∃ b, b = Rc.mk (Rc.p next 6) := ⟨_, rfl⟩
  have hl7 : ((Rc.p next 6)).length = 6 := Rc.p_length _ _
  have HC7 := Lib.hid (show ∀ W, Calls Try.prog 83 #[.int .i64 next, .int .i64 6] W fun e w' => e = .returned (.string B7) ∧ Below W.heap.size W w' from fun W => by rw [hB7]; exact rput_mk next 6 (by omega) W)
  obtain ⟨S7, hS7⟩ : ∃ b, b = Rc.mk (((((((Rc.p 3 1) ++ (Rc.p lsn 6)) ++ (Rc.p prev 6)) ++ (Rc.p txn 6)) ++ (Rc.p page 3)) ++ (Rc.opB ⟨ok, os, oo, on⟩)) ++ (Rc.p next 6)) := ⟨_, rfl⟩
  have ha7 : ∀ W : World, (Op.stringOp .add S6 B7).run Try.prog W = .ok (.string S7) W := fun W => by rw [hS6, hB7, hS7]; exact add_mk _ _ (by (try simp only [List.length_append]); omega) W
  have HE := Lib.hid (show S7 = R from by rw [hS7, hR]; (congr 1) <;> (unfold Rc.bodyB; rw [Rc.restB_3 rfl]; unfold Rc.headB; simp only [List.append_assoc]))
  clear hB1 hl1
  clear hB2 hl2
  clear hB3 hl3
  clear hB4 hl4
  clear hB5 hl5
  clear hB6 hl6
  clear hB7 hl7
  clear hS2
  clear hS3
  clear hS4
  clear hS5
  clear hS6
  clear hS7
  clear hR
  go_enter Try.func44, Try.ntmps44
  go_upto_region 1 with fail
  rw [← hw0]
  clear hw0
  obtain ⟨g, hg⟩ : ∃ g, g = w.heap.size := ⟨_, rfl⟩
  rw [← hg] at HX0
  rw [← hg]
  clear hg
  go_upto_region 1 with fail
  have Xb0 := blkOld HX0.out (Below.refl _ w0).drew
  have Yb0 := joinB HB0.out (Below.refl _ w0).drew
  refine wp_region_held_drew (S := (fun u => u.heap[g]? = some (.cells #[.int .i64 lsn, .int .i64 prev, .int .i64 txn, .int .i64 3, .int .i64 page, .int .i64 next, .int .i64 nu, .int .i64 ok, .int .i64 os, .string oo, .string on, .int .i64 how, .int .i64 root, .string ek, .int .i64 ep, .int .i64 es, .slice A ts.length c, .slice B ds.length d] 49 (0, 0)))) (by kernel_rfl) ?_ (fun hHeld => ?_)
  · first | exact hSn | exact Xb0
  refine wpAnyH_take (i := 0) (oi := { dst := some 4, op := _, type := _, pos := _, after := _, guard := _ }) (v := ?_) rfl (by kernel_rfl) (by kernel_rfl) (by kernel_rfl) (fun _ _ _ h => h) (Or.inl ⟨by rfl, ?_⟩) (by assumption) ?_
  rotate_left
  · intro u hSu; have hSv := blkCell hSu; clear hSu; go_simp; (try with_reducible rfl)
  try simp only [Act.put, List.setIfInBounds_toArray, List.set_cons_zero, List.set_cons_succ]
  refine wpAnyH_take (i := 1) (oi := { dst := some 5, op := _, type := _, pos := _, after := _, guard := _ }) (v := ?_) rfl (by kernel_rfl) (by kernel_rfl) (by kernel_rfl) (fun _ _ _ h => h) (Or.inl ⟨by rfl, ?_⟩) (by assumption) ?_
  rotate_left
  · intro u hSu; have hSv := blkCell hSu; clear hSu; go_simp; (try with_reducible rfl)
  try simp only [Act.put, List.setIfInBounds_toArray, List.set_cons_zero, List.set_cons_succ]
  refine wpAnyH_take (i := 3) (oi := { dst := some 7, op := _, type := _, pos := _, after := _, guard := _ }) (v := ?_) rfl (by kernel_rfl) (by kernel_rfl) (by kernel_rfl) (fun _ _ _ h => h) (Or.inl ⟨by rfl, ?_⟩) (by assumption) ?_
  rotate_left
  · intro u hSu; have hSv := blkCell hSu; clear hSu; go_simp; (try with_reducible rfl)
  try simp only [Act.put, List.setIfInBounds_toArray, List.set_cons_zero, List.set_cons_succ]
  refine wpAnyH_take (i := 4) (oi := { dst := some 8, op := _, type := _, pos := _, after := _, guard := _ }) (v := ?_) rfl (by kernel_rfl) (by kernel_rfl) (by kernel_rfl) (fun _ _ _ h => h) (Or.inl ⟨by rfl, ?_⟩) (by assumption) ?_
  rotate_left
  · intro u hSu; have hSv := blkCell hSu; clear hSu; go_simp; (try with_reducible rfl)
  try simp only [Act.put, List.setIfInBounds_toArray, List.set_cons_zero, List.set_cons_succ]
  refine wpAnyH_take (i := 7) (oi := { dst := some 11, op := _, type := _, pos := _, after := _, guard := _ }) (v := ?_) rfl (by kernel_rfl) (by kernel_rfl) (by kernel_rfl) (fun _ _ _ h => h) (Or.inl ⟨by rfl, ?_⟩) (by assumption) ?_
  rotate_left
  · intro u hSu; have hSv := blkCell hSu; clear hSu; go_simp; (try with_reducible rfl)
  try simp only [Act.put, List.setIfInBounds_toArray, List.set_cons_zero, List.set_cons_succ]
  refine wpAnyH_take (i := 8) (oi := { dst := some 12, op := _, type := _, pos := _, after := _, guard := _ }) (v := ?_) rfl (by kernel_rfl) (by kernel_rfl) (by kernel_rfl) (fun _ _ _ h => h) (Or.inl ⟨by rfl, ?_⟩) (by assumption) ?_
  rotate_left
  · intro u hSu; have hSv := blkCell hSu; clear hSu; go_simp; (try with_reducible rfl)
  try simp only [Act.put, List.setIfInBounds_toArray, List.set_cons_zero, List.set_cons_succ]
  refine wpAnyH_take (i := 11) (oi := { dst := some 15, op := _, type := _, pos := _, after := _, guard := _ }) (v := ?_) rfl (by kernel_rfl) (by kernel_rfl) (by kernel_rfl) (fun _ _ _ h => h) (Or.inl ⟨by rfl, ?_⟩) (by assumption) ?_
  rotate_left
  · intro u hSu; have hSv := blkCell hSu; clear hSu; go_simp; (try with_reducible rfl)
  try simp only [Act.put, List.setIfInBounds_toArray, List.set_cons_zero, List.set_cons_succ]
  refine wpAnyH_take (i := 12) (oi := { dst := some 16, op := _, type := _, pos := _, after := _, guard := _ }) (v := ?_) rfl (by kernel_rfl) (by kernel_rfl) (by kernel_rfl) (fun _ _ _ h => h) (Or.inl ⟨by rfl, ?_⟩) (by assumption) ?_
  rotate_left
  · intro u hSu; have hSv := blkCell hSu; clear hSu; go_simp; (try with_reducible rfl)
  try simp only [Act.put, List.setIfInBounds_toArray, List.set_cons_zero, List.set_cons_succ]
  refine wpAnyH_ready (rs := [2]) (by kernel_rfl) (by simp) ?_
  refine AllReadyH.cons (o := { dst := some 6, op := _, type := _, pos := _, after := _, guard := _ }) rfl (fun K hK => ?_) ?_
  rotate_left
  · exact AllReadyH.nil
  go_simp
  refine (HC1.out _).mono ?_; rintro e vb1 ⟨rfl, hb⟩; have Xb1 := blkOld Xb0 hb; have Yb1 := joinB Yb0 hb; try clear hSn
  have hSn := Xb1
  clear hb
  refine hK.out _ _ ?_ (fun hHeld => ?_)
  · first | exact hSn | exact Xb0
  clear hK K
  try simp only [Act.put, List.setIfInBounds_toArray, List.set_cons_zero, List.set_cons_succ]
  refine wpAnyH_ready (rs := [5]) (by kernel_rfl) (by simp) ?_
  refine AllReadyH.cons (o := { dst := some 9, op := _, type := _, pos := _, after := _, guard := _ }) rfl (fun K hK => ?_) ?_
  rotate_left
  · exact AllReadyH.nil
  go_simp
  refine (HC2.out _).mono ?_; rintro e vb2 ⟨rfl, hb⟩; have Xb2 := blkOld Xb1 hb; have Yb2 := joinB Yb1 hb; try clear hSn
  have hSn := Xb2
  clear hb
  refine hK.out _ _ ?_ (fun hHeld => ?_)
  · first | exact hSn | exact Xb0
  clear hK K
  try simp only [Act.put, List.setIfInBounds_toArray, List.set_cons_zero, List.set_cons_succ]
  refine wpAnyH_take (i := 6) (oi := { dst := some 10, op := _, type := _, pos := _, after := _, guard := _ }) (v := ?_) rfl (by kernel_rfl) (by kernel_rfl) (by kernel_rfl) (fun _ _ _ h => h) (Or.inl ⟨by rfl, ?_⟩) (by assumption) ?_
  rotate_left
  · intro u hSu; have hSv := blkCell hSu; clear hSu; go_simp; (try with_reducible rfl)
  try simp only [Act.put, List.setIfInBounds_toArray, List.set_cons_zero, List.set_cons_succ]
  refine wpAnyH_ready (rs := [9]) (by kernel_rfl) (by simp) ?_
  refine AllReadyH.cons (o := { dst := some 13, op := _, type := _, pos := _, after := _, guard := _ }) rfl (fun K hK => ?_) ?_
  rotate_left
  · exact AllReadyH.nil
  go_simp
  refine (HC3.out _).mono ?_; rintro e vb3 ⟨rfl, hb⟩; have Xb3 := blkOld Xb2 hb; have Yb3 := joinB Yb2 hb; try clear hSn
  have hSn := Xb3
  clear hb
  refine hK.out _ _ ?_ (fun hHeld => ?_)
  · first | exact hSn | exact Xb0
  clear hK K
  try simp only [Act.put, List.setIfInBounds_toArray, List.set_cons_zero, List.set_cons_succ]
  refine wpAnyH_take (i := 10) (oi := { dst := some 14, op := _, type := _, pos := _, after := _, guard := _ }) (v := ?_) rfl (by kernel_rfl) (by kernel_rfl) (by kernel_rfl) (fun _ _ _ h => h) (Or.inl ⟨by rfl, ?_⟩) (by assumption) ?_
  rotate_left
  · intro u hSu; have hSv := blkCell hSu; clear hSu; go_simp; (try with_reducible rfl)
  try simp only [Act.put, List.setIfInBounds_toArray, List.set_cons_zero, List.set_cons_succ]
  refine wpAnyH_ready (rs := [13]) (by kernel_rfl) (by simp) ?_
  refine AllReadyH.cons (o := { dst := some 17, op := _, type := _, pos := _, after := _, guard := _ }) rfl (fun K hK => ?_) ?_
  rotate_left
  · exact AllReadyH.nil
  go_simp
  refine (HC4.out _).mono ?_; rintro e vb4 ⟨rfl, hb⟩; have Xb4 := blkOld Xb3 hb; have Yb4 := joinB Yb3 hb; try clear hSn
  have hSn := Xb4
  clear hb
  refine hK.out _ _ ?_ (fun hHeld => ?_)
  · first | exact hSn | exact Xb0
  clear hK K
  try simp only [Act.put, List.setIfInBounds_toArray, List.set_cons_zero, List.set_cons_succ]
  refine wpAnyH_take (i := 14) (oi := { dst := some 18, op := _, type := _, pos := _, after := _, guard := _ }) (v := ?_) rfl (by kernel_rfl) (by kernel_rfl) (by kernel_rfl) (fun _ _ _ h => h) (Or.inl ⟨by rfl, ?_⟩) (by assumption) ?_
  rotate_left
  · intro u hSu; have hSv := blkCell hSu; clear hSu; go_simp; (try with_reducible rfl)
  try simp only [Act.put, List.setIfInBounds_toArray, List.set_cons_zero, List.set_cons_succ]
  refine wpAnyH_take (i := 15) (oi := { dst := some 3, op := _, type := _, pos := _, after := _, guard := _ }) (v := ?_) rfl (by kernel_rfl) (by kernel_rfl) (by kernel_rfl) (fun _ _ _ h => h) (Or.inl ⟨by rfl, ?_⟩) (by assumption) ?_
  rotate_left
  · intro u hSu; have hSv := blkCell hSu; clear hSu; go_simp; (try with_reducible rfl)
  try simp only [Act.put, List.setIfInBounds_toArray, List.set_cons_zero, List.set_cons_succ]
  refine wpAnyH_done (by kernel_rfl) ?_ _
  have HX1 := Lib.hid Xb4
  have HB1 := Lib.hid Yb4
  clear hHeld hSn Xb0 Yb0 Xb1 Yb1 Xb2 Yb2 Xb3 Yb3 Xb4 Yb4
  have hcg1 := blkCell HX1.out
  go_upto_region 9 with fail
  have Xc0 := blkOld HX1.out (Below.refl _ vb4).drew
  have Yc0 := joinB HB1.out (Below.refl _ vb4).drew
  refine wp_region_held_drew (S := (fun u => u.heap[g]? = some (.cells #[.int .i64 lsn, .int .i64 prev, .int .i64 txn, .int .i64 3, .int .i64 page, .int .i64 next, .int .i64 nu, .int .i64 ok, .int .i64 os, .string oo, .string on, .int .i64 how, .int .i64 root, .string ek, .int .i64 ep, .int .i64 es, .slice A ts.length c, .slice B ds.length d] 49 (0, 0)))) (by kernel_rfl) ?_ (fun hHeld => ?_)
  · first | exact hSn | exact Xc0
  refine wpAnyH_take (i := 0) (oi := { dst := some 64, op := _, type := _, pos := _, after := _, guard := _ }) (v := ?_) rfl (by kernel_rfl) (by kernel_rfl) (by kernel_rfl) (fun _ _ _ h => h) (Or.inl ⟨by rfl, ?_⟩) (by assumption) ?_
  rotate_left
  · intro u hSu; have hSv := blkCell hSu; clear hSu; go_simp; (try with_reducible rfl)
  try simp only [Act.put, List.setIfInBounds_toArray, List.set_cons_zero, List.set_cons_succ]
  refine wpAnyH_take (i := 1) (oi := { dst := some 65, op := _, type := _, pos := _, after := _, guard := _ }) (v := ?_) rfl (by kernel_rfl) (by kernel_rfl) (by kernel_rfl) (fun _ _ _ h => h) (Or.inl ⟨by rfl, ?_⟩) (by assumption) ?_
  rotate_left
  · intro u hSu; have hSv := blkCell hSu; clear hSu; go_simp; (try with_reducible rfl)
  try simp only [Act.put, List.setIfInBounds_toArray, List.set_cons_zero, List.set_cons_succ]
  refine wpAnyH_take (i := 2) (oi := { dst := some 66, op := _, type := _, pos := _, after := _, guard := _ }) (v := ?_) rfl (by kernel_rfl) (by kernel_rfl) (by kernel_rfl) (fun _ _ _ h => h) (Or.inl ⟨by rfl, ?_⟩) (by assumption) ?_
  rotate_left
  · intro u hSu; have hSv := blkCell hSu; clear hSu; go_simp; (try with_reducible rfl)
  try simp only [Act.put, List.setIfInBounds_toArray, List.set_cons_zero, List.set_cons_succ]
  refine wpAnyH_take (i := 5) (oi := { dst := some 69, op := _, type := _, pos := _, after := _, guard := _ }) (v := ?_) rfl (by kernel_rfl) (by kernel_rfl) (by kernel_rfl) (fun _ _ _ h => h) (Or.inl ⟨by rfl, ?_⟩) (by assumption) ?_
  rotate_left
  · intro u hSu; have hSv := blkCell hSu; clear hSu; go_simp; (try with_reducible rfl)
  try simp only [Act.put, List.setIfInBounds_toArray, List.set_cons_zero, List.set_cons_succ]
  refine wpAnyH_take (i := 6) (oi := { dst := some 70, op := _, type := _, pos := _, after := _, guard := _ }) (v := ?_) rfl (by kernel_rfl) (by kernel_rfl) (by kernel_rfl) (fun _ _ _ h => h) (Or.inl ⟨by rfl, ?_⟩) (by assumption) ?_
  rotate_left
  · intro u hSu; have hSv := blkCell hSu; clear hSu; go_simp; (try with_reducible rfl)
  try simp only [Act.put, List.setIfInBounds_toArray, List.set_cons_zero, List.set_cons_succ]
  refine wpAnyH_take (i := 9) (oi := { dst := some 73, op := _, type := _, pos := _, after := _, guard := _ }) (v := ?_) rfl (by kernel_rfl) (by kernel_rfl) (by kernel_rfl) (fun _ _ _ h => h) (Or.inl ⟨by rfl, ?_⟩) (by assumption) ?_
  rotate_left
  · intro u hSu; have hSv := blkCell hSu; clear hSu; go_simp; (try with_reducible rfl)
  try simp only [Act.put, List.setIfInBounds_toArray, List.set_cons_zero, List.set_cons_succ]
  refine wpAnyH_take (i := 10) (oi := { dst := some 74, op := _, type := _, pos := _, after := _, guard := _ }) (v := ?_) rfl (by kernel_rfl) (by kernel_rfl) (by kernel_rfl) (fun _ _ _ h => h) (Or.inl ⟨by rfl, ?_⟩) (by assumption) ?_
  rotate_left
  · intro u hSu; have hSv := blkCell hSu; clear hSu; go_simp; (try with_reducible rfl)
  try simp only [Act.put, List.setIfInBounds_toArray, List.set_cons_zero, List.set_cons_succ]
  refine wpAnyH_ready (rs := [3]) (by kernel_rfl) (by simp) ?_
  refine AllReadyH.cons (o := { dst := some 67, op := _, type := _, pos := _, after := _, guard := _ }) rfl (fun K hK => ?_) ?_
  rotate_left
  · exact AllReadyH.nil
  go_simp
  refine (HC5.out _).mono ?_; rintro e vc1 ⟨rfl, hb⟩; have Xc1 := blkOld Xc0 hb; have Yc1 := joinB Yc0 hb; try clear hSn
  have hSn := Xc1
  clear hb
  refine hK.out _ _ ?_ (fun hHeld => ?_)
  · first | exact hSn | exact Xc0
  clear hK K
  try simp only [Act.put, List.setIfInBounds_toArray, List.set_cons_zero, List.set_cons_succ]
  refine wpAnyH_take (i := 4) (oi := { dst := some 68, op := _, type := _, pos := _, after := _, guard := _ }) (v := ?_) rfl (by kernel_rfl) (by kernel_rfl) (by kernel_rfl) (fun _ _ _ h => h) (Or.inl ⟨by rfl, ?_⟩) (by assumption) ?_
  rotate_left
  · intro u hSu; have hSv := blkCell hSu; clear hSu; go_simp; (try with_reducible rfl)
  try simp only [Act.put, List.setIfInBounds_toArray, List.set_cons_zero, List.set_cons_succ]
  refine wpAnyH_ready (rs := [7]) (by kernel_rfl) (by simp) ?_
  refine AllReadyH.cons (o := { dst := some 71, op := _, type := _, pos := _, after := _, guard := _ }) rfl (fun K hK => ?_) ?_
  rotate_left
  · exact AllReadyH.nil
  go_simp
  refine (HC6.out _).mono ?_; rintro e vc2 ⟨rfl, hb⟩; have Xc2 := blkOld Xc1 hb; have Yc2 := joinB Yc1 hb; try clear hSn
  have hSn := Xc2
  clear hb
  refine hK.out _ _ ?_ (fun hHeld => ?_)
  · first | exact hSn | exact Xc0
  clear hK K
  try simp only [Act.put, List.setIfInBounds_toArray, List.set_cons_zero, List.set_cons_succ]
  refine wpAnyH_take (i := 8) (oi := { dst := some 72, op := _, type := _, pos := _, after := _, guard := _ }) (v := ?_) rfl (by kernel_rfl) (by kernel_rfl) (by kernel_rfl) (fun _ _ _ h => h) (Or.inl ⟨by rfl, ?_⟩) (by assumption) ?_
  rotate_left
  · intro u hSu; have hSv := blkCell hSu; clear hSu; go_simp; (try with_reducible rfl)
  try simp only [Act.put, List.setIfInBounds_toArray, List.set_cons_zero, List.set_cons_succ]
  refine wpAnyH_ready (rs := [11]) (by kernel_rfl) (by simp) ?_
  refine AllReadyH.cons (o := { dst := some 75, op := _, type := _, pos := _, after := _, guard := _ }) rfl (fun K hK => ?_) ?_
  rotate_left
  · exact AllReadyH.nil
  go_simp
  refine (HC7.out _).mono ?_; rintro e vc3 ⟨rfl, hb⟩; have Xc3 := blkOld Xc2 hb; have Yc3 := joinB Yc2 hb; try clear hSn
  have hSn := Xc3
  clear hb
  refine hK.out _ _ ?_ (fun hHeld => ?_)
  · first | exact hSn | exact Xc0
  clear hK K
  try simp only [Act.put, List.setIfInBounds_toArray, List.set_cons_zero, List.set_cons_succ]
  refine wpAnyH_take (i := 12) (oi := { dst := some 76, op := _, type := _, pos := _, after := _, guard := _ }) (v := ?_) rfl (by kernel_rfl) (by kernel_rfl) (by kernel_rfl) (fun _ _ _ h => h) (Or.inl ⟨by rfl, ?_⟩) (by assumption) ?_
  rotate_left
  · intro u hSu; have hSv := blkCell hSu; clear hSu; go_simp; (try with_reducible rfl)
  try simp only [Act.put, List.setIfInBounds_toArray, List.set_cons_zero, List.set_cons_succ]
  refine wpAnyH_take (i := 13) (oi := { dst := some 2, op := _, type := _, pos := _, after := _, guard := _ }) (v := ?_) rfl (by kernel_rfl) (by kernel_rfl) (by kernel_rfl) (fun _ _ _ h => h) (Or.inl ⟨by rfl, ?_⟩) (by assumption) ?_
  rotate_left
  · intro u hSu; have hSv := blkCell hSu; clear hSu; go_simp; (try with_reducible rfl)
  try simp only [Act.put, List.setIfInBounds_toArray, List.set_cons_zero, List.set_cons_succ]
  refine wpAnyH_done (by kernel_rfl) ?_ _
  have HX2 := Lib.hid Xc3
  have HB2 := Lib.hid Yc3
  clear hHeld hSn Xc0 Yc0 Xc1 Yc1 Xc2 Yc2 Xc3 Yc3
  have hcg2 := blkCell HX2.out
  go_wp2_with fail
  go_ret
  exact ⟨by rw [← HE.out]; rfl, HB2.out⟩
set_option maxRecDepth 100000 in
set_option maxHeartbeats 4000000 in
theorem rbody_2 (lsn prev txn page next nu ok os root ep es : Int) (how : Int) (oo on ek : ByteArray) (ts : List Rc.TxnAt) (ds : List Rc.DirtyAt) (A B : Option Addr) (c d : Nat) (hoo : oo.size ≤ 65535) (hon : on.size ≤ 65535) (hek : ek.size ≤ 65535) (hh : ¬ how = 1) (w : World) :
    Calls Try.prog 44 #[.agg #[.int .i64 lsn, .int .i64 prev, .int .i64 txn, .int .i64 2, .int .i64 page, .int .i64 next, .int .i64 nu, .int .i64 ok, .int .i64 os, .string oo, .string on, .int .i64 how, .int .i64 root, .string ek, .int .i64 ep, .int .i64 es, .slice A ts.length c, .slice B ds.length d]] w fun e w' => e = .returned (.string (Rc.mk (Rc.bodyB ⟨lsn, prev, txn, 2, page, next, nu, ⟨ok, os, oo, on⟩, how, root, ⟨ek, ep, es⟩, ts, ds⟩))) ∧ Below w.heap.size w w' := by
  obtain ⟨w0, hw0⟩ : ∃ W, W = w.alloc (.cells #[.int .i64 lsn, .int .i64 prev, .int .i64 txn, .int .i64 2, .int .i64 page, .int .i64 next, .int .i64 nu, .int .i64 ok, .int .i64 os, .string oo, .string on, .int .i64 how, .int .i64 root, .string ek, .int .i64 ep, .int .i64 es, .slice A ts.length c, .slice B ds.length d] 49) := ⟨_, rfl⟩
  have HB0 := Lib.hid (show Below w.heap.size w w0 from by rw [hw0]; exact allocB _ _)
  have HX0 := Lib.hid (show w0.heap[w.heap.size]? = some (.cells #[.int .i64 lsn, .int .i64 prev, .int .i64 txn, .int .i64 2, .int .i64 page, .int .i64 next, .int .i64 nu, .int .i64 ok, .int .i64 os, .string oo, .string on, .int .i64 how, .int .i64 root, .string ek, .int .i64 ep, .int .i64 es, .slice A ts.length c, .slice B ds.length d] 49 (0, 0)) from by rw [hw0]; exact heap_alloc_new _ _)
  obtain ⟨R, hR⟩ : ∃ R, R = Rc.mk (Rc.bodyB ⟨lsn, prev, txn, 2, page, next, nu, ⟨ok, os, oo, on⟩, how, root, ⟨ek, ep, es⟩, ts, ds⟩) := ⟨_, rfl⟩
  rw [← hR]
  obtain ⟨B1, hB1⟩ : ∃ b, b = Rc.mk (Rc.p 2 1) := ⟨_, rfl⟩
  have hl1 : ((Rc.p 2 1)).length = 1 := Rc.p_length _ _
  have HC1 := Lib.hid (show ∀ W, Calls Try.prog 83 #[.int .i64 2, .int .i64 1] W fun e w' => e = .returned (.string B1) ∧ Below W.heap.size W w' from fun W => by rw [hB1]; exact rput_mk 2 1 (by omega) W)
  obtain ⟨B2, hB2⟩ : ∃ b, b = Rc.mk (Rc.p lsn 6) := ⟨_, rfl⟩
  have hl2 : ((Rc.p lsn 6)).length = 6 := Rc.p_length _ _
  have HC2 := Lib.hid (show ∀ W, Calls Try.prog 83 #[.int .i64 lsn, .int .i64 6] W fun e w' => e = .returned (.string B2) ∧ Below W.heap.size W w' from fun W => by rw [hB2]; exact rput_mk lsn 6 (by omega) W)
  obtain ⟨S2, hS2⟩ : ∃ b, b = Rc.mk ((Rc.p 2 1) ++ (Rc.p lsn 6)) := ⟨_, rfl⟩
  have ha2 : ∀ W : World, (Op.stringOp .add B1 B2).run Try.prog W = .ok (.string S2) W := fun W => by rw [hB1, hB2, hS2]; exact add_mk _ _ (by (try simp only [List.length_append]); omega) W
  obtain ⟨B3, hB3⟩ : ∃ b, b = Rc.mk (Rc.p prev 6) := ⟨_, rfl⟩
  have hl3 : ((Rc.p prev 6)).length = 6 := Rc.p_length _ _
  have HC3 := Lib.hid (show ∀ W, Calls Try.prog 83 #[.int .i64 prev, .int .i64 6] W fun e w' => e = .returned (.string B3) ∧ Below W.heap.size W w' from fun W => by rw [hB3]; exact rput_mk prev 6 (by omega) W)
  obtain ⟨S3, hS3⟩ : ∃ b, b = Rc.mk (((Rc.p 2 1) ++ (Rc.p lsn 6)) ++ (Rc.p prev 6)) := ⟨_, rfl⟩
  have ha3 : ∀ W : World, (Op.stringOp .add S2 B3).run Try.prog W = .ok (.string S3) W := fun W => by rw [hS2, hB3, hS3]; exact add_mk _ _ (by (try simp only [List.length_append]); omega) W
  obtain ⟨B4, hB4⟩ : ∃ b, b = Rc.mk (Rc.p txn 6) := ⟨_, rfl⟩
  have hl4 : ((Rc.p txn 6)).length = 6 := Rc.p_length _ _
  have HC4 := Lib.hid (show ∀ W, Calls Try.prog 83 #[.int .i64 txn, .int .i64 6] W fun e w' => e = .returned (.string B4) ∧ Below W.heap.size W w' from fun W => by rw [hB4]; exact rput_mk txn 6 (by omega) W)
  obtain ⟨S4, hS4⟩ : ∃ b, b = Rc.mk ((((Rc.p 2 1) ++ (Rc.p lsn 6)) ++ (Rc.p prev 6)) ++ (Rc.p txn 6)) := ⟨_, rfl⟩
  have ha4 : ∀ W : World, (Op.stringOp .add S3 B4).run Try.prog W = .ok (.string S4) W := fun W => by rw [hS3, hB4, hS4]; exact add_mk _ _ (by (try simp only [List.length_append]); omega) W
  obtain ⟨B5, hB5⟩ : ∃ b, b = Rc.mk (Rc.p page 3) := ⟨_, rfl⟩
  have hl5 : ((Rc.p page 3)).length = 3 := Rc.p_length _ _
  have HC5 := Lib.hid (show ∀ W, Calls Try.prog 83 #[.int .i64 page, .int .i64 3] W fun e w' => e = .returned (.string B5) ∧ Below W.heap.size W w' from fun W => by rw [hB5]; exact rput_mk page 3 (by omega) W)
  obtain ⟨S5, hS5⟩ : ∃ b, b = Rc.mk (((((Rc.p 2 1) ++ (Rc.p lsn 6)) ++ (Rc.p prev 6)) ++ (Rc.p txn 6)) ++ (Rc.p page 3)) := ⟨_, rfl⟩
  have ha5 : ∀ W : World, (Op.stringOp .add S4 B5).run Try.prog W = .ok (.string S5) W := fun W => by rw [hS4, hB5, hS5]; exact add_mk _ _ (by (try simp only [List.length_append]); omega) W
  obtain ⟨B6, hB6⟩ : ∃ b, b = Rc.mk (Rc.opB ⟨ok, os, oo, on⟩) := ⟨_, rfl⟩
  have hl6 : ((Rc.opB ⟨ok, os, oo, on⟩)).length ≤ 140000 := by unfold Rc.opB; simp only [List.length_append, Rc.p_length, Rc.t_len]; omega
  have HC6 := Lib.hid (show ∀ W, Calls Try.prog 84 #[.agg #[.int .i64 ok, .int .i64 os, .string oo, .string on]] W fun e w' => e = .returned (.string B6) ∧ Below W.heap.size W w' from fun W => by rw [hB6]; exact ropb_any ⟨ok, os, oo, on⟩ hoo hon W)
  obtain ⟨S6, hS6⟩ : ∃ b, b = Rc.mk ((((((Rc.p 2 1) ++ (Rc.p lsn 6)) ++ (Rc.p prev 6)) ++ (Rc.p txn 6)) ++ (Rc.p page 3)) ++ (Rc.opB ⟨ok, os, oo, on⟩)) := ⟨_, rfl⟩
  have ha6 : ∀ W : World, (Op.stringOp .add S5 B6).run Try.prog W = .ok (.string S6) W := fun W => by rw [hS5, hB6, hS6]; exact add_mk _ _ (by (try simp only [List.length_append]); omega) W
  obtain ⟨B7, hB7⟩ : ∃ b, b = Rc.mk (Rc.p how 1) := ⟨_, rfl⟩
  have hl7 : ((Rc.p how 1)).length = 1 := Rc.p_length _ _
  have HC7 := Lib.hid (show ∀ W, Calls Try.prog 83 #[.int .i64 how, .int .i64 1] W fun e w' => e = .returned (.string B7) ∧ Below W.heap.size W w' from fun W => by rw [hB7]; exact rput_mk how 1 (by omega) W)
  obtain ⟨S7, hS7⟩ : ∃ b, b = Rc.mk (((((((Rc.p 2 1) ++ (Rc.p lsn 6)) ++ (Rc.p prev 6)) ++ (Rc.p txn 6)) ++ (Rc.p page 3)) ++ (Rc.opB ⟨ok, os, oo, on⟩)) ++ (Rc.p how 1)) := ⟨_, rfl⟩
  have ha7 : ∀ W : World, (Op.stringOp .add S6 B7).run Try.prog W = .ok (.string S7) W := fun W => by rw [hS6, hB7, hS7]; exact add_mk _ _ (by (try simp only [List.length_append]); omega) W
  obtain ⟨B8, hB8⟩ : ∃ b, b = Rc.mk (Rc.p root 3) := ⟨_, rfl⟩
  have hl8 : ((Rc.p root 3)).length = 3 := Rc.p_length _ _
  have HC8 := Lib.hid (show ∀ W, Calls Try.prog 83 #[.int .i64 root, .int .i64 3] W fun e w' => e = .returned (.string B8) ∧ Below W.heap.size W w' from fun W => by rw [hB8]; exact rput_mk root 3 (by omega) W)
  obtain ⟨S8, hS8⟩ : ∃ b, b = Rc.mk ((((((((Rc.p 2 1) ++ (Rc.p lsn 6)) ++ (Rc.p prev 6)) ++ (Rc.p txn 6)) ++ (Rc.p page 3)) ++ (Rc.opB ⟨ok, os, oo, on⟩)) ++ (Rc.p how 1)) ++ (Rc.p root 3)) := ⟨_, rfl⟩
  have ha8 : ∀ W : World, (Op.stringOp .add S7 B8).run Try.prog W = .ok (.string S8) W := fun W => by rw [hS7, hB8, hS8]; exact add_mk _ _ (by (try simp only [List.length_append]); omega) W
  obtain ⟨B9, hB9⟩ : ∃ b, b = Rc.mk (Rc.p ep 3) := ⟨_, rfl⟩
  have hl9 : ((Rc.p ep 3)).length = 3 := Rc.p_length _ _
  have HC9 := Lib.hid (show ∀ W, Calls Try.prog 83 #[.int .i64 ep, .int .i64 3] W fun e w' => e = .returned (.string B9) ∧ Below W.heap.size W w' from fun W => by rw [hB9]; exact rput_mk ep 3 (by omega) W)
  obtain ⟨S9, hS9⟩ : ∃ b, b = Rc.mk (((((((((Rc.p 2 1) ++ (Rc.p lsn 6)) ++ (Rc.p prev 6)) ++ (Rc.p txn 6)) ++ (Rc.p page 3)) ++ (Rc.opB ⟨ok, os, oo, on⟩)) ++ (Rc.p how 1)) ++ (Rc.p root 3)) ++ (Rc.p ep 3)) := ⟨_, rfl⟩
  have ha9 : ∀ W : World, (Op.stringOp .add S8 B9).run Try.prog W = .ok (.string S9) W := fun W => by rw [hS8, hB9, hS9]; exact add_mk _ _ (by (try simp only [List.length_append]); omega) W
  obtain ⟨B10, hB10⟩ : ∃ b, b = Rc.mk (Rc.p es 2) := ⟨_, rfl⟩
  have hl10 : ((Rc.p es 2)).length = 2 := Rc.p_length _ _
  have HC10 := Lib.hid (show ∀ W, Calls Try.prog 83 #[.int .i64 es, .int .i64 2] W fun e w' => e = .returned (.string B10) ∧ Below W.heap.size W w' from fun W => by rw [hB10]; exact rput_mk es 2 (by omega) W)
  obtain ⟨S10, hS10⟩ : ∃ b, b = Rc.mk ((((((((((Rc.p 2 1) ++ (Rc.p lsn 6)) ++ (Rc.p prev 6)) ++ (Rc.p txn 6)) ++ (Rc.p page 3)) ++ (Rc.opB ⟨ok, os, oo, on⟩)) ++ (Rc.p how 1)) ++ (Rc.p root 3)) ++ (Rc.p ep 3)) ++ (Rc.p es 2)) := ⟨_, rfl⟩
  have ha10 : ∀ W : World, (Op.stringOp .add S9 B10).run Try.prog W = .ok (.string S10) W := fun W => by rw [hS9, hB10, hS10]; exact add_mk _ _ (by (try simp only [List.length_append]); omega) W
  obtain ⟨B11, hB11⟩ : ∃ b, b = Rc.mk (Rc.t ek) := ⟨_, rfl⟩
  have hl11 : ((Rc.t ek)).length ≤ 70000 := by rw [Rc.t_len]; omega
  have HC11 := Lib.hid (show ∀ W, Calls Try.prog 85 #[.string ek] W fun e w' => e = .returned (.string B11) ∧ Below W.heap.size W w' from fun W => by rw [hB11]; exact rputtext_any ek hek W)
  obtain ⟨S11, hS11⟩ : ∃ b, b = Rc.mk (((((((((((Rc.p 2 1) ++ (Rc.p lsn 6)) ++ (Rc.p prev 6)) ++ (Rc.p txn 6)) ++ (Rc.p page 3)) ++ (Rc.opB ⟨ok, os, oo, on⟩)) ++ (Rc.p how 1)) ++ (Rc.p root 3)) ++ (Rc.p ep 3)) ++ (Rc.p es 2)) ++ (Rc.t ek)) := ⟨_, rfl⟩
  have ha11 : ∀ W : World, (Op.stringOp .add S10 B11).run Try.prog W = .ok (.string S11) W := fun W => by rw [hS10, hB11, hS11]; exact add_mk _ _ (by (try simp only [List.length_append]); omega) W
  have hh1 : (how == 1) = false := by simpa using hh
  have HE := Lib.hid (show S11 = R from by rw [hS11, hR]; (congr 1) <;> (unfold Rc.bodyB; rw [Rc.restB_2 rfl]; unfold Rc.headB; unfold Rc.treeB; rw [if_neg hh]; simp only [List.append_assoc]))
  clear hB1 hl1
  clear hB2 hl2
  clear hB3 hl3
  clear hB4 hl4
  clear hB5 hl5
  clear hB6 hl6
  clear hB7 hl7
  clear hB8 hl8
  clear hB9 hl9
  clear hB10 hl10
  clear hB11 hl11
  clear hS2
  clear hS3
  clear hS4
  clear hS5
  clear hS6
  clear hS7
  clear hS8
  clear hS9
  clear hS10
  clear hS11
  clear hR
  go_enter Try.func44, Try.ntmps44
  go_upto_region 1 with fail
  rw [← hw0]
  clear hw0
  obtain ⟨g, hg⟩ : ∃ g, g = w.heap.size := ⟨_, rfl⟩
  rw [← hg] at HX0
  rw [← hg]
  clear hg
  go_upto_region 1 with fail
  have Xb0 := blkOld HX0.out (Below.refl _ w0).drew
  have Yb0 := joinB HB0.out (Below.refl _ w0).drew
  refine wp_region_held_drew (S := (fun u => u.heap[g]? = some (.cells #[.int .i64 lsn, .int .i64 prev, .int .i64 txn, .int .i64 2, .int .i64 page, .int .i64 next, .int .i64 nu, .int .i64 ok, .int .i64 os, .string oo, .string on, .int .i64 how, .int .i64 root, .string ek, .int .i64 ep, .int .i64 es, .slice A ts.length c, .slice B ds.length d] 49 (0, 0)))) (by kernel_rfl) ?_ (fun hHeld => ?_)
  · first | exact hSn | exact Xb0
  refine wpAnyH_take (i := 0) (oi := { dst := some 4, op := _, type := _, pos := _, after := _, guard := _ }) (v := ?_) rfl (by kernel_rfl) (by kernel_rfl) (by kernel_rfl) (fun _ _ _ h => h) (Or.inl ⟨by rfl, ?_⟩) (by assumption) ?_
  rotate_left
  · intro u hSu; have hSv := blkCell hSu; clear hSu; go_simp; (try with_reducible rfl)
  try simp only [Act.put, List.setIfInBounds_toArray, List.set_cons_zero, List.set_cons_succ]
  refine wpAnyH_take (i := 1) (oi := { dst := some 5, op := _, type := _, pos := _, after := _, guard := _ }) (v := ?_) rfl (by kernel_rfl) (by kernel_rfl) (by kernel_rfl) (fun _ _ _ h => h) (Or.inl ⟨by rfl, ?_⟩) (by assumption) ?_
  rotate_left
  · intro u hSu; have hSv := blkCell hSu; clear hSu; go_simp; (try with_reducible rfl)
  try simp only [Act.put, List.setIfInBounds_toArray, List.set_cons_zero, List.set_cons_succ]
  refine wpAnyH_take (i := 3) (oi := { dst := some 7, op := _, type := _, pos := _, after := _, guard := _ }) (v := ?_) rfl (by kernel_rfl) (by kernel_rfl) (by kernel_rfl) (fun _ _ _ h => h) (Or.inl ⟨by rfl, ?_⟩) (by assumption) ?_
  rotate_left
  · intro u hSu; have hSv := blkCell hSu; clear hSu; go_simp; (try with_reducible rfl)
  try simp only [Act.put, List.setIfInBounds_toArray, List.set_cons_zero, List.set_cons_succ]
  refine wpAnyH_take (i := 4) (oi := { dst := some 8, op := _, type := _, pos := _, after := _, guard := _ }) (v := ?_) rfl (by kernel_rfl) (by kernel_rfl) (by kernel_rfl) (fun _ _ _ h => h) (Or.inl ⟨by rfl, ?_⟩) (by assumption) ?_
  rotate_left
  · intro u hSu; have hSv := blkCell hSu; clear hSu; go_simp; (try with_reducible rfl)
  try simp only [Act.put, List.setIfInBounds_toArray, List.set_cons_zero, List.set_cons_succ]
  refine wpAnyH_take (i := 7) (oi := { dst := some 11, op := _, type := _, pos := _, after := _, guard := _ }) (v := ?_) rfl (by kernel_rfl) (by kernel_rfl) (by kernel_rfl) (fun _ _ _ h => h) (Or.inl ⟨by rfl, ?_⟩) (by assumption) ?_
  rotate_left
  · intro u hSu; have hSv := blkCell hSu; clear hSu; go_simp; (try with_reducible rfl)
  try simp only [Act.put, List.setIfInBounds_toArray, List.set_cons_zero, List.set_cons_succ]
  refine wpAnyH_take (i := 8) (oi := { dst := some 12, op := _, type := _, pos := _, after := _, guard := _ }) (v := ?_) rfl (by kernel_rfl) (by kernel_rfl) (by kernel_rfl) (fun _ _ _ h => h) (Or.inl ⟨by rfl, ?_⟩) (by assumption) ?_
  rotate_left
  · intro u hSu; have hSv := blkCell hSu; clear hSu; go_simp; (try with_reducible rfl)
  try simp only [Act.put, List.setIfInBounds_toArray, List.set_cons_zero, List.set_cons_succ]
  refine wpAnyH_take (i := 11) (oi := { dst := some 15, op := _, type := _, pos := _, after := _, guard := _ }) (v := ?_) rfl (by kernel_rfl) (by kernel_rfl) (by kernel_rfl) (fun _ _ _ h => h) (Or.inl ⟨by rfl, ?_⟩) (by assumption) ?_
  rotate_left
  · intro u hSu; have hSv := blkCell hSu; clear hSu; go_simp; (try with_reducible rfl)
  try simp only [Act.put, List.setIfInBounds_toArray, List.set_cons_zero, List.set_cons_succ]
  refine wpAnyH_take (i := 12) (oi := { dst := some 16, op := _, type := _, pos := _, after := _, guard := _ }) (v := ?_) rfl (by kernel_rfl) (by kernel_rfl) (by kernel_rfl) (fun _ _ _ h => h) (Or.inl ⟨by rfl, ?_⟩) (by assumption) ?_
  rotate_left
  · intro u hSu; have hSv := blkCell hSu; clear hSu; go_simp; (try with_reducible rfl)
  try simp only [Act.put, List.setIfInBounds_toArray, List.set_cons_zero, List.set_cons_succ]
  refine wpAnyH_ready (rs := [2]) (by kernel_rfl) (by simp) ?_
  refine AllReadyH.cons (o := { dst := some 6, op := _, type := _, pos := _, after := _, guard := _ }) rfl (fun K hK => ?_) ?_
  rotate_left
  · exact AllReadyH.nil
  go_simp
  refine (HC1.out _).mono ?_; rintro e vb1 ⟨rfl, hb⟩; have Xb1 := blkOld Xb0 hb; have Yb1 := joinB Yb0 hb; try clear hSn
  have hSn := Xb1
  clear hb
  refine hK.out _ _ ?_ (fun hHeld => ?_)
  · first | exact hSn | exact Xb0
  clear hK K
  try simp only [Act.put, List.setIfInBounds_toArray, List.set_cons_zero, List.set_cons_succ]
  refine wpAnyH_ready (rs := [5]) (by kernel_rfl) (by simp) ?_
  refine AllReadyH.cons (o := { dst := some 9, op := _, type := _, pos := _, after := _, guard := _ }) rfl (fun K hK => ?_) ?_
  rotate_left
  · exact AllReadyH.nil
  go_simp
  refine (HC2.out _).mono ?_; rintro e vb2 ⟨rfl, hb⟩; have Xb2 := blkOld Xb1 hb; have Yb2 := joinB Yb1 hb; try clear hSn
  have hSn := Xb2
  clear hb
  refine hK.out _ _ ?_ (fun hHeld => ?_)
  · first | exact hSn | exact Xb0
  clear hK K
  try simp only [Act.put, List.setIfInBounds_toArray, List.set_cons_zero, List.set_cons_succ]
  refine wpAnyH_take (i := 6) (oi := { dst := some 10, op := _, type := _, pos := _, after := _, guard := _ }) (v := ?_) rfl (by kernel_rfl) (by kernel_rfl) (by kernel_rfl) (fun _ _ _ h => h) (Or.inl ⟨by rfl, ?_⟩) (by assumption) ?_
  rotate_left
  · intro u hSu; have hSv := blkCell hSu; clear hSu; go_simp; (try with_reducible rfl)
  try simp only [Act.put, List.setIfInBounds_toArray, List.set_cons_zero, List.set_cons_succ]
  refine wpAnyH_ready (rs := [9]) (by kernel_rfl) (by simp) ?_
  refine AllReadyH.cons (o := { dst := some 13, op := _, type := _, pos := _, after := _, guard := _ }) rfl (fun K hK => ?_) ?_
  rotate_left
  · exact AllReadyH.nil
  go_simp
  refine (HC3.out _).mono ?_; rintro e vb3 ⟨rfl, hb⟩; have Xb3 := blkOld Xb2 hb; have Yb3 := joinB Yb2 hb; try clear hSn
  have hSn := Xb3
  clear hb
  refine hK.out _ _ ?_ (fun hHeld => ?_)
  · first | exact hSn | exact Xb0
  clear hK K
  try simp only [Act.put, List.setIfInBounds_toArray, List.set_cons_zero, List.set_cons_succ]
  refine wpAnyH_take (i := 10) (oi := { dst := some 14, op := _, type := _, pos := _, after := _, guard := _ }) (v := ?_) rfl (by kernel_rfl) (by kernel_rfl) (by kernel_rfl) (fun _ _ _ h => h) (Or.inl ⟨by rfl, ?_⟩) (by assumption) ?_
  rotate_left
  · intro u hSu; have hSv := blkCell hSu; clear hSu; go_simp; (try with_reducible rfl)
  try simp only [Act.put, List.setIfInBounds_toArray, List.set_cons_zero, List.set_cons_succ]
  refine wpAnyH_ready (rs := [13]) (by kernel_rfl) (by simp) ?_
  refine AllReadyH.cons (o := { dst := some 17, op := _, type := _, pos := _, after := _, guard := _ }) rfl (fun K hK => ?_) ?_
  rotate_left
  · exact AllReadyH.nil
  go_simp
  refine (HC4.out _).mono ?_; rintro e vb4 ⟨rfl, hb⟩; have Xb4 := blkOld Xb3 hb; have Yb4 := joinB Yb3 hb; try clear hSn
  have hSn := Xb4
  clear hb
  refine hK.out _ _ ?_ (fun hHeld => ?_)
  · first | exact hSn | exact Xb0
  clear hK K
  try simp only [Act.put, List.setIfInBounds_toArray, List.set_cons_zero, List.set_cons_succ]
  refine wpAnyH_take (i := 14) (oi := { dst := some 18, op := _, type := _, pos := _, after := _, guard := _ }) (v := ?_) rfl (by kernel_rfl) (by kernel_rfl) (by kernel_rfl) (fun _ _ _ h => h) (Or.inl ⟨by rfl, ?_⟩) (by assumption) ?_
  rotate_left
  · intro u hSu; have hSv := blkCell hSu; clear hSu; go_simp; (try with_reducible rfl)
  try simp only [Act.put, List.setIfInBounds_toArray, List.set_cons_zero, List.set_cons_succ]
  refine wpAnyH_take (i := 15) (oi := { dst := some 3, op := _, type := _, pos := _, after := _, guard := _ }) (v := ?_) rfl (by kernel_rfl) (by kernel_rfl) (by kernel_rfl) (fun _ _ _ h => h) (Or.inl ⟨by rfl, ?_⟩) (by assumption) ?_
  rotate_left
  · intro u hSu; have hSv := blkCell hSu; clear hSu; go_simp; (try with_reducible rfl)
  try simp only [Act.put, List.setIfInBounds_toArray, List.set_cons_zero, List.set_cons_succ]
  refine wpAnyH_done (by kernel_rfl) ?_ _
  have HX1 := Lib.hid Xb4
  have HB1 := Lib.hid Yb4
  clear hHeld hSn Xb0 Yb0 Xb1 Yb1 Xb2 Yb2 Xb3 Yb3 Xb4 Yb4
  have hcg1 := blkCell HX1.out
  go_upto_region 4 with fail
  have Xc0 := blkOld HX1.out (Below.refl _ vb4).drew
  have Yc0 := joinB HB1.out (Below.refl _ vb4).drew
  refine wp_region_held_drew (S := (fun u => u.heap[g]? = some (.cells #[.int .i64 lsn, .int .i64 prev, .int .i64 txn, .int .i64 2, .int .i64 page, .int .i64 next, .int .i64 nu, .int .i64 ok, .int .i64 os, .string oo, .string on, .int .i64 how, .int .i64 root, .string ek, .int .i64 ep, .int .i64 es, .slice A ts.length c, .slice B ds.length d] 49 (0, 0)))) (by kernel_rfl) ?_ (fun hHeld => ?_)
  · first | exact hSn | exact Xc0
  refine wpAnyH_take (i := 0) (oi := { dst := some 23, op := _, type := _, pos := _, after := _, guard := _ }) (v := ?_) rfl (by kernel_rfl) (by kernel_rfl) (by kernel_rfl) (fun _ _ _ h => h) (Or.inl ⟨by rfl, ?_⟩) (by assumption) ?_
  rotate_left
  · intro u hSu; have hSv := blkCell hSu; clear hSu; go_simp; (try with_reducible rfl)
  try simp only [Act.put, List.setIfInBounds_toArray, List.set_cons_zero, List.set_cons_succ]
  refine wpAnyH_take (i := 1) (oi := { dst := some 24, op := _, type := _, pos := _, after := _, guard := _ }) (v := ?_) rfl (by kernel_rfl) (by kernel_rfl) (by kernel_rfl) (fun _ _ _ h => h) (Or.inl ⟨by rfl, ?_⟩) (by assumption) ?_
  rotate_left
  · intro u hSu; have hSv := blkCell hSu; clear hSu; go_simp; (try with_reducible rfl)
  try simp only [Act.put, List.setIfInBounds_toArray, List.set_cons_zero, List.set_cons_succ]
  refine wpAnyH_take (i := 2) (oi := { dst := some 25, op := _, type := _, pos := _, after := _, guard := _ }) (v := ?_) rfl (by kernel_rfl) (by kernel_rfl) (by kernel_rfl) (fun _ _ _ h => h) (Or.inl ⟨by rfl, ?_⟩) (by assumption) ?_
  rotate_left
  · intro u hSu; have hSv := blkCell hSu; clear hSu; go_simp; (try with_reducible rfl)
  try simp only [Act.put, List.setIfInBounds_toArray, List.set_cons_zero, List.set_cons_succ]
  refine wpAnyH_take (i := 5) (oi := { dst := some 28, op := _, type := _, pos := _, after := _, guard := _ }) (v := ?_) rfl (by kernel_rfl) (by kernel_rfl) (by kernel_rfl) (fun _ _ _ h => h) (Or.inl ⟨by rfl, ?_⟩) (by assumption) ?_
  rotate_left
  · intro u hSu; have hSv := blkCell hSu; clear hSu; go_simp; (try with_reducible rfl)
  try simp only [Act.put, List.setIfInBounds_toArray, List.set_cons_zero, List.set_cons_succ]
  refine wpAnyH_take (i := 6) (oi := { dst := some 29, op := _, type := _, pos := _, after := _, guard := _ }) (v := ?_) rfl (by kernel_rfl) (by kernel_rfl) (by kernel_rfl) (fun _ _ _ h => h) (Or.inl ⟨by rfl, ?_⟩) (by assumption) ?_
  rotate_left
  · intro u hSu; have hSv := blkCell hSu; clear hSu; go_simp; (try with_reducible rfl)
  try simp only [Act.put, List.setIfInBounds_toArray, List.set_cons_zero, List.set_cons_succ]
  refine wpAnyH_take (i := 9) (oi := { dst := some 32, op := _, type := _, pos := _, after := _, guard := _ }) (v := ?_) rfl (by kernel_rfl) (by kernel_rfl) (by kernel_rfl) (fun _ _ _ h => h) (Or.inl ⟨by rfl, ?_⟩) (by assumption) ?_
  rotate_left
  · intro u hSu; have hSv := blkCell hSu; clear hSu; go_simp; (try with_reducible rfl)
  try simp only [Act.put, List.setIfInBounds_toArray, List.set_cons_zero, List.set_cons_succ]
  refine wpAnyH_take (i := 10) (oi := { dst := some 33, op := _, type := _, pos := _, after := _, guard := _ }) (v := ?_) rfl (by kernel_rfl) (by kernel_rfl) (by kernel_rfl) (fun _ _ _ h => h) (Or.inl ⟨by rfl, ?_⟩) (by assumption) ?_
  rotate_left
  · intro u hSu; have hSv := blkCell hSu; clear hSu; go_simp; (try with_reducible rfl)
  try simp only [Act.put, List.setIfInBounds_toArray, List.set_cons_zero, List.set_cons_succ]
  refine wpAnyH_ready (rs := [3]) (by kernel_rfl) (by simp) ?_
  refine AllReadyH.cons (o := { dst := some 26, op := _, type := _, pos := _, after := _, guard := _ }) rfl (fun K hK => ?_) ?_
  rotate_left
  · exact AllReadyH.nil
  go_simp
  refine (HC5.out _).mono ?_; rintro e vc1 ⟨rfl, hb⟩; have Xc1 := blkOld Xc0 hb; have Yc1 := joinB Yc0 hb; try clear hSn
  have hSn := Xc1
  clear hb
  refine hK.out _ _ ?_ (fun hHeld => ?_)
  · first | exact hSn | exact Xc0
  clear hK K
  try simp only [Act.put, List.setIfInBounds_toArray, List.set_cons_zero, List.set_cons_succ]
  refine wpAnyH_take (i := 4) (oi := { dst := some 27, op := _, type := _, pos := _, after := _, guard := _ }) (v := ?_) rfl (by kernel_rfl) (by kernel_rfl) (by kernel_rfl) (fun _ _ _ h => h) (Or.inl ⟨by rfl, ?_⟩) (by assumption) ?_
  rotate_left
  · intro u hSu; have hSv := blkCell hSu; clear hSu; go_simp; (try with_reducible rfl)
  try simp only [Act.put, List.setIfInBounds_toArray, List.set_cons_zero, List.set_cons_succ]
  refine wpAnyH_ready (rs := [7]) (by kernel_rfl) (by simp) ?_
  refine AllReadyH.cons (o := { dst := some 30, op := _, type := _, pos := _, after := _, guard := _ }) rfl (fun K hK => ?_) ?_
  rotate_left
  · exact AllReadyH.nil
  go_simp
  refine (HC6.out _).mono ?_; rintro e vc2 ⟨rfl, hb⟩; have Xc2 := blkOld Xc1 hb; have Yc2 := joinB Yc1 hb; try clear hSn
  have hSn := Xc2
  clear hb
  refine hK.out _ _ ?_ (fun hHeld => ?_)
  · first | exact hSn | exact Xc0
  clear hK K
  try simp only [Act.put, List.setIfInBounds_toArray, List.set_cons_zero, List.set_cons_succ]
  refine wpAnyH_take (i := 8) (oi := { dst := some 31, op := _, type := _, pos := _, after := _, guard := _ }) (v := ?_) rfl (by kernel_rfl) (by kernel_rfl) (by kernel_rfl) (fun _ _ _ h => h) (Or.inl ⟨by rfl, ?_⟩) (by assumption) ?_
  rotate_left
  · intro u hSu; have hSv := blkCell hSu; clear hSu; go_simp; (try with_reducible rfl)
  try simp only [Act.put, List.setIfInBounds_toArray, List.set_cons_zero, List.set_cons_succ]
  refine wpAnyH_ready (rs := [11]) (by kernel_rfl) (by simp) ?_
  refine AllReadyH.cons (o := { dst := some 34, op := _, type := _, pos := _, after := _, guard := _ }) rfl (fun K hK => ?_) ?_
  rotate_left
  · exact AllReadyH.nil
  go_simp
  refine (HC7.out _).mono ?_; rintro e vc3 ⟨rfl, hb⟩; have Xc3 := blkOld Xc2 hb; have Yc3 := joinB Yc2 hb; try clear hSn
  have hSn := Xc3
  clear hb
  refine hK.out _ _ ?_ (fun hHeld => ?_)
  · first | exact hSn | exact Xc0
  clear hK K
  try simp only [Act.put, List.setIfInBounds_toArray, List.set_cons_zero, List.set_cons_succ]
  refine wpAnyH_take (i := 12) (oi := { dst := some 35, op := _, type := _, pos := _, after := _, guard := _ }) (v := ?_) rfl (by kernel_rfl) (by kernel_rfl) (by kernel_rfl) (fun _ _ _ h => h) (Or.inl ⟨by rfl, ?_⟩) (by assumption) ?_
  rotate_left
  · intro u hSu; have hSv := blkCell hSu; clear hSu; go_simp; (try with_reducible rfl)
  try simp only [Act.put, List.setIfInBounds_toArray, List.set_cons_zero, List.set_cons_succ]
  refine wpAnyH_take (i := 13) (oi := { dst := some 3, op := _, type := _, pos := _, after := _, guard := _ }) (v := ?_) rfl (by kernel_rfl) (by kernel_rfl) (by kernel_rfl) (fun _ _ _ h => h) (Or.inl ⟨by rfl, ?_⟩) (by assumption) ?_
  rotate_left
  · intro u hSu; have hSv := blkCell hSu; clear hSu; go_simp; (try with_reducible rfl)
  try simp only [Act.put, List.setIfInBounds_toArray, List.set_cons_zero, List.set_cons_succ]
  refine wpAnyH_done (by kernel_rfl) ?_ _
  have HX2 := Lib.hid Xc3
  have HB2 := Lib.hid Yc3
  clear hHeld hSn Xc0 Yc0 Xc1 Yc1 Xc2 Yc2 Xc3 Yc3
  have hcg2 := blkCell HX2.out
  go_upto_region 7 with fail
  have Xd0 := blkOld HX2.out (Below.refl _ vc3).drew
  have Yd0 := joinB HB2.out (Below.refl _ vc3).drew
  refine wp_region_held_drew (S := (fun u => u.heap[g]? = some (.cells #[.int .i64 lsn, .int .i64 prev, .int .i64 txn, .int .i64 2, .int .i64 page, .int .i64 next, .int .i64 nu, .int .i64 ok, .int .i64 os, .string oo, .string on, .int .i64 how, .int .i64 root, .string ek, .int .i64 ep, .int .i64 es, .slice A ts.length c, .slice B ds.length d] 49 (0, 0)))) (by kernel_rfl) ?_ (fun hHeld => ?_)
  · first | exact hSn | exact Xd0
  refine wpAnyH_take (i := 0) (oi := { dst := some 40, op := _, type := _, pos := _, after := _, guard := _ }) (v := ?_) rfl (by kernel_rfl) (by kernel_rfl) (by kernel_rfl) (fun _ _ _ h => h) (Or.inl ⟨by rfl, ?_⟩) (by assumption) ?_
  rotate_left
  · intro u hSu; have hSv := blkCell hSu; clear hSu; go_simp; (try with_reducible rfl)
  try simp only [Act.put, List.setIfInBounds_toArray, List.set_cons_zero, List.set_cons_succ]
  refine wpAnyH_take (i := 1) (oi := { dst := some 41, op := _, type := _, pos := _, after := _, guard := _ }) (v := ?_) rfl (by kernel_rfl) (by kernel_rfl) (by kernel_rfl) (fun _ _ _ h => h) (Or.inl ⟨by rfl, ?_⟩) (by assumption) ?_
  rotate_left
  · intro u hSu; have hSv := blkCell hSu; clear hSu; go_simp; (try with_reducible rfl)
  try simp only [Act.put, List.setIfInBounds_toArray, List.set_cons_zero, List.set_cons_succ]
  refine wpAnyH_take (i := 2) (oi := { dst := some 42, op := _, type := _, pos := _, after := _, guard := _ }) (v := ?_) rfl (by kernel_rfl) (by kernel_rfl) (by kernel_rfl) (fun _ _ _ h => h) (Or.inl ⟨by rfl, ?_⟩) (by assumption) ?_
  rotate_left
  · intro u hSu; have hSv := blkCell hSu; clear hSu; go_simp; (try with_reducible rfl)
  try simp only [Act.put, List.setIfInBounds_toArray, List.set_cons_zero, List.set_cons_succ]
  refine wpAnyH_take (i := 5) (oi := { dst := some 45, op := _, type := _, pos := _, after := _, guard := _ }) (v := ?_) rfl (by kernel_rfl) (by kernel_rfl) (by kernel_rfl) (fun _ _ _ h => h) (Or.inl ⟨by rfl, ?_⟩) (by assumption) ?_
  rotate_left
  · intro u hSu; have hSv := blkCell hSu; clear hSu; go_simp; (try with_reducible rfl)
  try simp only [Act.put, List.setIfInBounds_toArray, List.set_cons_zero, List.set_cons_succ]
  refine wpAnyH_take (i := 6) (oi := { dst := some 46, op := _, type := _, pos := _, after := _, guard := _ }) (v := ?_) rfl (by kernel_rfl) (by kernel_rfl) (by kernel_rfl) (fun _ _ _ h => h) (Or.inl ⟨by rfl, ?_⟩) (by assumption) ?_
  rotate_left
  · intro u hSu; have hSv := blkCell hSu; clear hSu; go_simp; (try with_reducible rfl)
  try simp only [Act.put, List.setIfInBounds_toArray, List.set_cons_zero, List.set_cons_succ]
  refine wpAnyH_take (i := 7) (oi := { dst := some 47, op := _, type := _, pos := _, after := _, guard := _ }) (v := ?_) rfl (by kernel_rfl) (by kernel_rfl) (by kernel_rfl) (fun _ _ _ h => h) (Or.inl ⟨by rfl, ?_⟩) (by assumption) ?_
  rotate_left
  · intro u hSu; have hSv := blkCell hSu; clear hSu; go_simp; (try with_reducible rfl)
  try simp only [Act.put, List.setIfInBounds_toArray, List.set_cons_zero, List.set_cons_succ]
  refine wpAnyH_take (i := 8) (oi := { dst := some 48, op := _, type := _, pos := _, after := _, guard := _ }) (v := ?_) rfl (by kernel_rfl) (by kernel_rfl) (by kernel_rfl) (fun _ _ _ h => h) (Or.inl ⟨by rfl, ?_⟩) (by assumption) ?_
  rotate_left
  · intro u hSu; have hSv := blkCell hSu; clear hSu; go_simp; (try with_reducible rfl)
  try simp only [Act.put, List.setIfInBounds_toArray, List.set_cons_zero, List.set_cons_succ]
  refine wpAnyH_take (i := 11) (oi := { dst := some 51, op := _, type := _, pos := _, after := _, guard := _ }) (v := ?_) rfl (by kernel_rfl) (by kernel_rfl) (by kernel_rfl) (fun _ _ _ h => h) (Or.inl ⟨by rfl, ?_⟩) (by assumption) ?_
  rotate_left
  · intro u hSu; have hSv := blkCell hSu; clear hSu; go_simp; (try with_reducible rfl)
  try simp only [Act.put, List.setIfInBounds_toArray, List.set_cons_zero, List.set_cons_succ]
  refine wpAnyH_take (i := 12) (oi := { dst := some 52, op := _, type := _, pos := _, after := _, guard := _ }) (v := ?_) rfl (by kernel_rfl) (by kernel_rfl) (by kernel_rfl) (fun _ _ _ h => h) (Or.inl ⟨by rfl, ?_⟩) (by assumption) ?_
  rotate_left
  · intro u hSu; have hSv := blkCell hSu; clear hSu; go_simp; (try with_reducible rfl)
  try simp only [Act.put, List.setIfInBounds_toArray, List.set_cons_zero, List.set_cons_succ]
  refine wpAnyH_take (i := 13) (oi := { dst := some 53, op := _, type := _, pos := _, after := _, guard := _ }) (v := ?_) rfl (by kernel_rfl) (by kernel_rfl) (by kernel_rfl) (fun _ _ _ h => h) (Or.inl ⟨by rfl, ?_⟩) (by assumption) ?_
  rotate_left
  · intro u hSu; have hSv := blkCell hSu; clear hSu; go_simp; (try with_reducible rfl)
  try simp only [Act.put, List.setIfInBounds_toArray, List.set_cons_zero, List.set_cons_succ]
  refine wpAnyH_take (i := 14) (oi := { dst := some 54, op := _, type := _, pos := _, after := _, guard := _ }) (v := ?_) rfl (by kernel_rfl) (by kernel_rfl) (by kernel_rfl) (fun _ _ _ h => h) (Or.inl ⟨by rfl, ?_⟩) (by assumption) ?_
  rotate_left
  · intro u hSu; have hSv := blkCell hSu; clear hSu; go_simp; (try with_reducible rfl)
  try simp only [Act.put, List.setIfInBounds_toArray, List.set_cons_zero, List.set_cons_succ]
  refine wpAnyH_take (i := 17) (oi := { dst := some 57, op := _, type := _, pos := _, after := _, guard := _ }) (v := ?_) rfl (by kernel_rfl) (by kernel_rfl) (by kernel_rfl) (fun _ _ _ h => h) (Or.inl ⟨by rfl, ?_⟩) (by assumption) ?_
  rotate_left
  · intro u hSu; have hSv := blkCell hSu; clear hSu; go_simp; (try with_reducible rfl)
  try simp only [Act.put, List.setIfInBounds_toArray, List.set_cons_zero, List.set_cons_succ]
  refine wpAnyH_take (i := 18) (oi := { dst := some 58, op := _, type := _, pos := _, after := _, guard := _ }) (v := ?_) rfl (by kernel_rfl) (by kernel_rfl) (by kernel_rfl) (fun _ _ _ h => h) (Or.inl ⟨by rfl, ?_⟩) (by assumption) ?_
  rotate_left
  · intro u hSu; have hSv := blkCell hSu; clear hSu; go_simp; (try with_reducible rfl)
  try simp only [Act.put, List.setIfInBounds_toArray, List.set_cons_zero, List.set_cons_succ]
  refine wpAnyH_take (i := 19) (oi := { dst := some 59, op := _, type := _, pos := _, after := _, guard := _ }) (v := ?_) rfl (by kernel_rfl) (by kernel_rfl) (by kernel_rfl) (fun _ _ _ h => h) (Or.inl ⟨by rfl, ?_⟩) (by assumption) ?_
  rotate_left
  · intro u hSu; have hSv := blkCell hSu; clear hSu; go_simp; (try with_reducible rfl)
  try simp only [Act.put, List.setIfInBounds_toArray, List.set_cons_zero, List.set_cons_succ]
  refine wpAnyH_ready (rs := [3]) (by kernel_rfl) (by simp) ?_
  refine AllReadyH.cons (o := { dst := some 43, op := _, type := _, pos := _, after := _, guard := _ }) rfl (fun K hK => ?_) ?_
  rotate_left
  · exact AllReadyH.nil
  go_simp
  refine (HC8.out _).mono ?_; rintro e vd1 ⟨rfl, hb⟩; have Xd1 := blkOld Xd0 hb; have Yd1 := joinB Yd0 hb; try clear hSn
  have hSn := Xd1
  clear hb
  refine hK.out _ _ ?_ (fun hHeld => ?_)
  · first | exact hSn | exact Xd0
  clear hK K
  try simp only [Act.put, List.setIfInBounds_toArray, List.set_cons_zero, List.set_cons_succ]
  refine wpAnyH_take (i := 4) (oi := { dst := some 44, op := _, type := _, pos := _, after := _, guard := _ }) (v := ?_) rfl (by kernel_rfl) (by kernel_rfl) (by kernel_rfl) (fun _ _ _ h => h) (Or.inl ⟨by rfl, ?_⟩) (by assumption) ?_
  rotate_left
  · intro u hSu; have hSv := blkCell hSu; clear hSu; go_simp; (try with_reducible rfl)
  try simp only [Act.put, List.setIfInBounds_toArray, List.set_cons_zero, List.set_cons_succ]
  refine wpAnyH_ready (rs := [9]) (by kernel_rfl) (by simp) ?_
  refine AllReadyH.cons (o := { dst := some 49, op := _, type := _, pos := _, after := _, guard := _ }) rfl (fun K hK => ?_) ?_
  rotate_left
  · exact AllReadyH.nil
  go_simp
  refine (HC9.out _).mono ?_; rintro e vd2 ⟨rfl, hb⟩; have Xd2 := blkOld Xd1 hb; have Yd2 := joinB Yd1 hb; try clear hSn
  have hSn := Xd2
  clear hb
  refine hK.out _ _ ?_ (fun hHeld => ?_)
  · first | exact hSn | exact Xd0
  clear hK K
  try simp only [Act.put, List.setIfInBounds_toArray, List.set_cons_zero, List.set_cons_succ]
  refine wpAnyH_take (i := 10) (oi := { dst := some 50, op := _, type := _, pos := _, after := _, guard := _ }) (v := ?_) rfl (by kernel_rfl) (by kernel_rfl) (by kernel_rfl) (fun _ _ _ h => h) (Or.inl ⟨by rfl, ?_⟩) (by assumption) ?_
  rotate_left
  · intro u hSu; have hSv := blkCell hSu; clear hSu; go_simp; (try with_reducible rfl)
  try simp only [Act.put, List.setIfInBounds_toArray, List.set_cons_zero, List.set_cons_succ]
  refine wpAnyH_ready (rs := [15]) (by kernel_rfl) (by simp) ?_
  refine AllReadyH.cons (o := { dst := some 55, op := _, type := _, pos := _, after := _, guard := _ }) rfl (fun K hK => ?_) ?_
  rotate_left
  · exact AllReadyH.nil
  go_simp
  refine (HC10.out _).mono ?_; rintro e vd3 ⟨rfl, hb⟩; have Xd3 := blkOld Xd2 hb; have Yd3 := joinB Yd2 hb; try clear hSn
  have hSn := Xd3
  clear hb
  refine hK.out _ _ ?_ (fun hHeld => ?_)
  · first | exact hSn | exact Xd0
  clear hK K
  try simp only [Act.put, List.setIfInBounds_toArray, List.set_cons_zero, List.set_cons_succ]
  refine wpAnyH_take (i := 16) (oi := { dst := some 56, op := _, type := _, pos := _, after := _, guard := _ }) (v := ?_) rfl (by kernel_rfl) (by kernel_rfl) (by kernel_rfl) (fun _ _ _ h => h) (Or.inl ⟨by rfl, ?_⟩) (by assumption) ?_
  rotate_left
  · intro u hSu; have hSv := blkCell hSu; clear hSu; go_simp; (try with_reducible rfl)
  try simp only [Act.put, List.setIfInBounds_toArray, List.set_cons_zero, List.set_cons_succ]
  refine wpAnyH_ready (rs := [20]) (by kernel_rfl) (by simp) ?_
  refine AllReadyH.cons (o := { dst := some 60, op := _, type := _, pos := _, after := _, guard := _ }) rfl (fun K hK => ?_) ?_
  rotate_left
  · exact AllReadyH.nil
  go_simp
  refine (HC11.out _).mono ?_; rintro e vd4 ⟨rfl, hb⟩; have Xd4 := blkOld Xd3 hb; have Yd4 := joinB Yd3 hb; try clear hSn
  have hSn := Xd4
  clear hb
  refine hK.out _ _ ?_ (fun hHeld => ?_)
  · first | exact hSn | exact Xd0
  clear hK K
  try simp only [Act.put, List.setIfInBounds_toArray, List.set_cons_zero, List.set_cons_succ]
  refine wpAnyH_take (i := 21) (oi := { dst := some 61, op := _, type := _, pos := _, after := _, guard := _ }) (v := ?_) rfl (by kernel_rfl) (by kernel_rfl) (by kernel_rfl) (fun _ _ _ h => h) (Or.inl ⟨by rfl, ?_⟩) (by assumption) ?_
  rotate_left
  · intro u hSu; have hSv := blkCell hSu; clear hSu; go_simp; (try with_reducible rfl)
  try simp only [Act.put, List.setIfInBounds_toArray, List.set_cons_zero, List.set_cons_succ]
  refine wpAnyH_take (i := 22) (oi := { dst := some 2, op := _, type := _, pos := _, after := _, guard := _ }) (v := ?_) rfl (by kernel_rfl) (by kernel_rfl) (by kernel_rfl) (fun _ _ _ h => h) (Or.inl ⟨by rfl, ?_⟩) (by assumption) ?_
  rotate_left
  · intro u hSu; have hSv := blkCell hSu; clear hSu; go_simp; (try with_reducible rfl)
  try simp only [Act.put, List.setIfInBounds_toArray, List.set_cons_zero, List.set_cons_succ]
  refine wpAnyH_done (by kernel_rfl) ?_ _
  have HX3 := Lib.hid Xd4
  have HB3 := Lib.hid Yd4
  clear hHeld hSn Xd0 Yd0 Xd1 Yd1 Xd2 Yd2 Xd3 Yd3 Xd4 Yd4
  have hcg3 := blkCell HX3.out
  go_wp2_with fail
  go_ret
  exact ⟨by rw [← HE.out]; rfl, HB3.out⟩
set_option maxRecDepth 100000 in
set_option maxHeartbeats 4000000 in
theorem rbody_2p (lsn prev txn page next nu ok os root ep es : Int) (oo on ek : ByteArray) (ts : List Rc.TxnAt) (ds : List Rc.DirtyAt) (A B : Option Addr) (c d : Nat) (hoo : oo.size ≤ 65535) (hon : on.size ≤ 65535) (w : World) :
    Calls Try.prog 44 #[.agg #[.int .i64 lsn, .int .i64 prev, .int .i64 txn, .int .i64 2, .int .i64 page, .int .i64 next, .int .i64 nu, .int .i64 ok, .int .i64 os, .string oo, .string on, .int .i64 1, .int .i64 root, .string ek, .int .i64 ep, .int .i64 es, .slice A ts.length c, .slice B ds.length d]] w fun e w' => e = .returned (.string (Rc.mk (Rc.bodyB ⟨lsn, prev, txn, 2, page, next, nu, ⟨ok, os, oo, on⟩, 1, root, ⟨ek, ep, es⟩, ts, ds⟩))) ∧ Below w.heap.size w w' := by
  obtain ⟨w0, hw0⟩ : ∃ W, W = w.alloc (.cells #[.int .i64 lsn, .int .i64 prev, .int .i64 txn, .int .i64 2, .int .i64 page, .int .i64 next, .int .i64 nu, .int .i64 ok, .int .i64 os, .string oo, .string on, .int .i64 1, .int .i64 root, .string ek, .int .i64 ep, .int .i64 es, .slice A ts.length c, .slice B ds.length d] 49) := ⟨_, rfl⟩
  have HB0 := Lib.hid (show Below w.heap.size w w0 from by rw [hw0]; exact allocB _ _)
  have HX0 := Lib.hid (show w0.heap[w.heap.size]? = some (.cells #[.int .i64 lsn, .int .i64 prev, .int .i64 txn, .int .i64 2, .int .i64 page, .int .i64 next, .int .i64 nu, .int .i64 ok, .int .i64 os, .string oo, .string on, .int .i64 1, .int .i64 root, .string ek, .int .i64 ep, .int .i64 es, .slice A ts.length c, .slice B ds.length d] 49 (0, 0)) from by rw [hw0]; exact heap_alloc_new _ _)
  obtain ⟨R, hR⟩ : ∃ R, R = Rc.mk (Rc.bodyB ⟨lsn, prev, txn, 2, page, next, nu, ⟨ok, os, oo, on⟩, 1, root, ⟨ek, ep, es⟩, ts, ds⟩) := ⟨_, rfl⟩
  rw [← hR]
  obtain ⟨B1, hB1⟩ : ∃ b, b = Rc.mk (Rc.p 2 1) := ⟨_, rfl⟩
  have hl1 : ((Rc.p 2 1)).length = 1 := Rc.p_length _ _
  have HC1 := Lib.hid (show ∀ W, Calls Try.prog 83 #[.int .i64 2, .int .i64 1] W fun e w' => e = .returned (.string B1) ∧ Below W.heap.size W w' from fun W => by rw [hB1]; exact rput_mk 2 1 (by omega) W)
  obtain ⟨B2, hB2⟩ : ∃ b, b = Rc.mk (Rc.p lsn 6) := ⟨_, rfl⟩
  have hl2 : ((Rc.p lsn 6)).length = 6 := Rc.p_length _ _
  have HC2 := Lib.hid (show ∀ W, Calls Try.prog 83 #[.int .i64 lsn, .int .i64 6] W fun e w' => e = .returned (.string B2) ∧ Below W.heap.size W w' from fun W => by rw [hB2]; exact rput_mk lsn 6 (by omega) W)
  obtain ⟨S2, hS2⟩ : ∃ b, b = Rc.mk ((Rc.p 2 1) ++ (Rc.p lsn 6)) := ⟨_, rfl⟩
  have ha2 : ∀ W : World, (Op.stringOp .add B1 B2).run Try.prog W = .ok (.string S2) W := fun W => by rw [hB1, hB2, hS2]; exact add_mk _ _ (by (try simp only [List.length_append]); omega) W
  obtain ⟨B3, hB3⟩ : ∃ b, b = Rc.mk (Rc.p prev 6) := ⟨_, rfl⟩
  have hl3 : ((Rc.p prev 6)).length = 6 := Rc.p_length _ _
  have HC3 := Lib.hid (show ∀ W, Calls Try.prog 83 #[.int .i64 prev, .int .i64 6] W fun e w' => e = .returned (.string B3) ∧ Below W.heap.size W w' from fun W => by rw [hB3]; exact rput_mk prev 6 (by omega) W)
  obtain ⟨S3, hS3⟩ : ∃ b, b = Rc.mk (((Rc.p 2 1) ++ (Rc.p lsn 6)) ++ (Rc.p prev 6)) := ⟨_, rfl⟩
  have ha3 : ∀ W : World, (Op.stringOp .add S2 B3).run Try.prog W = .ok (.string S3) W := fun W => by rw [hS2, hB3, hS3]; exact add_mk _ _ (by (try simp only [List.length_append]); omega) W
  obtain ⟨B4, hB4⟩ : ∃ b, b = Rc.mk (Rc.p txn 6) := ⟨_, rfl⟩
  have hl4 : ((Rc.p txn 6)).length = 6 := Rc.p_length _ _
  have HC4 := Lib.hid (show ∀ W, Calls Try.prog 83 #[.int .i64 txn, .int .i64 6] W fun e w' => e = .returned (.string B4) ∧ Below W.heap.size W w' from fun W => by rw [hB4]; exact rput_mk txn 6 (by omega) W)
  obtain ⟨S4, hS4⟩ : ∃ b, b = Rc.mk ((((Rc.p 2 1) ++ (Rc.p lsn 6)) ++ (Rc.p prev 6)) ++ (Rc.p txn 6)) := ⟨_, rfl⟩
  have ha4 : ∀ W : World, (Op.stringOp .add S3 B4).run Try.prog W = .ok (.string S4) W := fun W => by rw [hS3, hB4, hS4]; exact add_mk _ _ (by (try simp only [List.length_append]); omega) W
  obtain ⟨B5, hB5⟩ : ∃ b, b = Rc.mk (Rc.p page 3) := ⟨_, rfl⟩
  have hl5 : ((Rc.p page 3)).length = 3 := Rc.p_length _ _
  have HC5 := Lib.hid (show ∀ W, Calls Try.prog 83 #[.int .i64 page, .int .i64 3] W fun e w' => e = .returned (.string B5) ∧ Below W.heap.size W w' from fun W => by rw [hB5]; exact rput_mk page 3 (by omega) W)
  obtain ⟨S5, hS5⟩ : ∃ b, b = Rc.mk (((((Rc.p 2 1) ++ (Rc.p lsn 6)) ++ (Rc.p prev 6)) ++ (Rc.p txn 6)) ++ (Rc.p page 3)) := ⟨_, rfl⟩
  have ha5 : ∀ W : World, (Op.stringOp .add S4 B5).run Try.prog W = .ok (.string S5) W := fun W => by rw [hS4, hB5, hS5]; exact add_mk _ _ (by (try simp only [List.length_append]); omega) W
  obtain ⟨B6, hB6⟩ : ∃ b, b = Rc.mk (Rc.opB ⟨ok, os, oo, on⟩) := ⟨_, rfl⟩
  have hl6 : ((Rc.opB ⟨ok, os, oo, on⟩)).length ≤ 140000 := by unfold Rc.opB; simp only [List.length_append, Rc.p_length, Rc.t_len]; omega
  have HC6 := Lib.hid (show ∀ W, Calls Try.prog 84 #[.agg #[.int .i64 ok, .int .i64 os, .string oo, .string on]] W fun e w' => e = .returned (.string B6) ∧ Below W.heap.size W w' from fun W => by rw [hB6]; exact ropb_any ⟨ok, os, oo, on⟩ hoo hon W)
  obtain ⟨S6, hS6⟩ : ∃ b, b = Rc.mk ((((((Rc.p 2 1) ++ (Rc.p lsn 6)) ++ (Rc.p prev 6)) ++ (Rc.p txn 6)) ++ (Rc.p page 3)) ++ (Rc.opB ⟨ok, os, oo, on⟩)) := ⟨_, rfl⟩
  have ha6 : ∀ W : World, (Op.stringOp .add S5 B6).run Try.prog W = .ok (.string S6) W := fun W => by rw [hS5, hB6, hS6]; exact add_mk _ _ (by (try simp only [List.length_append]); omega) W
  obtain ⟨B7, hB7⟩ : ∃ b, b = Rc.mk (Rc.p 1 1) := ⟨_, rfl⟩
  have hl7 : ((Rc.p 1 1)).length = 1 := Rc.p_length _ _
  have HC7 := Lib.hid (show ∀ W, Calls Try.prog 83 #[.int .i64 1, .int .i64 1] W fun e w' => e = .returned (.string B7) ∧ Below W.heap.size W w' from fun W => by rw [hB7]; exact rput_mk 1 1 (by omega) W)
  obtain ⟨S7, hS7⟩ : ∃ b, b = Rc.mk (((((((Rc.p 2 1) ++ (Rc.p lsn 6)) ++ (Rc.p prev 6)) ++ (Rc.p txn 6)) ++ (Rc.p page 3)) ++ (Rc.opB ⟨ok, os, oo, on⟩)) ++ (Rc.p 1 1)) := ⟨_, rfl⟩
  have ha7 : ∀ W : World, (Op.stringOp .add S6 B7).run Try.prog W = .ok (.string S7) W := fun W => by rw [hS6, hB7, hS7]; exact add_mk _ _ (by (try simp only [List.length_append]); omega) W
  have HE := Lib.hid (show S7 = R from by rw [hS7, hR]; (congr 1) <;> (unfold Rc.bodyB; rw [Rc.restB_2 rfl]; unfold Rc.headB; unfold Rc.treeB; rw [if_pos rfl]; simp only [List.append_assoc, List.append_nil]))
  clear hB1 hl1
  clear hB2 hl2
  clear hB3 hl3
  clear hB4 hl4
  clear hB5 hl5
  clear hB6 hl6
  clear hB7 hl7
  clear hS2
  clear hS3
  clear hS4
  clear hS5
  clear hS6
  clear hS7
  clear hR
  go_enter Try.func44, Try.ntmps44
  go_upto_region 1 with fail
  rw [← hw0]
  clear hw0
  obtain ⟨g, hg⟩ : ∃ g, g = w.heap.size := ⟨_, rfl⟩
  rw [← hg] at HX0
  rw [← hg]
  clear hg
  go_upto_region 1 with fail
  have Xb0 := blkOld HX0.out (Below.refl _ w0).drew
  have Yb0 := joinB HB0.out (Below.refl _ w0).drew
  refine wp_region_held_drew (S := (fun u => u.heap[g]? = some (.cells #[.int .i64 lsn, .int .i64 prev, .int .i64 txn, .int .i64 2, .int .i64 page, .int .i64 next, .int .i64 nu, .int .i64 ok, .int .i64 os, .string oo, .string on, .int .i64 1, .int .i64 root, .string ek, .int .i64 ep, .int .i64 es, .slice A ts.length c, .slice B ds.length d] 49 (0, 0)))) (by kernel_rfl) ?_ (fun hHeld => ?_)
  · first | exact hSn | exact Xb0
  refine wpAnyH_take (i := 0) (oi := { dst := some 4, op := _, type := _, pos := _, after := _, guard := _ }) (v := ?_) rfl (by kernel_rfl) (by kernel_rfl) (by kernel_rfl) (fun _ _ _ h => h) (Or.inl ⟨by rfl, ?_⟩) (by assumption) ?_
  rotate_left
  · intro u hSu; have hSv := blkCell hSu; clear hSu; go_simp; (try with_reducible rfl)
  try simp only [Act.put, List.setIfInBounds_toArray, List.set_cons_zero, List.set_cons_succ]
  refine wpAnyH_take (i := 1) (oi := { dst := some 5, op := _, type := _, pos := _, after := _, guard := _ }) (v := ?_) rfl (by kernel_rfl) (by kernel_rfl) (by kernel_rfl) (fun _ _ _ h => h) (Or.inl ⟨by rfl, ?_⟩) (by assumption) ?_
  rotate_left
  · intro u hSu; have hSv := blkCell hSu; clear hSu; go_simp; (try with_reducible rfl)
  try simp only [Act.put, List.setIfInBounds_toArray, List.set_cons_zero, List.set_cons_succ]
  refine wpAnyH_take (i := 3) (oi := { dst := some 7, op := _, type := _, pos := _, after := _, guard := _ }) (v := ?_) rfl (by kernel_rfl) (by kernel_rfl) (by kernel_rfl) (fun _ _ _ h => h) (Or.inl ⟨by rfl, ?_⟩) (by assumption) ?_
  rotate_left
  · intro u hSu; have hSv := blkCell hSu; clear hSu; go_simp; (try with_reducible rfl)
  try simp only [Act.put, List.setIfInBounds_toArray, List.set_cons_zero, List.set_cons_succ]
  refine wpAnyH_take (i := 4) (oi := { dst := some 8, op := _, type := _, pos := _, after := _, guard := _ }) (v := ?_) rfl (by kernel_rfl) (by kernel_rfl) (by kernel_rfl) (fun _ _ _ h => h) (Or.inl ⟨by rfl, ?_⟩) (by assumption) ?_
  rotate_left
  · intro u hSu; have hSv := blkCell hSu; clear hSu; go_simp; (try with_reducible rfl)
  try simp only [Act.put, List.setIfInBounds_toArray, List.set_cons_zero, List.set_cons_succ]
  refine wpAnyH_take (i := 7) (oi := { dst := some 11, op := _, type := _, pos := _, after := _, guard := _ }) (v := ?_) rfl (by kernel_rfl) (by kernel_rfl) (by kernel_rfl) (fun _ _ _ h => h) (Or.inl ⟨by rfl, ?_⟩) (by assumption) ?_
  rotate_left
  · intro u hSu; have hSv := blkCell hSu; clear hSu; go_simp; (try with_reducible rfl)
  try simp only [Act.put, List.setIfInBounds_toArray, List.set_cons_zero, List.set_cons_succ]
  refine wpAnyH_take (i := 8) (oi := { dst := some 12, op := _, type := _, pos := _, after := _, guard := _ }) (v := ?_) rfl (by kernel_rfl) (by kernel_rfl) (by kernel_rfl) (fun _ _ _ h => h) (Or.inl ⟨by rfl, ?_⟩) (by assumption) ?_
  rotate_left
  · intro u hSu; have hSv := blkCell hSu; clear hSu; go_simp; (try with_reducible rfl)
  try simp only [Act.put, List.setIfInBounds_toArray, List.set_cons_zero, List.set_cons_succ]
  refine wpAnyH_take (i := 11) (oi := { dst := some 15, op := _, type := _, pos := _, after := _, guard := _ }) (v := ?_) rfl (by kernel_rfl) (by kernel_rfl) (by kernel_rfl) (fun _ _ _ h => h) (Or.inl ⟨by rfl, ?_⟩) (by assumption) ?_
  rotate_left
  · intro u hSu; have hSv := blkCell hSu; clear hSu; go_simp; (try with_reducible rfl)
  try simp only [Act.put, List.setIfInBounds_toArray, List.set_cons_zero, List.set_cons_succ]
  refine wpAnyH_take (i := 12) (oi := { dst := some 16, op := _, type := _, pos := _, after := _, guard := _ }) (v := ?_) rfl (by kernel_rfl) (by kernel_rfl) (by kernel_rfl) (fun _ _ _ h => h) (Or.inl ⟨by rfl, ?_⟩) (by assumption) ?_
  rotate_left
  · intro u hSu; have hSv := blkCell hSu; clear hSu; go_simp; (try with_reducible rfl)
  try simp only [Act.put, List.setIfInBounds_toArray, List.set_cons_zero, List.set_cons_succ]
  refine wpAnyH_ready (rs := [2]) (by kernel_rfl) (by simp) ?_
  refine AllReadyH.cons (o := { dst := some 6, op := _, type := _, pos := _, after := _, guard := _ }) rfl (fun K hK => ?_) ?_
  rotate_left
  · exact AllReadyH.nil
  go_simp
  refine (HC1.out _).mono ?_; rintro e vb1 ⟨rfl, hb⟩; have Xb1 := blkOld Xb0 hb; have Yb1 := joinB Yb0 hb; try clear hSn
  have hSn := Xb1
  clear hb
  refine hK.out _ _ ?_ (fun hHeld => ?_)
  · first | exact hSn | exact Xb0
  clear hK K
  try simp only [Act.put, List.setIfInBounds_toArray, List.set_cons_zero, List.set_cons_succ]
  refine wpAnyH_ready (rs := [5]) (by kernel_rfl) (by simp) ?_
  refine AllReadyH.cons (o := { dst := some 9, op := _, type := _, pos := _, after := _, guard := _ }) rfl (fun K hK => ?_) ?_
  rotate_left
  · exact AllReadyH.nil
  go_simp
  refine (HC2.out _).mono ?_; rintro e vb2 ⟨rfl, hb⟩; have Xb2 := blkOld Xb1 hb; have Yb2 := joinB Yb1 hb; try clear hSn
  have hSn := Xb2
  clear hb
  refine hK.out _ _ ?_ (fun hHeld => ?_)
  · first | exact hSn | exact Xb0
  clear hK K
  try simp only [Act.put, List.setIfInBounds_toArray, List.set_cons_zero, List.set_cons_succ]
  refine wpAnyH_take (i := 6) (oi := { dst := some 10, op := _, type := _, pos := _, after := _, guard := _ }) (v := ?_) rfl (by kernel_rfl) (by kernel_rfl) (by kernel_rfl) (fun _ _ _ h => h) (Or.inl ⟨by rfl, ?_⟩) (by assumption) ?_
  rotate_left
  · intro u hSu; have hSv := blkCell hSu; clear hSu; go_simp; (try with_reducible rfl)
  try simp only [Act.put, List.setIfInBounds_toArray, List.set_cons_zero, List.set_cons_succ]
  refine wpAnyH_ready (rs := [9]) (by kernel_rfl) (by simp) ?_
  refine AllReadyH.cons (o := { dst := some 13, op := _, type := _, pos := _, after := _, guard := _ }) rfl (fun K hK => ?_) ?_
  rotate_left
  · exact AllReadyH.nil
  go_simp
  refine (HC3.out _).mono ?_; rintro e vb3 ⟨rfl, hb⟩; have Xb3 := blkOld Xb2 hb; have Yb3 := joinB Yb2 hb; try clear hSn
  have hSn := Xb3
  clear hb
  refine hK.out _ _ ?_ (fun hHeld => ?_)
  · first | exact hSn | exact Xb0
  clear hK K
  try simp only [Act.put, List.setIfInBounds_toArray, List.set_cons_zero, List.set_cons_succ]
  refine wpAnyH_take (i := 10) (oi := { dst := some 14, op := _, type := _, pos := _, after := _, guard := _ }) (v := ?_) rfl (by kernel_rfl) (by kernel_rfl) (by kernel_rfl) (fun _ _ _ h => h) (Or.inl ⟨by rfl, ?_⟩) (by assumption) ?_
  rotate_left
  · intro u hSu; have hSv := blkCell hSu; clear hSu; go_simp; (try with_reducible rfl)
  try simp only [Act.put, List.setIfInBounds_toArray, List.set_cons_zero, List.set_cons_succ]
  refine wpAnyH_ready (rs := [13]) (by kernel_rfl) (by simp) ?_
  refine AllReadyH.cons (o := { dst := some 17, op := _, type := _, pos := _, after := _, guard := _ }) rfl (fun K hK => ?_) ?_
  rotate_left
  · exact AllReadyH.nil
  go_simp
  refine (HC4.out _).mono ?_; rintro e vb4 ⟨rfl, hb⟩; have Xb4 := blkOld Xb3 hb; have Yb4 := joinB Yb3 hb; try clear hSn
  have hSn := Xb4
  clear hb
  refine hK.out _ _ ?_ (fun hHeld => ?_)
  · first | exact hSn | exact Xb0
  clear hK K
  try simp only [Act.put, List.setIfInBounds_toArray, List.set_cons_zero, List.set_cons_succ]
  refine wpAnyH_take (i := 14) (oi := { dst := some 18, op := _, type := _, pos := _, after := _, guard := _ }) (v := ?_) rfl (by kernel_rfl) (by kernel_rfl) (by kernel_rfl) (fun _ _ _ h => h) (Or.inl ⟨by rfl, ?_⟩) (by assumption) ?_
  rotate_left
  · intro u hSu; have hSv := blkCell hSu; clear hSu; go_simp; (try with_reducible rfl)
  try simp only [Act.put, List.setIfInBounds_toArray, List.set_cons_zero, List.set_cons_succ]
  refine wpAnyH_take (i := 15) (oi := { dst := some 3, op := _, type := _, pos := _, after := _, guard := _ }) (v := ?_) rfl (by kernel_rfl) (by kernel_rfl) (by kernel_rfl) (fun _ _ _ h => h) (Or.inl ⟨by rfl, ?_⟩) (by assumption) ?_
  rotate_left
  · intro u hSu; have hSv := blkCell hSu; clear hSu; go_simp; (try with_reducible rfl)
  try simp only [Act.put, List.setIfInBounds_toArray, List.set_cons_zero, List.set_cons_succ]
  refine wpAnyH_done (by kernel_rfl) ?_ _
  have HX1 := Lib.hid Xb4
  have HB1 := Lib.hid Yb4
  clear hHeld hSn Xb0 Yb0 Xb1 Yb1 Xb2 Yb2 Xb3 Yb3 Xb4 Yb4
  have hcg1 := blkCell HX1.out
  go_upto_region 4 with fail
  have Xc0 := blkOld HX1.out (Below.refl _ vb4).drew
  have Yc0 := joinB HB1.out (Below.refl _ vb4).drew
  refine wp_region_held_drew (S := (fun u => u.heap[g]? = some (.cells #[.int .i64 lsn, .int .i64 prev, .int .i64 txn, .int .i64 2, .int .i64 page, .int .i64 next, .int .i64 nu, .int .i64 ok, .int .i64 os, .string oo, .string on, .int .i64 1, .int .i64 root, .string ek, .int .i64 ep, .int .i64 es, .slice A ts.length c, .slice B ds.length d] 49 (0, 0)))) (by kernel_rfl) ?_ (fun hHeld => ?_)
  · first | exact hSn | exact Xc0
  refine wpAnyH_take (i := 0) (oi := { dst := some 23, op := _, type := _, pos := _, after := _, guard := _ }) (v := ?_) rfl (by kernel_rfl) (by kernel_rfl) (by kernel_rfl) (fun _ _ _ h => h) (Or.inl ⟨by rfl, ?_⟩) (by assumption) ?_
  rotate_left
  · intro u hSu; have hSv := blkCell hSu; clear hSu; go_simp; (try with_reducible rfl)
  try simp only [Act.put, List.setIfInBounds_toArray, List.set_cons_zero, List.set_cons_succ]
  refine wpAnyH_take (i := 1) (oi := { dst := some 24, op := _, type := _, pos := _, after := _, guard := _ }) (v := ?_) rfl (by kernel_rfl) (by kernel_rfl) (by kernel_rfl) (fun _ _ _ h => h) (Or.inl ⟨by rfl, ?_⟩) (by assumption) ?_
  rotate_left
  · intro u hSu; have hSv := blkCell hSu; clear hSu; go_simp; (try with_reducible rfl)
  try simp only [Act.put, List.setIfInBounds_toArray, List.set_cons_zero, List.set_cons_succ]
  refine wpAnyH_take (i := 2) (oi := { dst := some 25, op := _, type := _, pos := _, after := _, guard := _ }) (v := ?_) rfl (by kernel_rfl) (by kernel_rfl) (by kernel_rfl) (fun _ _ _ h => h) (Or.inl ⟨by rfl, ?_⟩) (by assumption) ?_
  rotate_left
  · intro u hSu; have hSv := blkCell hSu; clear hSu; go_simp; (try with_reducible rfl)
  try simp only [Act.put, List.setIfInBounds_toArray, List.set_cons_zero, List.set_cons_succ]
  refine wpAnyH_take (i := 5) (oi := { dst := some 28, op := _, type := _, pos := _, after := _, guard := _ }) (v := ?_) rfl (by kernel_rfl) (by kernel_rfl) (by kernel_rfl) (fun _ _ _ h => h) (Or.inl ⟨by rfl, ?_⟩) (by assumption) ?_
  rotate_left
  · intro u hSu; have hSv := blkCell hSu; clear hSu; go_simp; (try with_reducible rfl)
  try simp only [Act.put, List.setIfInBounds_toArray, List.set_cons_zero, List.set_cons_succ]
  refine wpAnyH_take (i := 6) (oi := { dst := some 29, op := _, type := _, pos := _, after := _, guard := _ }) (v := ?_) rfl (by kernel_rfl) (by kernel_rfl) (by kernel_rfl) (fun _ _ _ h => h) (Or.inl ⟨by rfl, ?_⟩) (by assumption) ?_
  rotate_left
  · intro u hSu; have hSv := blkCell hSu; clear hSu; go_simp; (try with_reducible rfl)
  try simp only [Act.put, List.setIfInBounds_toArray, List.set_cons_zero, List.set_cons_succ]
  refine wpAnyH_take (i := 9) (oi := { dst := some 32, op := _, type := _, pos := _, after := _, guard := _ }) (v := ?_) rfl (by kernel_rfl) (by kernel_rfl) (by kernel_rfl) (fun _ _ _ h => h) (Or.inl ⟨by rfl, ?_⟩) (by assumption) ?_
  rotate_left
  · intro u hSu; have hSv := blkCell hSu; clear hSu; go_simp; (try with_reducible rfl)
  try simp only [Act.put, List.setIfInBounds_toArray, List.set_cons_zero, List.set_cons_succ]
  refine wpAnyH_take (i := 10) (oi := { dst := some 33, op := _, type := _, pos := _, after := _, guard := _ }) (v := ?_) rfl (by kernel_rfl) (by kernel_rfl) (by kernel_rfl) (fun _ _ _ h => h) (Or.inl ⟨by rfl, ?_⟩) (by assumption) ?_
  rotate_left
  · intro u hSu; have hSv := blkCell hSu; clear hSu; go_simp; (try with_reducible rfl)
  try simp only [Act.put, List.setIfInBounds_toArray, List.set_cons_zero, List.set_cons_succ]
  refine wpAnyH_ready (rs := [3]) (by kernel_rfl) (by simp) ?_
  refine AllReadyH.cons (o := { dst := some 26, op := _, type := _, pos := _, after := _, guard := _ }) rfl (fun K hK => ?_) ?_
  rotate_left
  · exact AllReadyH.nil
  go_simp
  refine (HC5.out _).mono ?_; rintro e vc1 ⟨rfl, hb⟩; have Xc1 := blkOld Xc0 hb; have Yc1 := joinB Yc0 hb; try clear hSn
  have hSn := Xc1
  clear hb
  refine hK.out _ _ ?_ (fun hHeld => ?_)
  · first | exact hSn | exact Xc0
  clear hK K
  try simp only [Act.put, List.setIfInBounds_toArray, List.set_cons_zero, List.set_cons_succ]
  refine wpAnyH_take (i := 4) (oi := { dst := some 27, op := _, type := _, pos := _, after := _, guard := _ }) (v := ?_) rfl (by kernel_rfl) (by kernel_rfl) (by kernel_rfl) (fun _ _ _ h => h) (Or.inl ⟨by rfl, ?_⟩) (by assumption) ?_
  rotate_left
  · intro u hSu; have hSv := blkCell hSu; clear hSu; go_simp; (try with_reducible rfl)
  try simp only [Act.put, List.setIfInBounds_toArray, List.set_cons_zero, List.set_cons_succ]
  refine wpAnyH_ready (rs := [7]) (by kernel_rfl) (by simp) ?_
  refine AllReadyH.cons (o := { dst := some 30, op := _, type := _, pos := _, after := _, guard := _ }) rfl (fun K hK => ?_) ?_
  rotate_left
  · exact AllReadyH.nil
  go_simp
  refine (HC6.out _).mono ?_; rintro e vc2 ⟨rfl, hb⟩; have Xc2 := blkOld Xc1 hb; have Yc2 := joinB Yc1 hb; try clear hSn
  have hSn := Xc2
  clear hb
  refine hK.out _ _ ?_ (fun hHeld => ?_)
  · first | exact hSn | exact Xc0
  clear hK K
  try simp only [Act.put, List.setIfInBounds_toArray, List.set_cons_zero, List.set_cons_succ]
  refine wpAnyH_take (i := 8) (oi := { dst := some 31, op := _, type := _, pos := _, after := _, guard := _ }) (v := ?_) rfl (by kernel_rfl) (by kernel_rfl) (by kernel_rfl) (fun _ _ _ h => h) (Or.inl ⟨by rfl, ?_⟩) (by assumption) ?_
  rotate_left
  · intro u hSu; have hSv := blkCell hSu; clear hSu; go_simp; (try with_reducible rfl)
  try simp only [Act.put, List.setIfInBounds_toArray, List.set_cons_zero, List.set_cons_succ]
  refine wpAnyH_ready (rs := [11]) (by kernel_rfl) (by simp) ?_
  refine AllReadyH.cons (o := { dst := some 34, op := _, type := _, pos := _, after := _, guard := _ }) rfl (fun K hK => ?_) ?_
  rotate_left
  · exact AllReadyH.nil
  go_simp
  refine (HC7.out _).mono ?_; rintro e vc3 ⟨rfl, hb⟩; have Xc3 := blkOld Xc2 hb; have Yc3 := joinB Yc2 hb; try clear hSn
  have hSn := Xc3
  clear hb
  refine hK.out _ _ ?_ (fun hHeld => ?_)
  · first | exact hSn | exact Xc0
  clear hK K
  try simp only [Act.put, List.setIfInBounds_toArray, List.set_cons_zero, List.set_cons_succ]
  refine wpAnyH_take (i := 12) (oi := { dst := some 35, op := _, type := _, pos := _, after := _, guard := _ }) (v := ?_) rfl (by kernel_rfl) (by kernel_rfl) (by kernel_rfl) (fun _ _ _ h => h) (Or.inl ⟨by rfl, ?_⟩) (by assumption) ?_
  rotate_left
  · intro u hSu; have hSv := blkCell hSu; clear hSu; go_simp; (try with_reducible rfl)
  try simp only [Act.put, List.setIfInBounds_toArray, List.set_cons_zero, List.set_cons_succ]
  refine wpAnyH_take (i := 13) (oi := { dst := some 3, op := _, type := _, pos := _, after := _, guard := _ }) (v := ?_) rfl (by kernel_rfl) (by kernel_rfl) (by kernel_rfl) (fun _ _ _ h => h) (Or.inl ⟨by rfl, ?_⟩) (by assumption) ?_
  rotate_left
  · intro u hSu; have hSv := blkCell hSu; clear hSu; go_simp; (try with_reducible rfl)
  try simp only [Act.put, List.setIfInBounds_toArray, List.set_cons_zero, List.set_cons_succ]
  refine wpAnyH_done (by kernel_rfl) ?_ _
  have HX2 := Lib.hid Xc3
  have HB2 := Lib.hid Yc3
  clear hHeld hSn Xc0 Yc0 Xc1 Yc1 Xc2 Yc2 Xc3 Yc3
  have hcg2 := blkCell HX2.out
  go_wp2_with fail
  go_ret
  exact ⟨by rw [← HE.out]; rfl, HB2.out⟩
end Go.Proofs.Ytojaagnfjenhoaa
