/- The walks over the reference of records: a record's bytes. -/
import Derived.Test.YthfglhafphfhiaaGreatGp12
import Derived.Test.YthfglhafphfhiaaGreatGp03
import Derived.Lib.ConvBytes
import Derived.Lib.AppendStr
import Derived.Lib.FrozenHead
import Derived.Deep.MidRow
import Derived.Lib.LazyBuf
import Derived.Test.YthfglhafphfhiaaGreatGp04
namespace Rc
/-- Bytes as a string. -/
def mk (l : List UInt8) : ByteArray := ⟨l.toArray⟩
theorem mk_size (l : List UInt8) : (mk l).size = l.length := by unfold mk; show l.toArray.size = _; simp
theorem mk_app (a b : List UInt8) : mk a ++ mk b = mk (a ++ b) := by
  apply ByteArray.ext
  rw [ByteArray.data_append]
  unfold mk
  simp
theorem put_mk (n : Int) (k : Nat) (hk : k ≤ 8) : Oct.putB n (k : Int) = mk (p n k) := by
  apply ByteArray.ext
  apply Array.toList_inj.1
  rw [Oct.putB_list _ _ hk]
  rfl
end Rc
namespace Go.Proofs.YthfglhafphfhiaaGreat
open Go.RowKit
theorem rput_mk (n : Int) (k : Nat) (hk : k ≤ 8) (w : World) :
    Calls Tryz.prog 78 #[.int .i64 n, .int .i64 (k : Int)] w fun e w' => e = .returned (.string (Rc.mk (Rc.p n k))) ∧ Below w.heap.size w w' := by
  rw [← Rc.put_mk n k hk]
  exact rput_any n k (by omega) (by omega) w
theorem add_mk (a b : List UInt8) (h : a.length + b.length ≤ 1000000) (W : World) : (Op.stringOp .add (Rc.mk a) (Rc.mk b)).run Tryz.prog W = .ok (.string (Rc.mk (a ++ b))) W := by
  rw [← Rc.mk_app]
  exact run_string_add_sum W _ _ (by rw [Rc.mk_size, Rc.mk_size]; omega)
set_option maxRecDepth 100000 in
set_option maxHeartbeats 4000000 in
theorem rbody_1 (lsn prev txn page next nu ok os root ep es : Int) (how : Int) (oo on ek : ByteArray) (ts : List Rc.TxnAt) (ds : List Rc.DirtyAt) (A B : Option Addr) (c d : Nat) (w : World) :
    Calls Tryz.prog 111 #[.agg #[.int .i64 lsn, .int .i64 prev, .int .i64 txn, .int .i64 1, .int .i64 page, .int .i64 next, .int .i64 nu, .int .i64 ok, .int .i64 os, .string oo, .string on, .int .i64 how, .int .i64 root, .string ek, .int .i64 ep, .int .i64 es, .slice A ts.length c, .slice B ds.length d]] w fun e w' => e = .returned (.string (Rc.mk (Rc.bodyB ⟨lsn, prev, txn, 1, page, next, nu, ⟨ok, os, oo, on⟩, how, root, ⟨ek, ep, es⟩, ts, ds⟩))) ∧ Below w.heap.size w w' := by
  obtain ⟨w0, hw0⟩ : ∃ W, W = w.alloc (.cells #[.int .i64 lsn, .int .i64 prev, .int .i64 txn, .int .i64 1, .int .i64 page, .int .i64 next, .int .i64 nu, .int .i64 ok, .int .i64 os, .string oo, .string on, .int .i64 how, .int .i64 root, .string ek, .int .i64 ep, .int .i64 es, .slice A ts.length c, .slice B ds.length d] 85) := ⟨_, rfl⟩
  have HB0 := Lib.hid (show Below w.heap.size w w0 from by rw [hw0]; exact allocB _ _)
  have HX0 := Lib.hid (show w0.heap[w.heap.size]? = some (.cells #[.int .i64 lsn, .int .i64 prev, .int .i64 txn, .int .i64 1, .int .i64 page, .int .i64 next, .int .i64 nu, .int .i64 ok, .int .i64 os, .string oo, .string on, .int .i64 how, .int .i64 root, .string ek, .int .i64 ep, .int .i64 es, .slice A ts.length c, .slice B ds.length d] 85 (0, 0)) from by rw [hw0]; exact heap_alloc_new _ _)
  obtain ⟨R, hR⟩ : ∃ R, R = Rc.mk (Rc.bodyB ⟨lsn, prev, txn, 1, page, next, nu, ⟨ok, os, oo, on⟩, how, root, ⟨ek, ep, es⟩, ts, ds⟩) := ⟨_, rfl⟩
  rw [← hR]
  obtain ⟨B1, hB1⟩ : ∃ b, b = Rc.mk (Rc.p 1 1) := ⟨_, rfl⟩
  have hl1 : ((Rc.p 1 1)).length = 1 := Rc.p_length _ _
  have HC1 := Lib.hid (show ∀ W, Calls Tryz.prog 78 #[.int .i64 1, .int .i64 1] W fun e w' => e = .returned (.string B1) ∧ Below W.heap.size W w' from fun W => by rw [hB1]; exact rput_mk 1 1 (by omega) W)
  obtain ⟨B2, hB2⟩ : ∃ b, b = Rc.mk (Rc.p lsn 6) := ⟨_, rfl⟩
  have hl2 : ((Rc.p lsn 6)).length = 6 := Rc.p_length _ _
  have HC2 := Lib.hid (show ∀ W, Calls Tryz.prog 78 #[.int .i64 lsn, .int .i64 6] W fun e w' => e = .returned (.string B2) ∧ Below W.heap.size W w' from fun W => by rw [hB2]; exact rput_mk lsn 6 (by omega) W)
  obtain ⟨S2, hS2⟩ : ∃ b, b = Rc.mk ((Rc.p 1 1) ++ (Rc.p lsn 6)) := ⟨_, rfl⟩
  have ha2 : ∀ W : World, (Op.stringOp .add B1 B2).run Tryz.prog W = .ok (.string S2) W := fun W => by rw [hB1, hB2, hS2]; exact add_mk _ _ (by (try simp only [List.length_append]); omega) W
  obtain ⟨B3, hB3⟩ : ∃ b, b = Rc.mk (Rc.p prev 6) := ⟨_, rfl⟩
  have hl3 : ((Rc.p prev 6)).length = 6 := Rc.p_length _ _
  have HC3 := Lib.hid (show ∀ W, Calls Tryz.prog 78 #[.int .i64 prev, .int .i64 6] W fun e w' => e = .returned (.string B3) ∧ Below W.heap.size W w' from fun W => by rw [hB3]; exact rput_mk prev 6 (by omega) W)
  obtain ⟨S3, hS3⟩ : ∃ b, b = Rc.mk (((Rc.p 1 1) ++ (Rc.p lsn 6)) ++ (Rc.p prev 6)) := ⟨_, rfl⟩
  have ha3 : ∀ W : World, (Op.stringOp .add S2 B3).run Tryz.prog W = .ok (.string S3) W := fun W => by rw [hS2, hB3, hS3]; exact add_mk _ _ (by (try simp only [List.length_append]); omega) W
  obtain ⟨B4, hB4⟩ : ∃ b, b = Rc.mk (Rc.p txn 6) := ⟨_, rfl⟩
  have hl4 : ((Rc.p txn 6)).length = 6 := Rc.p_length _ _
  have HC4 := Lib.hid (show ∀ W, Calls Tryz.prog 78 #[.int .i64 txn, .int .i64 6] W fun e w' => e = .returned (.string B4) ∧ Below W.heap.size W w' from fun W => by rw [hB4]; exact rput_mk txn 6 (by omega) W)
  obtain ⟨S4, hS4⟩ : ∃ b, b = Rc.mk ((((Rc.p 1 1) ++ (Rc.p lsn 6)) ++ (Rc.p prev 6)) ++ (Rc.p txn 6)) := ⟨_, rfl⟩
  have ha4 : ∀ W : World, (Op.stringOp .add S3 B4).run Tryz.prog W = .ok (.string S4) W := fun W => by rw [hS3, hB4, hS4]; exact add_mk _ _ (by (try simp only [List.length_append]); omega) W
  have HE := Lib.hid (show S4 = R from by rw [hS4, hR]; (congr 1) <;> (unfold Rc.bodyB; rw [show Rc.restB ⟨lsn, prev, txn, 1, page, next, nu, ⟨ok, os, oo, on⟩, how, root, ⟨ek, ep, es⟩, ts, ds⟩ = [] from by unfold Rc.restB; rfl]; unfold Rc.headB; simp only [List.append_assoc, List.append_nil]))
  clear hB1 hl1
  clear hB2 hl2
  clear hB3 hl3
  clear hB4 hl4
  clear hS2
  clear hS3
  clear hS4
  clear hR
  go_enter Tryz.func111, Tryz.ntmps111
  go_upto_region 1 with fail
  rw [← hw0]
  clear hw0
  obtain ⟨g, hg⟩ : ∃ g, g = w.heap.size := ⟨_, rfl⟩
  rw [← hg] at HX0
  rw [← hg]
  clear hg
  go_upto_region 1 with fail
  have Xb0 := blkOld HX0.out (Below.refl _ w0).drew
  have Yb0 := joinB HB0.out (Below.refl _ w0).drew
  refine wp_region_held_drew (S := (fun u => u.heap[g]? = some (.cells #[.int .i64 lsn, .int .i64 prev, .int .i64 txn, .int .i64 1, .int .i64 page, .int .i64 next, .int .i64 nu, .int .i64 ok, .int .i64 os, .string oo, .string on, .int .i64 how, .int .i64 root, .string ek, .int .i64 ep, .int .i64 es, .slice A ts.length c, .slice B ds.length d] 85 (0, 0)))) (by kernel_rfl) ?_ (fun hHeld => ?_)
  · first | exact hSn | exact Xb0
  refine tkW 0 (some 4) (v := ?_) rfl ?_ ?_
  rotate_left
  · intro u hSu; have hSv := blkCell hSu; clear hSu; go_simp; (try with_reducible rfl)
  try simp only [Act.put, List.setIfInBounds_toArray, List.set_cons_zero, List.set_cons_succ]
  refine tkW 1 (some 5) (v := ?_) rfl ?_ ?_
  rotate_left
  · intro u hSu; have hSv := blkCell hSu; clear hSu; go_simp; (try with_reducible rfl)
  try simp only [Act.put, List.setIfInBounds_toArray, List.set_cons_zero, List.set_cons_succ]
  refine tkW 3 (some 7) (v := ?_) rfl ?_ ?_
  rotate_left
  · intro u hSu; have hSv := blkCell hSu; clear hSu; go_simp; (try with_reducible rfl)
  try simp only [Act.put, List.setIfInBounds_toArray, List.set_cons_zero, List.set_cons_succ]
  refine tkW 4 (some 8) (v := ?_) rfl ?_ ?_
  rotate_left
  · intro u hSu; have hSv := blkCell hSu; clear hSu; go_simp; (try with_reducible rfl)
  try simp only [Act.put, List.setIfInBounds_toArray, List.set_cons_zero, List.set_cons_succ]
  refine tkW 7 (some 11) (v := ?_) rfl ?_ ?_
  rotate_left
  · intro u hSu; have hSv := blkCell hSu; clear hSu; go_simp; (try with_reducible rfl)
  try simp only [Act.put, List.setIfInBounds_toArray, List.set_cons_zero, List.set_cons_succ]
  refine tkW 8 (some 12) (v := ?_) rfl ?_ ?_
  rotate_left
  · intro u hSu; have hSv := blkCell hSu; clear hSu; go_simp; (try with_reducible rfl)
  try simp only [Act.put, List.setIfInBounds_toArray, List.set_cons_zero, List.set_cons_succ]
  refine tkW 11 (some 15) (v := ?_) rfl ?_ ?_
  rotate_left
  · intro u hSu; have hSv := blkCell hSu; clear hSu; go_simp; (try with_reducible rfl)
  try simp only [Act.put, List.setIfInBounds_toArray, List.set_cons_zero, List.set_cons_succ]
  refine tkW 12 (some 16) (v := ?_) rfl ?_ ?_
  rotate_left
  · intro u hSu; have hSv := blkCell hSu; clear hSu; go_simp; (try with_reducible rfl)
  try simp only [Act.put, List.setIfInBounds_toArray, List.set_cons_zero, List.set_cons_succ]
  refine rdH 2 (some 6) rfl (fun K hK => ?_)
  go_simp
  refine (HC1.out _).mono ?_; rintro e vb1 ⟨rfl, hb⟩; have Xb1 := blkOld Xb0 hb; have Yb1 := joinB Yb0 hb; try clear hSn
  have hSn := Xb1
  clear hb
  refine hK.out _ _ ?_ (fun hHeld => ?_)
  · first | exact hSn | exact Xb0
  clear hK K
  try simp only [Act.put, List.setIfInBounds_toArray, List.set_cons_zero, List.set_cons_succ]
  refine rdH 5 (some 9) rfl (fun K hK => ?_)
  go_simp
  refine (HC2.out _).mono ?_; rintro e vb2 ⟨rfl, hb⟩; have Xb2 := blkOld Xb1 hb; have Yb2 := joinB Yb1 hb; try clear hSn
  have hSn := Xb2
  clear hb
  refine hK.out _ _ ?_ (fun hHeld => ?_)
  · first | exact hSn | exact Xb0
  clear hK K
  try simp only [Act.put, List.setIfInBounds_toArray, List.set_cons_zero, List.set_cons_succ]
  refine tkW 6 (some 10) (v := ?_) rfl ?_ ?_
  rotate_left
  · intro u hSu; have hSv := blkCell hSu; clear hSu; go_simp; (try with_reducible rfl)
  try simp only [Act.put, List.setIfInBounds_toArray, List.set_cons_zero, List.set_cons_succ]
  refine rdH 9 (some 13) rfl (fun K hK => ?_)
  go_simp
  refine (HC3.out _).mono ?_; rintro e vb3 ⟨rfl, hb⟩; have Xb3 := blkOld Xb2 hb; have Yb3 := joinB Yb2 hb; try clear hSn
  have hSn := Xb3
  clear hb
  refine hK.out _ _ ?_ (fun hHeld => ?_)
  · first | exact hSn | exact Xb0
  clear hK K
  try simp only [Act.put, List.setIfInBounds_toArray, List.set_cons_zero, List.set_cons_succ]
  refine tkW 10 (some 14) (v := ?_) rfl ?_ ?_
  rotate_left
  · intro u hSu; have hSv := blkCell hSu; clear hSu; go_simp; (try with_reducible rfl)
  try simp only [Act.put, List.setIfInBounds_toArray, List.set_cons_zero, List.set_cons_succ]
  refine rdH 13 (some 17) rfl (fun K hK => ?_)
  go_simp
  refine (HC4.out _).mono ?_; rintro e vb4 ⟨rfl, hb⟩; have Xb4 := blkOld Xb3 hb; have Yb4 := joinB Yb3 hb; try clear hSn
  have hSn := Xb4
  clear hb
  refine hK.out _ _ ?_ (fun hHeld => ?_)
  · first | exact hSn | exact Xb0
  clear hK K
  try simp only [Act.put, List.setIfInBounds_toArray, List.set_cons_zero, List.set_cons_succ]
  refine tkW 14 (some 18) (v := ?_) rfl ?_ ?_
  rotate_left
  · intro u hSu; have hSv := blkCell hSu; clear hSu; go_simp; (try with_reducible rfl)
  try simp only [Act.put, List.setIfInBounds_toArray, List.set_cons_zero, List.set_cons_succ]
  refine tkW 15 (some 3) (v := ?_) rfl ?_ ?_
  rotate_left
  · intro u hSu; have hSv := blkCell hSu; clear hSu; go_simp; (try with_reducible rfl)
  try simp only [Act.put, List.setIfInBounds_toArray, List.set_cons_zero, List.set_cons_succ]
  refine wpAnyH_done (by kernel_rfl) ?_ _
  have HX1 := Lib.hid Xb4
  have HB1 := Lib.hid Yb4
  clear hHeld hSn Xb0 Yb0 Xb1 Yb1 Xb2 Yb2 Xb3 Yb3 Xb4 Yb4
  have hcg1 := blkCell HX1.out
  go_wp2_with fail
  go_ret
  exact ⟨by rw [← HE.out]; rfl, HB1.out⟩
set_option maxRecDepth 100000 in
set_option maxHeartbeats 4000000 in
theorem rbody_5 (lsn prev txn page next nu ok os root ep es : Int) (how : Int) (oo on ek : ByteArray) (ts : List Rc.TxnAt) (ds : List Rc.DirtyAt) (A B : Option Addr) (c d : Nat) (w : World) :
    Calls Tryz.prog 111 #[.agg #[.int .i64 lsn, .int .i64 prev, .int .i64 txn, .int .i64 5, .int .i64 page, .int .i64 next, .int .i64 nu, .int .i64 ok, .int .i64 os, .string oo, .string on, .int .i64 how, .int .i64 root, .string ek, .int .i64 ep, .int .i64 es, .slice A ts.length c, .slice B ds.length d]] w fun e w' => e = .returned (.string (Rc.mk (Rc.bodyB ⟨lsn, prev, txn, 5, page, next, nu, ⟨ok, os, oo, on⟩, how, root, ⟨ek, ep, es⟩, ts, ds⟩))) ∧ Below w.heap.size w w' := by
  obtain ⟨w0, hw0⟩ : ∃ W, W = w.alloc (.cells #[.int .i64 lsn, .int .i64 prev, .int .i64 txn, .int .i64 5, .int .i64 page, .int .i64 next, .int .i64 nu, .int .i64 ok, .int .i64 os, .string oo, .string on, .int .i64 how, .int .i64 root, .string ek, .int .i64 ep, .int .i64 es, .slice A ts.length c, .slice B ds.length d] 85) := ⟨_, rfl⟩
  have HB0 := Lib.hid (show Below w.heap.size w w0 from by rw [hw0]; exact allocB _ _)
  have HX0 := Lib.hid (show w0.heap[w.heap.size]? = some (.cells #[.int .i64 lsn, .int .i64 prev, .int .i64 txn, .int .i64 5, .int .i64 page, .int .i64 next, .int .i64 nu, .int .i64 ok, .int .i64 os, .string oo, .string on, .int .i64 how, .int .i64 root, .string ek, .int .i64 ep, .int .i64 es, .slice A ts.length c, .slice B ds.length d] 85 (0, 0)) from by rw [hw0]; exact heap_alloc_new _ _)
  obtain ⟨R, hR⟩ : ∃ R, R = Rc.mk (Rc.bodyB ⟨lsn, prev, txn, 5, page, next, nu, ⟨ok, os, oo, on⟩, how, root, ⟨ek, ep, es⟩, ts, ds⟩) := ⟨_, rfl⟩
  rw [← hR]
  obtain ⟨B1, hB1⟩ : ∃ b, b = Rc.mk (Rc.p 5 1) := ⟨_, rfl⟩
  have hl1 : ((Rc.p 5 1)).length = 1 := Rc.p_length _ _
  have HC1 := Lib.hid (show ∀ W, Calls Tryz.prog 78 #[.int .i64 5, .int .i64 1] W fun e w' => e = .returned (.string B1) ∧ Below W.heap.size W w' from fun W => by rw [hB1]; exact rput_mk 5 1 (by omega) W)
  obtain ⟨B2, hB2⟩ : ∃ b, b = Rc.mk (Rc.p lsn 6) := ⟨_, rfl⟩
  have hl2 : ((Rc.p lsn 6)).length = 6 := Rc.p_length _ _
  have HC2 := Lib.hid (show ∀ W, Calls Tryz.prog 78 #[.int .i64 lsn, .int .i64 6] W fun e w' => e = .returned (.string B2) ∧ Below W.heap.size W w' from fun W => by rw [hB2]; exact rput_mk lsn 6 (by omega) W)
  obtain ⟨S2, hS2⟩ : ∃ b, b = Rc.mk ((Rc.p 5 1) ++ (Rc.p lsn 6)) := ⟨_, rfl⟩
  have ha2 : ∀ W : World, (Op.stringOp .add B1 B2).run Tryz.prog W = .ok (.string S2) W := fun W => by rw [hB1, hB2, hS2]; exact add_mk _ _ (by (try simp only [List.length_append]); omega) W
  obtain ⟨B3, hB3⟩ : ∃ b, b = Rc.mk (Rc.p prev 6) := ⟨_, rfl⟩
  have hl3 : ((Rc.p prev 6)).length = 6 := Rc.p_length _ _
  have HC3 := Lib.hid (show ∀ W, Calls Tryz.prog 78 #[.int .i64 prev, .int .i64 6] W fun e w' => e = .returned (.string B3) ∧ Below W.heap.size W w' from fun W => by rw [hB3]; exact rput_mk prev 6 (by omega) W)
  obtain ⟨S3, hS3⟩ : ∃ b, b = Rc.mk (((Rc.p 5 1) ++ (Rc.p lsn 6)) ++ (Rc.p prev 6)) := ⟨_, rfl⟩
  have ha3 : ∀ W : World, (Op.stringOp .add S2 B3).run Tryz.prog W = .ok (.string S3) W := fun W => by rw [hS2, hB3, hS3]; exact add_mk _ _ (by (try simp only [List.length_append]); omega) W
  obtain ⟨B4, hB4⟩ : ∃ b, b = Rc.mk (Rc.p txn 6) := ⟨_, rfl⟩
  have hl4 : ((Rc.p txn 6)).length = 6 := Rc.p_length _ _
  have HC4 := Lib.hid (show ∀ W, Calls Tryz.prog 78 #[.int .i64 txn, .int .i64 6] W fun e w' => e = .returned (.string B4) ∧ Below W.heap.size W w' from fun W => by rw [hB4]; exact rput_mk txn 6 (by omega) W)
  obtain ⟨S4, hS4⟩ : ∃ b, b = Rc.mk ((((Rc.p 5 1) ++ (Rc.p lsn 6)) ++ (Rc.p prev 6)) ++ (Rc.p txn 6)) := ⟨_, rfl⟩
  have ha4 : ∀ W : World, (Op.stringOp .add S3 B4).run Tryz.prog W = .ok (.string S4) W := fun W => by rw [hS3, hB4, hS4]; exact add_mk _ _ (by (try simp only [List.length_append]); omega) W
  have HE := Lib.hid (show S4 = R from by rw [hS4, hR]; (congr 1) <;> (unfold Rc.bodyB; rw [show Rc.restB ⟨lsn, prev, txn, 5, page, next, nu, ⟨ok, os, oo, on⟩, how, root, ⟨ek, ep, es⟩, ts, ds⟩ = [] from by unfold Rc.restB; rfl]; unfold Rc.headB; simp only [List.append_assoc, List.append_nil]))
  clear hB1 hl1
  clear hB2 hl2
  clear hB3 hl3
  clear hB4 hl4
  clear hS2
  clear hS3
  clear hS4
  clear hR
  go_enter Tryz.func111, Tryz.ntmps111
  go_upto_region 1 with fail
  rw [← hw0]
  clear hw0
  obtain ⟨g, hg⟩ : ∃ g, g = w.heap.size := ⟨_, rfl⟩
  rw [← hg] at HX0
  rw [← hg]
  clear hg
  go_upto_region 1 with fail
  have Xb0 := blkOld HX0.out (Below.refl _ w0).drew
  have Yb0 := joinB HB0.out (Below.refl _ w0).drew
  refine wp_region_held_drew (S := (fun u => u.heap[g]? = some (.cells #[.int .i64 lsn, .int .i64 prev, .int .i64 txn, .int .i64 5, .int .i64 page, .int .i64 next, .int .i64 nu, .int .i64 ok, .int .i64 os, .string oo, .string on, .int .i64 how, .int .i64 root, .string ek, .int .i64 ep, .int .i64 es, .slice A ts.length c, .slice B ds.length d] 85 (0, 0)))) (by kernel_rfl) ?_ (fun hHeld => ?_)
  · first | exact hSn | exact Xb0
  refine tkW 0 (some 4) (v := ?_) rfl ?_ ?_
  rotate_left
  · intro u hSu; have hSv := blkCell hSu; clear hSu; go_simp; (try with_reducible rfl)
  try simp only [Act.put, List.setIfInBounds_toArray, List.set_cons_zero, List.set_cons_succ]
  refine tkW 1 (some 5) (v := ?_) rfl ?_ ?_
  rotate_left
  · intro u hSu; have hSv := blkCell hSu; clear hSu; go_simp; (try with_reducible rfl)
  try simp only [Act.put, List.setIfInBounds_toArray, List.set_cons_zero, List.set_cons_succ]
  refine tkW 3 (some 7) (v := ?_) rfl ?_ ?_
  rotate_left
  · intro u hSu; have hSv := blkCell hSu; clear hSu; go_simp; (try with_reducible rfl)
  try simp only [Act.put, List.setIfInBounds_toArray, List.set_cons_zero, List.set_cons_succ]
  refine tkW 4 (some 8) (v := ?_) rfl ?_ ?_
  rotate_left
  · intro u hSu; have hSv := blkCell hSu; clear hSu; go_simp; (try with_reducible rfl)
  try simp only [Act.put, List.setIfInBounds_toArray, List.set_cons_zero, List.set_cons_succ]
  refine tkW 7 (some 11) (v := ?_) rfl ?_ ?_
  rotate_left
  · intro u hSu; have hSv := blkCell hSu; clear hSu; go_simp; (try with_reducible rfl)
  try simp only [Act.put, List.setIfInBounds_toArray, List.set_cons_zero, List.set_cons_succ]
  refine tkW 8 (some 12) (v := ?_) rfl ?_ ?_
  rotate_left
  · intro u hSu; have hSv := blkCell hSu; clear hSu; go_simp; (try with_reducible rfl)
  try simp only [Act.put, List.setIfInBounds_toArray, List.set_cons_zero, List.set_cons_succ]
  refine tkW 11 (some 15) (v := ?_) rfl ?_ ?_
  rotate_left
  · intro u hSu; have hSv := blkCell hSu; clear hSu; go_simp; (try with_reducible rfl)
  try simp only [Act.put, List.setIfInBounds_toArray, List.set_cons_zero, List.set_cons_succ]
  refine tkW 12 (some 16) (v := ?_) rfl ?_ ?_
  rotate_left
  · intro u hSu; have hSv := blkCell hSu; clear hSu; go_simp; (try with_reducible rfl)
  try simp only [Act.put, List.setIfInBounds_toArray, List.set_cons_zero, List.set_cons_succ]
  refine rdH 2 (some 6) rfl (fun K hK => ?_)
  go_simp
  refine (HC1.out _).mono ?_; rintro e vb1 ⟨rfl, hb⟩; have Xb1 := blkOld Xb0 hb; have Yb1 := joinB Yb0 hb; try clear hSn
  have hSn := Xb1
  clear hb
  refine hK.out _ _ ?_ (fun hHeld => ?_)
  · first | exact hSn | exact Xb0
  clear hK K
  try simp only [Act.put, List.setIfInBounds_toArray, List.set_cons_zero, List.set_cons_succ]
  refine rdH 5 (some 9) rfl (fun K hK => ?_)
  go_simp
  refine (HC2.out _).mono ?_; rintro e vb2 ⟨rfl, hb⟩; have Xb2 := blkOld Xb1 hb; have Yb2 := joinB Yb1 hb; try clear hSn
  have hSn := Xb2
  clear hb
  refine hK.out _ _ ?_ (fun hHeld => ?_)
  · first | exact hSn | exact Xb0
  clear hK K
  try simp only [Act.put, List.setIfInBounds_toArray, List.set_cons_zero, List.set_cons_succ]
  refine tkW 6 (some 10) (v := ?_) rfl ?_ ?_
  rotate_left
  · intro u hSu; have hSv := blkCell hSu; clear hSu; go_simp; (try with_reducible rfl)
  try simp only [Act.put, List.setIfInBounds_toArray, List.set_cons_zero, List.set_cons_succ]
  refine rdH 9 (some 13) rfl (fun K hK => ?_)
  go_simp
  refine (HC3.out _).mono ?_; rintro e vb3 ⟨rfl, hb⟩; have Xb3 := blkOld Xb2 hb; have Yb3 := joinB Yb2 hb; try clear hSn
  have hSn := Xb3
  clear hb
  refine hK.out _ _ ?_ (fun hHeld => ?_)
  · first | exact hSn | exact Xb0
  clear hK K
  try simp only [Act.put, List.setIfInBounds_toArray, List.set_cons_zero, List.set_cons_succ]
  refine tkW 10 (some 14) (v := ?_) rfl ?_ ?_
  rotate_left
  · intro u hSu; have hSv := blkCell hSu; clear hSu; go_simp; (try with_reducible rfl)
  try simp only [Act.put, List.setIfInBounds_toArray, List.set_cons_zero, List.set_cons_succ]
  refine rdH 13 (some 17) rfl (fun K hK => ?_)
  go_simp
  refine (HC4.out _).mono ?_; rintro e vb4 ⟨rfl, hb⟩; have Xb4 := blkOld Xb3 hb; have Yb4 := joinB Yb3 hb; try clear hSn
  have hSn := Xb4
  clear hb
  refine hK.out _ _ ?_ (fun hHeld => ?_)
  · first | exact hSn | exact Xb0
  clear hK K
  try simp only [Act.put, List.setIfInBounds_toArray, List.set_cons_zero, List.set_cons_succ]
  refine tkW 14 (some 18) (v := ?_) rfl ?_ ?_
  rotate_left
  · intro u hSu; have hSv := blkCell hSu; clear hSu; go_simp; (try with_reducible rfl)
  try simp only [Act.put, List.setIfInBounds_toArray, List.set_cons_zero, List.set_cons_succ]
  refine tkW 15 (some 3) (v := ?_) rfl ?_ ?_
  rotate_left
  · intro u hSu; have hSv := blkCell hSu; clear hSu; go_simp; (try with_reducible rfl)
  try simp only [Act.put, List.setIfInBounds_toArray, List.set_cons_zero, List.set_cons_succ]
  refine wpAnyH_done (by kernel_rfl) ?_ _
  have HX1 := Lib.hid Xb4
  have HB1 := Lib.hid Yb4
  clear hHeld hSn Xb0 Yb0 Xb1 Yb1 Xb2 Yb2 Xb3 Yb3 Xb4 Yb4
  have hcg1 := blkCell HX1.out
  go_wp2_with fail
  go_ret
  exact ⟨by rw [← HE.out]; rfl, HB1.out⟩
set_option maxRecDepth 100000 in
set_option maxHeartbeats 4000000 in
theorem rbody_6 (lsn prev txn page next nu ok os root ep es : Int) (how : Int) (oo on ek : ByteArray) (ts : List Rc.TxnAt) (ds : List Rc.DirtyAt) (A B : Option Addr) (c d : Nat) (w : World) :
    Calls Tryz.prog 111 #[.agg #[.int .i64 lsn, .int .i64 prev, .int .i64 txn, .int .i64 6, .int .i64 page, .int .i64 next, .int .i64 nu, .int .i64 ok, .int .i64 os, .string oo, .string on, .int .i64 how, .int .i64 root, .string ek, .int .i64 ep, .int .i64 es, .slice A ts.length c, .slice B ds.length d]] w fun e w' => e = .returned (.string (Rc.mk (Rc.bodyB ⟨lsn, prev, txn, 6, page, next, nu, ⟨ok, os, oo, on⟩, how, root, ⟨ek, ep, es⟩, ts, ds⟩))) ∧ Below w.heap.size w w' := by
  obtain ⟨w0, hw0⟩ : ∃ W, W = w.alloc (.cells #[.int .i64 lsn, .int .i64 prev, .int .i64 txn, .int .i64 6, .int .i64 page, .int .i64 next, .int .i64 nu, .int .i64 ok, .int .i64 os, .string oo, .string on, .int .i64 how, .int .i64 root, .string ek, .int .i64 ep, .int .i64 es, .slice A ts.length c, .slice B ds.length d] 85) := ⟨_, rfl⟩
  have HB0 := Lib.hid (show Below w.heap.size w w0 from by rw [hw0]; exact allocB _ _)
  have HX0 := Lib.hid (show w0.heap[w.heap.size]? = some (.cells #[.int .i64 lsn, .int .i64 prev, .int .i64 txn, .int .i64 6, .int .i64 page, .int .i64 next, .int .i64 nu, .int .i64 ok, .int .i64 os, .string oo, .string on, .int .i64 how, .int .i64 root, .string ek, .int .i64 ep, .int .i64 es, .slice A ts.length c, .slice B ds.length d] 85 (0, 0)) from by rw [hw0]; exact heap_alloc_new _ _)
  obtain ⟨R, hR⟩ : ∃ R, R = Rc.mk (Rc.bodyB ⟨lsn, prev, txn, 6, page, next, nu, ⟨ok, os, oo, on⟩, how, root, ⟨ek, ep, es⟩, ts, ds⟩) := ⟨_, rfl⟩
  rw [← hR]
  obtain ⟨B1, hB1⟩ : ∃ b, b = Rc.mk (Rc.p 6 1) := ⟨_, rfl⟩
  have hl1 : ((Rc.p 6 1)).length = 1 := Rc.p_length _ _
  have HC1 := Lib.hid (show ∀ W, Calls Tryz.prog 78 #[.int .i64 6, .int .i64 1] W fun e w' => e = .returned (.string B1) ∧ Below W.heap.size W w' from fun W => by rw [hB1]; exact rput_mk 6 1 (by omega) W)
  obtain ⟨B2, hB2⟩ : ∃ b, b = Rc.mk (Rc.p lsn 6) := ⟨_, rfl⟩
  have hl2 : ((Rc.p lsn 6)).length = 6 := Rc.p_length _ _
  have HC2 := Lib.hid (show ∀ W, Calls Tryz.prog 78 #[.int .i64 lsn, .int .i64 6] W fun e w' => e = .returned (.string B2) ∧ Below W.heap.size W w' from fun W => by rw [hB2]; exact rput_mk lsn 6 (by omega) W)
  obtain ⟨S2, hS2⟩ : ∃ b, b = Rc.mk ((Rc.p 6 1) ++ (Rc.p lsn 6)) := ⟨_, rfl⟩
  have ha2 : ∀ W : World, (Op.stringOp .add B1 B2).run Tryz.prog W = .ok (.string S2) W := fun W => by rw [hB1, hB2, hS2]; exact add_mk _ _ (by (try simp only [List.length_append]); omega) W
  obtain ⟨B3, hB3⟩ : ∃ b, b = Rc.mk (Rc.p prev 6) := ⟨_, rfl⟩
  have hl3 : ((Rc.p prev 6)).length = 6 := Rc.p_length _ _
  have HC3 := Lib.hid (show ∀ W, Calls Tryz.prog 78 #[.int .i64 prev, .int .i64 6] W fun e w' => e = .returned (.string B3) ∧ Below W.heap.size W w' from fun W => by rw [hB3]; exact rput_mk prev 6 (by omega) W)
  obtain ⟨S3, hS3⟩ : ∃ b, b = Rc.mk (((Rc.p 6 1) ++ (Rc.p lsn 6)) ++ (Rc.p prev 6)) := ⟨_, rfl⟩
  have ha3 : ∀ W : World, (Op.stringOp .add S2 B3).run Tryz.prog W = .ok (.string S3) W := fun W => by rw [hS2, hB3, hS3]; exact add_mk _ _ (by (try simp only [List.length_append]); omega) W
  obtain ⟨B4, hB4⟩ : ∃ b, b = Rc.mk (Rc.p txn 6) := ⟨_, rfl⟩
  have hl4 : ((Rc.p txn 6)).length = 6 := Rc.p_length _ _
  have HC4 := Lib.hid (show ∀ W, Calls Tryz.prog 78 #[.int .i64 txn, .int .i64 6] W fun e w' => e = .returned (.string B4) ∧ Below W.heap.size W w' from fun W => by rw [hB4]; exact rput_mk txn 6 (by omega) W)
  obtain ⟨S4, hS4⟩ : ∃ b, b = Rc.mk ((((Rc.p 6 1) ++ (Rc.p lsn 6)) ++ (Rc.p prev 6)) ++ (Rc.p txn 6)) := ⟨_, rfl⟩
  have ha4 : ∀ W : World, (Op.stringOp .add S3 B4).run Tryz.prog W = .ok (.string S4) W := fun W => by rw [hS3, hB4, hS4]; exact add_mk _ _ (by (try simp only [List.length_append]); omega) W
  have HE := Lib.hid (show S4 = R from by rw [hS4, hR]; (congr 1) <;> (unfold Rc.bodyB; rw [show Rc.restB ⟨lsn, prev, txn, 6, page, next, nu, ⟨ok, os, oo, on⟩, how, root, ⟨ek, ep, es⟩, ts, ds⟩ = [] from by unfold Rc.restB; rfl]; unfold Rc.headB; simp only [List.append_assoc, List.append_nil]))
  clear hB1 hl1
  clear hB2 hl2
  clear hB3 hl3
  clear hB4 hl4
  clear hS2
  clear hS3
  clear hS4
  clear hR
  go_enter Tryz.func111, Tryz.ntmps111
  go_upto_region 1 with fail
  rw [← hw0]
  clear hw0
  obtain ⟨g, hg⟩ : ∃ g, g = w.heap.size := ⟨_, rfl⟩
  rw [← hg] at HX0
  rw [← hg]
  clear hg
  go_upto_region 1 with fail
  have Xb0 := blkOld HX0.out (Below.refl _ w0).drew
  have Yb0 := joinB HB0.out (Below.refl _ w0).drew
  refine wp_region_held_drew (S := (fun u => u.heap[g]? = some (.cells #[.int .i64 lsn, .int .i64 prev, .int .i64 txn, .int .i64 6, .int .i64 page, .int .i64 next, .int .i64 nu, .int .i64 ok, .int .i64 os, .string oo, .string on, .int .i64 how, .int .i64 root, .string ek, .int .i64 ep, .int .i64 es, .slice A ts.length c, .slice B ds.length d] 85 (0, 0)))) (by kernel_rfl) ?_ (fun hHeld => ?_)
  · first | exact hSn | exact Xb0
  refine tkW 0 (some 4) (v := ?_) rfl ?_ ?_
  rotate_left
  · intro u hSu; have hSv := blkCell hSu; clear hSu; go_simp; (try with_reducible rfl)
  try simp only [Act.put, List.setIfInBounds_toArray, List.set_cons_zero, List.set_cons_succ]
  refine tkW 1 (some 5) (v := ?_) rfl ?_ ?_
  rotate_left
  · intro u hSu; have hSv := blkCell hSu; clear hSu; go_simp; (try with_reducible rfl)
  try simp only [Act.put, List.setIfInBounds_toArray, List.set_cons_zero, List.set_cons_succ]
  refine tkW 3 (some 7) (v := ?_) rfl ?_ ?_
  rotate_left
  · intro u hSu; have hSv := blkCell hSu; clear hSu; go_simp; (try with_reducible rfl)
  try simp only [Act.put, List.setIfInBounds_toArray, List.set_cons_zero, List.set_cons_succ]
  refine tkW 4 (some 8) (v := ?_) rfl ?_ ?_
  rotate_left
  · intro u hSu; have hSv := blkCell hSu; clear hSu; go_simp; (try with_reducible rfl)
  try simp only [Act.put, List.setIfInBounds_toArray, List.set_cons_zero, List.set_cons_succ]
  refine tkW 7 (some 11) (v := ?_) rfl ?_ ?_
  rotate_left
  · intro u hSu; have hSv := blkCell hSu; clear hSu; go_simp; (try with_reducible rfl)
  try simp only [Act.put, List.setIfInBounds_toArray, List.set_cons_zero, List.set_cons_succ]
  refine tkW 8 (some 12) (v := ?_) rfl ?_ ?_
  rotate_left
  · intro u hSu; have hSv := blkCell hSu; clear hSu; go_simp; (try with_reducible rfl)
  try simp only [Act.put, List.setIfInBounds_toArray, List.set_cons_zero, List.set_cons_succ]
  refine tkW 11 (some 15) (v := ?_) rfl ?_ ?_
  rotate_left
  · intro u hSu; have hSv := blkCell hSu; clear hSu; go_simp; (try with_reducible rfl)
  try simp only [Act.put, List.setIfInBounds_toArray, List.set_cons_zero, List.set_cons_succ]
  refine tkW 12 (some 16) (v := ?_) rfl ?_ ?_
  rotate_left
  · intro u hSu; have hSv := blkCell hSu; clear hSu; go_simp; (try with_reducible rfl)
  try simp only [Act.put, List.setIfInBounds_toArray, List.set_cons_zero, List.set_cons_succ]
  refine rdH 2 (some 6) rfl (fun K hK => ?_)
  go_simp
  refine (HC1.out _).mono ?_; rintro e vb1 ⟨rfl, hb⟩; have Xb1 := blkOld Xb0 hb; have Yb1 := joinB Yb0 hb; try clear hSn
  have hSn := Xb1
  clear hb
  refine hK.out _ _ ?_ (fun hHeld => ?_)
  · first | exact hSn | exact Xb0
  clear hK K
  try simp only [Act.put, List.setIfInBounds_toArray, List.set_cons_zero, List.set_cons_succ]
  refine rdH 5 (some 9) rfl (fun K hK => ?_)
  go_simp
  refine (HC2.out _).mono ?_; rintro e vb2 ⟨rfl, hb⟩; have Xb2 := blkOld Xb1 hb; have Yb2 := joinB Yb1 hb; try clear hSn
  have hSn := Xb2
  clear hb
  refine hK.out _ _ ?_ (fun hHeld => ?_)
  · first | exact hSn | exact Xb0
  clear hK K
  try simp only [Act.put, List.setIfInBounds_toArray, List.set_cons_zero, List.set_cons_succ]
  refine tkW 6 (some 10) (v := ?_) rfl ?_ ?_
  rotate_left
  · intro u hSu; have hSv := blkCell hSu; clear hSu; go_simp; (try with_reducible rfl)
  try simp only [Act.put, List.setIfInBounds_toArray, List.set_cons_zero, List.set_cons_succ]
  refine rdH 9 (some 13) rfl (fun K hK => ?_)
  go_simp
  refine (HC3.out _).mono ?_; rintro e vb3 ⟨rfl, hb⟩; have Xb3 := blkOld Xb2 hb; have Yb3 := joinB Yb2 hb; try clear hSn
  have hSn := Xb3
  clear hb
  refine hK.out _ _ ?_ (fun hHeld => ?_)
  · first | exact hSn | exact Xb0
  clear hK K
  try simp only [Act.put, List.setIfInBounds_toArray, List.set_cons_zero, List.set_cons_succ]
  refine tkW 10 (some 14) (v := ?_) rfl ?_ ?_
  rotate_left
  · intro u hSu; have hSv := blkCell hSu; clear hSu; go_simp; (try with_reducible rfl)
  try simp only [Act.put, List.setIfInBounds_toArray, List.set_cons_zero, List.set_cons_succ]
  refine rdH 13 (some 17) rfl (fun K hK => ?_)
  go_simp
  refine (HC4.out _).mono ?_; rintro e vb4 ⟨rfl, hb⟩; have Xb4 := blkOld Xb3 hb; have Yb4 := joinB Yb3 hb; try clear hSn
  have hSn := Xb4
  clear hb
  refine hK.out _ _ ?_ (fun hHeld => ?_)
  · first | exact hSn | exact Xb0
  clear hK K
  try simp only [Act.put, List.setIfInBounds_toArray, List.set_cons_zero, List.set_cons_succ]
  refine tkW 14 (some 18) (v := ?_) rfl ?_ ?_
  rotate_left
  · intro u hSu; have hSv := blkCell hSu; clear hSu; go_simp; (try with_reducible rfl)
  try simp only [Act.put, List.setIfInBounds_toArray, List.set_cons_zero, List.set_cons_succ]
  refine tkW 15 (some 3) (v := ?_) rfl ?_ ?_
  rotate_left
  · intro u hSu; have hSv := blkCell hSu; clear hSu; go_simp; (try with_reducible rfl)
  try simp only [Act.put, List.setIfInBounds_toArray, List.set_cons_zero, List.set_cons_succ]
  refine wpAnyH_done (by kernel_rfl) ?_ _
  have HX1 := Lib.hid Xb4
  have HB1 := Lib.hid Yb4
  clear hHeld hSn Xb0 Yb0 Xb1 Yb1 Xb2 Yb2 Xb3 Yb3 Xb4 Yb4
  have hcg1 := blkCell HX1.out
  go_wp2_with fail
  go_ret
  exact ⟨by rw [← HE.out]; rfl, HB1.out⟩
set_option maxRecDepth 100000 in
set_option maxHeartbeats 4000000 in
theorem rbody_7 (lsn prev txn page next nu ok os root ep es : Int) (how : Int) (oo on ek : ByteArray) (ts : List Rc.TxnAt) (ds : List Rc.DirtyAt) (A B : Option Addr) (c d : Nat) (w : World) :
    Calls Tryz.prog 111 #[.agg #[.int .i64 lsn, .int .i64 prev, .int .i64 txn, .int .i64 7, .int .i64 page, .int .i64 next, .int .i64 nu, .int .i64 ok, .int .i64 os, .string oo, .string on, .int .i64 how, .int .i64 root, .string ek, .int .i64 ep, .int .i64 es, .slice A ts.length c, .slice B ds.length d]] w fun e w' => e = .returned (.string (Rc.mk (Rc.bodyB ⟨lsn, prev, txn, 7, page, next, nu, ⟨ok, os, oo, on⟩, how, root, ⟨ek, ep, es⟩, ts, ds⟩))) ∧ Below w.heap.size w w' := by
  obtain ⟨w0, hw0⟩ : ∃ W, W = w.alloc (.cells #[.int .i64 lsn, .int .i64 prev, .int .i64 txn, .int .i64 7, .int .i64 page, .int .i64 next, .int .i64 nu, .int .i64 ok, .int .i64 os, .string oo, .string on, .int .i64 how, .int .i64 root, .string ek, .int .i64 ep, .int .i64 es, .slice A ts.length c, .slice B ds.length d] 85) := ⟨_, rfl⟩
  have HB0 := Lib.hid (show Below w.heap.size w w0 from by rw [hw0]; exact allocB _ _)
  have HX0 := Lib.hid (show w0.heap[w.heap.size]? = some (.cells #[.int .i64 lsn, .int .i64 prev, .int .i64 txn, .int .i64 7, .int .i64 page, .int .i64 next, .int .i64 nu, .int .i64 ok, .int .i64 os, .string oo, .string on, .int .i64 how, .int .i64 root, .string ek, .int .i64 ep, .int .i64 es, .slice A ts.length c, .slice B ds.length d] 85 (0, 0)) from by rw [hw0]; exact heap_alloc_new _ _)
  obtain ⟨R, hR⟩ : ∃ R, R = Rc.mk (Rc.bodyB ⟨lsn, prev, txn, 7, page, next, nu, ⟨ok, os, oo, on⟩, how, root, ⟨ek, ep, es⟩, ts, ds⟩) := ⟨_, rfl⟩
  rw [← hR]
  obtain ⟨B1, hB1⟩ : ∃ b, b = Rc.mk (Rc.p 7 1) := ⟨_, rfl⟩
  have hl1 : ((Rc.p 7 1)).length = 1 := Rc.p_length _ _
  have HC1 := Lib.hid (show ∀ W, Calls Tryz.prog 78 #[.int .i64 7, .int .i64 1] W fun e w' => e = .returned (.string B1) ∧ Below W.heap.size W w' from fun W => by rw [hB1]; exact rput_mk 7 1 (by omega) W)
  obtain ⟨B2, hB2⟩ : ∃ b, b = Rc.mk (Rc.p lsn 6) := ⟨_, rfl⟩
  have hl2 : ((Rc.p lsn 6)).length = 6 := Rc.p_length _ _
  have HC2 := Lib.hid (show ∀ W, Calls Tryz.prog 78 #[.int .i64 lsn, .int .i64 6] W fun e w' => e = .returned (.string B2) ∧ Below W.heap.size W w' from fun W => by rw [hB2]; exact rput_mk lsn 6 (by omega) W)
  obtain ⟨S2, hS2⟩ : ∃ b, b = Rc.mk ((Rc.p 7 1) ++ (Rc.p lsn 6)) := ⟨_, rfl⟩
  have ha2 : ∀ W : World, (Op.stringOp .add B1 B2).run Tryz.prog W = .ok (.string S2) W := fun W => by rw [hB1, hB2, hS2]; exact add_mk _ _ (by (try simp only [List.length_append]); omega) W
  obtain ⟨B3, hB3⟩ : ∃ b, b = Rc.mk (Rc.p prev 6) := ⟨_, rfl⟩
  have hl3 : ((Rc.p prev 6)).length = 6 := Rc.p_length _ _
  have HC3 := Lib.hid (show ∀ W, Calls Tryz.prog 78 #[.int .i64 prev, .int .i64 6] W fun e w' => e = .returned (.string B3) ∧ Below W.heap.size W w' from fun W => by rw [hB3]; exact rput_mk prev 6 (by omega) W)
  obtain ⟨S3, hS3⟩ : ∃ b, b = Rc.mk (((Rc.p 7 1) ++ (Rc.p lsn 6)) ++ (Rc.p prev 6)) := ⟨_, rfl⟩
  have ha3 : ∀ W : World, (Op.stringOp .add S2 B3).run Tryz.prog W = .ok (.string S3) W := fun W => by rw [hS2, hB3, hS3]; exact add_mk _ _ (by (try simp only [List.length_append]); omega) W
  obtain ⟨B4, hB4⟩ : ∃ b, b = Rc.mk (Rc.p txn 6) := ⟨_, rfl⟩
  have hl4 : ((Rc.p txn 6)).length = 6 := Rc.p_length _ _
  have HC4 := Lib.hid (show ∀ W, Calls Tryz.prog 78 #[.int .i64 txn, .int .i64 6] W fun e w' => e = .returned (.string B4) ∧ Below W.heap.size W w' from fun W => by rw [hB4]; exact rput_mk txn 6 (by omega) W)
  obtain ⟨S4, hS4⟩ : ∃ b, b = Rc.mk ((((Rc.p 7 1) ++ (Rc.p lsn 6)) ++ (Rc.p prev 6)) ++ (Rc.p txn 6)) := ⟨_, rfl⟩
  have ha4 : ∀ W : World, (Op.stringOp .add S3 B4).run Tryz.prog W = .ok (.string S4) W := fun W => by rw [hS3, hB4, hS4]; exact add_mk _ _ (by (try simp only [List.length_append]); omega) W
  have HE := Lib.hid (show S4 = R from by rw [hS4, hR]; (congr 1) <;> (unfold Rc.bodyB; rw [show Rc.restB ⟨lsn, prev, txn, 7, page, next, nu, ⟨ok, os, oo, on⟩, how, root, ⟨ek, ep, es⟩, ts, ds⟩ = [] from by unfold Rc.restB; rfl]; unfold Rc.headB; simp only [List.append_assoc, List.append_nil]))
  clear hB1 hl1
  clear hB2 hl2
  clear hB3 hl3
  clear hB4 hl4
  clear hS2
  clear hS3
  clear hS4
  clear hR
  go_enter Tryz.func111, Tryz.ntmps111
  go_upto_region 1 with fail
  rw [← hw0]
  clear hw0
  obtain ⟨g, hg⟩ : ∃ g, g = w.heap.size := ⟨_, rfl⟩
  rw [← hg] at HX0
  rw [← hg]
  clear hg
  go_upto_region 1 with fail
  have Xb0 := blkOld HX0.out (Below.refl _ w0).drew
  have Yb0 := joinB HB0.out (Below.refl _ w0).drew
  refine wp_region_held_drew (S := (fun u => u.heap[g]? = some (.cells #[.int .i64 lsn, .int .i64 prev, .int .i64 txn, .int .i64 7, .int .i64 page, .int .i64 next, .int .i64 nu, .int .i64 ok, .int .i64 os, .string oo, .string on, .int .i64 how, .int .i64 root, .string ek, .int .i64 ep, .int .i64 es, .slice A ts.length c, .slice B ds.length d] 85 (0, 0)))) (by kernel_rfl) ?_ (fun hHeld => ?_)
  · first | exact hSn | exact Xb0
  refine tkW 0 (some 4) (v := ?_) rfl ?_ ?_
  rotate_left
  · intro u hSu; have hSv := blkCell hSu; clear hSu; go_simp; (try with_reducible rfl)
  try simp only [Act.put, List.setIfInBounds_toArray, List.set_cons_zero, List.set_cons_succ]
  refine tkW 1 (some 5) (v := ?_) rfl ?_ ?_
  rotate_left
  · intro u hSu; have hSv := blkCell hSu; clear hSu; go_simp; (try with_reducible rfl)
  try simp only [Act.put, List.setIfInBounds_toArray, List.set_cons_zero, List.set_cons_succ]
  refine tkW 3 (some 7) (v := ?_) rfl ?_ ?_
  rotate_left
  · intro u hSu; have hSv := blkCell hSu; clear hSu; go_simp; (try with_reducible rfl)
  try simp only [Act.put, List.setIfInBounds_toArray, List.set_cons_zero, List.set_cons_succ]
  refine tkW 4 (some 8) (v := ?_) rfl ?_ ?_
  rotate_left
  · intro u hSu; have hSv := blkCell hSu; clear hSu; go_simp; (try with_reducible rfl)
  try simp only [Act.put, List.setIfInBounds_toArray, List.set_cons_zero, List.set_cons_succ]
  refine tkW 7 (some 11) (v := ?_) rfl ?_ ?_
  rotate_left
  · intro u hSu; have hSv := blkCell hSu; clear hSu; go_simp; (try with_reducible rfl)
  try simp only [Act.put, List.setIfInBounds_toArray, List.set_cons_zero, List.set_cons_succ]
  refine tkW 8 (some 12) (v := ?_) rfl ?_ ?_
  rotate_left
  · intro u hSu; have hSv := blkCell hSu; clear hSu; go_simp; (try with_reducible rfl)
  try simp only [Act.put, List.setIfInBounds_toArray, List.set_cons_zero, List.set_cons_succ]
  refine tkW 11 (some 15) (v := ?_) rfl ?_ ?_
  rotate_left
  · intro u hSu; have hSv := blkCell hSu; clear hSu; go_simp; (try with_reducible rfl)
  try simp only [Act.put, List.setIfInBounds_toArray, List.set_cons_zero, List.set_cons_succ]
  refine tkW 12 (some 16) (v := ?_) rfl ?_ ?_
  rotate_left
  · intro u hSu; have hSv := blkCell hSu; clear hSu; go_simp; (try with_reducible rfl)
  try simp only [Act.put, List.setIfInBounds_toArray, List.set_cons_zero, List.set_cons_succ]
  refine rdH 2 (some 6) rfl (fun K hK => ?_)
  go_simp
  refine (HC1.out _).mono ?_; rintro e vb1 ⟨rfl, hb⟩; have Xb1 := blkOld Xb0 hb; have Yb1 := joinB Yb0 hb; try clear hSn
  have hSn := Xb1
  clear hb
  refine hK.out _ _ ?_ (fun hHeld => ?_)
  · first | exact hSn | exact Xb0
  clear hK K
  try simp only [Act.put, List.setIfInBounds_toArray, List.set_cons_zero, List.set_cons_succ]
  refine rdH 5 (some 9) rfl (fun K hK => ?_)
  go_simp
  refine (HC2.out _).mono ?_; rintro e vb2 ⟨rfl, hb⟩; have Xb2 := blkOld Xb1 hb; have Yb2 := joinB Yb1 hb; try clear hSn
  have hSn := Xb2
  clear hb
  refine hK.out _ _ ?_ (fun hHeld => ?_)
  · first | exact hSn | exact Xb0
  clear hK K
  try simp only [Act.put, List.setIfInBounds_toArray, List.set_cons_zero, List.set_cons_succ]
  refine tkW 6 (some 10) (v := ?_) rfl ?_ ?_
  rotate_left
  · intro u hSu; have hSv := blkCell hSu; clear hSu; go_simp; (try with_reducible rfl)
  try simp only [Act.put, List.setIfInBounds_toArray, List.set_cons_zero, List.set_cons_succ]
  refine rdH 9 (some 13) rfl (fun K hK => ?_)
  go_simp
  refine (HC3.out _).mono ?_; rintro e vb3 ⟨rfl, hb⟩; have Xb3 := blkOld Xb2 hb; have Yb3 := joinB Yb2 hb; try clear hSn
  have hSn := Xb3
  clear hb
  refine hK.out _ _ ?_ (fun hHeld => ?_)
  · first | exact hSn | exact Xb0
  clear hK K
  try simp only [Act.put, List.setIfInBounds_toArray, List.set_cons_zero, List.set_cons_succ]
  refine tkW 10 (some 14) (v := ?_) rfl ?_ ?_
  rotate_left
  · intro u hSu; have hSv := blkCell hSu; clear hSu; go_simp; (try with_reducible rfl)
  try simp only [Act.put, List.setIfInBounds_toArray, List.set_cons_zero, List.set_cons_succ]
  refine rdH 13 (some 17) rfl (fun K hK => ?_)
  go_simp
  refine (HC4.out _).mono ?_; rintro e vb4 ⟨rfl, hb⟩; have Xb4 := blkOld Xb3 hb; have Yb4 := joinB Yb3 hb; try clear hSn
  have hSn := Xb4
  clear hb
  refine hK.out _ _ ?_ (fun hHeld => ?_)
  · first | exact hSn | exact Xb0
  clear hK K
  try simp only [Act.put, List.setIfInBounds_toArray, List.set_cons_zero, List.set_cons_succ]
  refine tkW 14 (some 18) (v := ?_) rfl ?_ ?_
  rotate_left
  · intro u hSu; have hSv := blkCell hSu; clear hSu; go_simp; (try with_reducible rfl)
  try simp only [Act.put, List.setIfInBounds_toArray, List.set_cons_zero, List.set_cons_succ]
  refine tkW 15 (some 3) (v := ?_) rfl ?_ ?_
  rotate_left
  · intro u hSu; have hSv := blkCell hSu; clear hSu; go_simp; (try with_reducible rfl)
  try simp only [Act.put, List.setIfInBounds_toArray, List.set_cons_zero, List.set_cons_succ]
  refine wpAnyH_done (by kernel_rfl) ?_ _
  have HX1 := Lib.hid Xb4
  have HB1 := Lib.hid Yb4
  clear hHeld hSn Xb0 Yb0 Xb1 Yb1 Xb2 Yb2 Xb3 Yb3 Xb4 Yb4
  have hcg1 := blkCell HX1.out
  go_wp2_with fail
  go_ret
  exact ⟨by rw [← HE.out]; rfl, HB1.out⟩
set_option maxRecDepth 100000 in
set_option maxHeartbeats 4000000 in
theorem rbody_4 (lsn prev txn page next nu ok os root ep es : Int) (how : Int) (oo on ek : ByteArray) (ts : List Rc.TxnAt) (ds : List Rc.DirtyAt) (A B : Option Addr) (c d : Nat) (w : World) :
    Calls Tryz.prog 111 #[.agg #[.int .i64 lsn, .int .i64 prev, .int .i64 txn, .int .i64 4, .int .i64 page, .int .i64 next, .int .i64 nu, .int .i64 ok, .int .i64 os, .string oo, .string on, .int .i64 how, .int .i64 root, .string ek, .int .i64 ep, .int .i64 es, .slice A ts.length c, .slice B ds.length d]] w fun e w' => e = .returned (.string (Rc.mk (Rc.bodyB ⟨lsn, prev, txn, 4, page, next, nu, ⟨ok, os, oo, on⟩, how, root, ⟨ek, ep, es⟩, ts, ds⟩))) ∧ Below w.heap.size w w' := by
  obtain ⟨w0, hw0⟩ : ∃ W, W = w.alloc (.cells #[.int .i64 lsn, .int .i64 prev, .int .i64 txn, .int .i64 4, .int .i64 page, .int .i64 next, .int .i64 nu, .int .i64 ok, .int .i64 os, .string oo, .string on, .int .i64 how, .int .i64 root, .string ek, .int .i64 ep, .int .i64 es, .slice A ts.length c, .slice B ds.length d] 85) := ⟨_, rfl⟩
  have HB0 := Lib.hid (show Below w.heap.size w w0 from by rw [hw0]; exact allocB _ _)
  have HX0 := Lib.hid (show w0.heap[w.heap.size]? = some (.cells #[.int .i64 lsn, .int .i64 prev, .int .i64 txn, .int .i64 4, .int .i64 page, .int .i64 next, .int .i64 nu, .int .i64 ok, .int .i64 os, .string oo, .string on, .int .i64 how, .int .i64 root, .string ek, .int .i64 ep, .int .i64 es, .slice A ts.length c, .slice B ds.length d] 85 (0, 0)) from by rw [hw0]; exact heap_alloc_new _ _)
  obtain ⟨R, hR⟩ : ∃ R, R = Rc.mk (Rc.bodyB ⟨lsn, prev, txn, 4, page, next, nu, ⟨ok, os, oo, on⟩, how, root, ⟨ek, ep, es⟩, ts, ds⟩) := ⟨_, rfl⟩
  rw [← hR]
  obtain ⟨B1, hB1⟩ : ∃ b, b = Rc.mk (Rc.p 4 1) := ⟨_, rfl⟩
  have hl1 : ((Rc.p 4 1)).length = 1 := Rc.p_length _ _
  have HC1 := Lib.hid (show ∀ W, Calls Tryz.prog 78 #[.int .i64 4, .int .i64 1] W fun e w' => e = .returned (.string B1) ∧ Below W.heap.size W w' from fun W => by rw [hB1]; exact rput_mk 4 1 (by omega) W)
  obtain ⟨B2, hB2⟩ : ∃ b, b = Rc.mk (Rc.p lsn 6) := ⟨_, rfl⟩
  have hl2 : ((Rc.p lsn 6)).length = 6 := Rc.p_length _ _
  have HC2 := Lib.hid (show ∀ W, Calls Tryz.prog 78 #[.int .i64 lsn, .int .i64 6] W fun e w' => e = .returned (.string B2) ∧ Below W.heap.size W w' from fun W => by rw [hB2]; exact rput_mk lsn 6 (by omega) W)
  obtain ⟨S2, hS2⟩ : ∃ b, b = Rc.mk ((Rc.p 4 1) ++ (Rc.p lsn 6)) := ⟨_, rfl⟩
  have ha2 : ∀ W : World, (Op.stringOp .add B1 B2).run Tryz.prog W = .ok (.string S2) W := fun W => by rw [hB1, hB2, hS2]; exact add_mk _ _ (by (try simp only [List.length_append]); omega) W
  obtain ⟨B3, hB3⟩ : ∃ b, b = Rc.mk (Rc.p prev 6) := ⟨_, rfl⟩
  have hl3 : ((Rc.p prev 6)).length = 6 := Rc.p_length _ _
  have HC3 := Lib.hid (show ∀ W, Calls Tryz.prog 78 #[.int .i64 prev, .int .i64 6] W fun e w' => e = .returned (.string B3) ∧ Below W.heap.size W w' from fun W => by rw [hB3]; exact rput_mk prev 6 (by omega) W)
  obtain ⟨S3, hS3⟩ : ∃ b, b = Rc.mk (((Rc.p 4 1) ++ (Rc.p lsn 6)) ++ (Rc.p prev 6)) := ⟨_, rfl⟩
  have ha3 : ∀ W : World, (Op.stringOp .add S2 B3).run Tryz.prog W = .ok (.string S3) W := fun W => by rw [hS2, hB3, hS3]; exact add_mk _ _ (by (try simp only [List.length_append]); omega) W
  obtain ⟨B4, hB4⟩ : ∃ b, b = Rc.mk (Rc.p txn 6) := ⟨_, rfl⟩
  have hl4 : ((Rc.p txn 6)).length = 6 := Rc.p_length _ _
  have HC4 := Lib.hid (show ∀ W, Calls Tryz.prog 78 #[.int .i64 txn, .int .i64 6] W fun e w' => e = .returned (.string B4) ∧ Below W.heap.size W w' from fun W => by rw [hB4]; exact rput_mk txn 6 (by omega) W)
  obtain ⟨S4, hS4⟩ : ∃ b, b = Rc.mk ((((Rc.p 4 1) ++ (Rc.p lsn 6)) ++ (Rc.p prev 6)) ++ (Rc.p txn 6)) := ⟨_, rfl⟩
  have ha4 : ∀ W : World, (Op.stringOp .add S3 B4).run Tryz.prog W = .ok (.string S4) W := fun W => by rw [hS3, hB4, hS4]; exact add_mk _ _ (by (try simp only [List.length_append]); omega) W
  obtain ⟨B5, hB5⟩ : ∃ b, b = Rc.mk (Rc.p next 6) := ⟨_, rfl⟩
  have hl5 : ((Rc.p next 6)).length = 6 := Rc.p_length _ _
  have HC5 := Lib.hid (show ∀ W, Calls Tryz.prog 78 #[.int .i64 next, .int .i64 6] W fun e w' => e = .returned (.string B5) ∧ Below W.heap.size W w' from fun W => by rw [hB5]; exact rput_mk next 6 (by omega) W)
  obtain ⟨S5, hS5⟩ : ∃ b, b = Rc.mk (((((Rc.p 4 1) ++ (Rc.p lsn 6)) ++ (Rc.p prev 6)) ++ (Rc.p txn 6)) ++ (Rc.p next 6)) := ⟨_, rfl⟩
  have ha5 : ∀ W : World, (Op.stringOp .add S4 B5).run Tryz.prog W = .ok (.string S5) W := fun W => by rw [hS4, hB5, hS5]; exact add_mk _ _ (by (try simp only [List.length_append]); omega) W
  have HE := Lib.hid (show S5 = R from by rw [hS5, hR]; (congr 1) <;> (unfold Rc.bodyB; rw [Rc.restB_4 rfl]; unfold Rc.headB; simp only [List.append_assoc]))
  clear hB1 hl1
  clear hB2 hl2
  clear hB3 hl3
  clear hB4 hl4
  clear hB5 hl5
  clear hS2
  clear hS3
  clear hS4
  clear hS5
  clear hR
  go_enter Tryz.func111, Tryz.ntmps111
  go_upto_region 1 with fail
  rw [← hw0]
  clear hw0
  obtain ⟨g, hg⟩ : ∃ g, g = w.heap.size := ⟨_, rfl⟩
  rw [← hg] at HX0
  rw [← hg]
  clear hg
  go_upto_region 1 with fail
  have Xb0 := blkOld HX0.out (Below.refl _ w0).drew
  have Yb0 := joinB HB0.out (Below.refl _ w0).drew
  refine wp_region_held_drew (S := (fun u => u.heap[g]? = some (.cells #[.int .i64 lsn, .int .i64 prev, .int .i64 txn, .int .i64 4, .int .i64 page, .int .i64 next, .int .i64 nu, .int .i64 ok, .int .i64 os, .string oo, .string on, .int .i64 how, .int .i64 root, .string ek, .int .i64 ep, .int .i64 es, .slice A ts.length c, .slice B ds.length d] 85 (0, 0)))) (by kernel_rfl) ?_ (fun hHeld => ?_)
  · first | exact hSn | exact Xb0
  refine tkW 0 (some 4) (v := ?_) rfl ?_ ?_
  rotate_left
  · intro u hSu; have hSv := blkCell hSu; clear hSu; go_simp; (try with_reducible rfl)
  try simp only [Act.put, List.setIfInBounds_toArray, List.set_cons_zero, List.set_cons_succ]
  refine tkW 1 (some 5) (v := ?_) rfl ?_ ?_
  rotate_left
  · intro u hSu; have hSv := blkCell hSu; clear hSu; go_simp; (try with_reducible rfl)
  try simp only [Act.put, List.setIfInBounds_toArray, List.set_cons_zero, List.set_cons_succ]
  refine tkW 3 (some 7) (v := ?_) rfl ?_ ?_
  rotate_left
  · intro u hSu; have hSv := blkCell hSu; clear hSu; go_simp; (try with_reducible rfl)
  try simp only [Act.put, List.setIfInBounds_toArray, List.set_cons_zero, List.set_cons_succ]
  refine tkW 4 (some 8) (v := ?_) rfl ?_ ?_
  rotate_left
  · intro u hSu; have hSv := blkCell hSu; clear hSu; go_simp; (try with_reducible rfl)
  try simp only [Act.put, List.setIfInBounds_toArray, List.set_cons_zero, List.set_cons_succ]
  refine tkW 7 (some 11) (v := ?_) rfl ?_ ?_
  rotate_left
  · intro u hSu; have hSv := blkCell hSu; clear hSu; go_simp; (try with_reducible rfl)
  try simp only [Act.put, List.setIfInBounds_toArray, List.set_cons_zero, List.set_cons_succ]
  refine tkW 8 (some 12) (v := ?_) rfl ?_ ?_
  rotate_left
  · intro u hSu; have hSv := blkCell hSu; clear hSu; go_simp; (try with_reducible rfl)
  try simp only [Act.put, List.setIfInBounds_toArray, List.set_cons_zero, List.set_cons_succ]
  refine tkW 11 (some 15) (v := ?_) rfl ?_ ?_
  rotate_left
  · intro u hSu; have hSv := blkCell hSu; clear hSu; go_simp; (try with_reducible rfl)
  try simp only [Act.put, List.setIfInBounds_toArray, List.set_cons_zero, List.set_cons_succ]
  refine tkW 12 (some 16) (v := ?_) rfl ?_ ?_
  rotate_left
  · intro u hSu; have hSv := blkCell hSu; clear hSu; go_simp; (try with_reducible rfl)
  try simp only [Act.put, List.setIfInBounds_toArray, List.set_cons_zero, List.set_cons_succ]
  refine rdH 2 (some 6) rfl (fun K hK => ?_)
  go_simp
  refine (HC1.out _).mono ?_; rintro e vb1 ⟨rfl, hb⟩; have Xb1 := blkOld Xb0 hb; have Yb1 := joinB Yb0 hb; try clear hSn
  have hSn := Xb1
  clear hb
  refine hK.out _ _ ?_ (fun hHeld => ?_)
  · first | exact hSn | exact Xb0
  clear hK K
  try simp only [Act.put, List.setIfInBounds_toArray, List.set_cons_zero, List.set_cons_succ]
  refine rdH 5 (some 9) rfl (fun K hK => ?_)
  go_simp
  refine (HC2.out _).mono ?_; rintro e vb2 ⟨rfl, hb⟩; have Xb2 := blkOld Xb1 hb; have Yb2 := joinB Yb1 hb; try clear hSn
  have hSn := Xb2
  clear hb
  refine hK.out _ _ ?_ (fun hHeld => ?_)
  · first | exact hSn | exact Xb0
  clear hK K
  try simp only [Act.put, List.setIfInBounds_toArray, List.set_cons_zero, List.set_cons_succ]
  refine tkW 6 (some 10) (v := ?_) rfl ?_ ?_
  rotate_left
  · intro u hSu; have hSv := blkCell hSu; clear hSu; go_simp; (try with_reducible rfl)
  try simp only [Act.put, List.setIfInBounds_toArray, List.set_cons_zero, List.set_cons_succ]
  refine rdH 9 (some 13) rfl (fun K hK => ?_)
  go_simp
  refine (HC3.out _).mono ?_; rintro e vb3 ⟨rfl, hb⟩; have Xb3 := blkOld Xb2 hb; have Yb3 := joinB Yb2 hb; try clear hSn
  have hSn := Xb3
  clear hb
  refine hK.out _ _ ?_ (fun hHeld => ?_)
  · first | exact hSn | exact Xb0
  clear hK K
  try simp only [Act.put, List.setIfInBounds_toArray, List.set_cons_zero, List.set_cons_succ]
  refine tkW 10 (some 14) (v := ?_) rfl ?_ ?_
  rotate_left
  · intro u hSu; have hSv := blkCell hSu; clear hSu; go_simp; (try with_reducible rfl)
  try simp only [Act.put, List.setIfInBounds_toArray, List.set_cons_zero, List.set_cons_succ]
  refine rdH 13 (some 17) rfl (fun K hK => ?_)
  go_simp
  refine (HC4.out _).mono ?_; rintro e vb4 ⟨rfl, hb⟩; have Xb4 := blkOld Xb3 hb; have Yb4 := joinB Yb3 hb; try clear hSn
  have hSn := Xb4
  clear hb
  refine hK.out _ _ ?_ (fun hHeld => ?_)
  · first | exact hSn | exact Xb0
  clear hK K
  try simp only [Act.put, List.setIfInBounds_toArray, List.set_cons_zero, List.set_cons_succ]
  refine tkW 14 (some 18) (v := ?_) rfl ?_ ?_
  rotate_left
  · intro u hSu; have hSv := blkCell hSu; clear hSu; go_simp; (try with_reducible rfl)
  try simp only [Act.put, List.setIfInBounds_toArray, List.set_cons_zero, List.set_cons_succ]
  refine tkW 15 (some 3) (v := ?_) rfl ?_ ?_
  rotate_left
  · intro u hSu; have hSv := blkCell hSu; clear hSu; go_simp; (try with_reducible rfl)
  try simp only [Act.put, List.setIfInBounds_toArray, List.set_cons_zero, List.set_cons_succ]
  refine wpAnyH_done (by kernel_rfl) ?_ _
  have HX1 := Lib.hid Xb4
  have HB1 := Lib.hid Yb4
  clear hHeld hSn Xb0 Yb0 Xb1 Yb1 Xb2 Yb2 Xb3 Yb3 Xb4 Yb4
  have hcg1 := blkCell HX1.out
  go_wp2_with (go_at_call 78; (with_reducible refine (HC5.out _).mono ?_); rintro e w9 ⟨rfl, hb9⟩)
  go_ret
  exact ⟨by rw [← HE.out]; rfl, joinB HB1.out hb9⟩
end Go.Proofs.YthfglhafphfhiaaGreat
/- Words for memory: bytes of the call's own, of which none that can be written is frozen; a string is appended. -/
namespace Go.Proofs.YthfglhafphfhiaaGreat
open Go.RowKit
/-- The bytes l, in a block of the call's own. -/
def OwnB (B : Nat) (w : World) (v : Value) (l : List UInt8) : Prop :=
  ∃ g cap, v = .slice (some ⟨g, 0, none⟩) l.length cap ∧ B ≤ g ∧ g < w.heap.size ∧ l.length ≤ cap ∧ cap ≤ maxLen ∧
    (∀ j, j < cap → (w.cell? ⟨g, j, none⟩).isSome = true ∧ w.frozen? ⟨g, j, none⟩ = false) ∧ ∀ (j : Nat) (hj : j < l.length), w.cell? ⟨g, j, none⟩ = some (.int .u8 (l[j].toNat : Int))
theorem OwnB.below {B : Nat} {w w' : World} {v : Value} {l : List UInt8} (h : OwnB B w v l) (hb : Below w.heap.size w w') : OwnB B w' v l := by
  obtain ⟨g, cap, h1, h2, h3, h4, h5, h6, h7⟩ := h
  refine ⟨g, cap, h1, h2, Nat.lt_of_lt_of_le h3 hb.size, h4, h5, fun j hj => ?_, fun j hj => ?_⟩
  · rw [hb.cell (p := ⟨g, j, none⟩) h3, hb.frozen (p := ⟨g, j, none⟩) h3]; exact h6 j hj
  · rw [hb.cell (p := ⟨g, j, none⟩) h3]; exact h7 j hj
theorem OwnB.mono {B B' : Nat} {w : World} {v : Value} {l : List UInt8} (h : OwnB B w v l) (hb : B' ≤ B) : OwnB B' w v l := by
  obtain ⟨g, cap, h1, h2, h3⟩ := h
  exact ⟨g, cap, h1, Nat.le_trans hb h2, h3⟩
end Go.Proofs.YthfglhafphfhiaaGreat
/- The walk over the reference of records: a checkpoint's bytes. -/
namespace Rc
theorem flat_take {α : Type} (f : α → List UInt8) (l : List α) (k : Nat) (h : k < l.length) : (l.take (k + 1)).flatMap f = (l.take k).flatMap f ++ f l[k] := by
  rw [List.take_add_one, List.getElem?_eq_getElem h, List.flatMap_append]
  simp
end Rc
namespace Go.Proofs.YthfglhafphfhiaaGreat
open Go.RowKit
end Go.Proofs.YthfglhafphfhiaaGreat
/- The walks over the reference of records: bare, change. -/
namespace Go.Proofs.YthfglhafphfhiaaGreat
open Go.RowKit
set_option maxRecDepth 100000 in
theorem rbare_any (r : Rc.Rec) (T D : Value) (w : World) :
    Calls Tryz.prog 136 #[recV r T D] w fun e w' => e = .returned (recV (Rc.bare r.kind r.lsn r.prev r.txn) (.slice none 0 0) (.slice none 0 0)) ∧ Below w.heap.size w w' := by
  obtain ⟨lsn, prev, txn, kind, page, next, nu, ⟨ok, os, oo, on⟩, how, root, ⟨ek, ep, es⟩, ts, ds⟩ := r
  dsimp only [recV, recA, Rc.bare, Rc.noOp, Rc.noKey]
  go_enter Tryz.func136, Tryz.ntmps136
  go_upto_region 1 with fail
  have H0 := Lib.hid (show BxL w.heap.size w [(#[.int .i64 lsn, .int .i64 prev, .int .i64 txn, .int .i64 kind, .int .i64 page, .int .i64 next, .int .i64 nu, .int .i64 ok, .int .i64 os, .string oo, .string on, .int .i64 how, .int .i64 root, .string ek, .int .i64 ep, .int .i64 es, T, D], 85), (zeroA, 85)] ((w.alloc (.cells #[.int .i64 lsn, .int .i64 prev, .int .i64 txn, .int .i64 kind, .int .i64 page, .int .i64 next, .int .i64 nu, .int .i64 ok, .int .i64 os, .string oo, .string on, .int .i64 how, .int .i64 root, .string ek, .int .i64 ep, .int .i64 es, T, D] 85)).alloc (.cells zeroA 85)) from ((BxL.nil (Below.refl w.heap.size w)).new (by simp) #[.int .i64 lsn, .int .i64 prev, .int .i64 txn, .int .i64 kind, .int .i64 page, .int .i64 next, .int .i64 nu, .int .i64 ok, .int .i64 os, .string oo, .string on, .int .i64 how, .int .i64 root, .string ek, .int .i64 ep, .int .i64 es, T, D] 85).new (by simp) zeroA 85)
  obtain ⟨W0, hW0⟩ : ∃ W, W = ((w.alloc (.cells #[.int .i64 lsn, .int .i64 prev, .int .i64 txn, .int .i64 kind, .int .i64 page, .int .i64 next, .int .i64 nu, .int .i64 ok, .int .i64 os, .string oo, .string on, .int .i64 how, .int .i64 root, .string ek, .int .i64 ep, .int .i64 es, T, D] 85)).alloc (.cells zeroA 85)) := ⟨_, rfl⟩
  rw [← hW0] at H0 ⊢
  clear hW0
  have hc := blkCell H0.out.get0
  go_wp2_with (with_reducible refine listStore (by kernel_rfl) 85 (.tmp 2) (.tmp 11) rfl (w.heap.size + 1) #[.int .i64 lsn, .int .i64 prev, .int .i64 txn, .int .i64 kind, .int .i64 0, .int .i64 0, .int .i64 0, .int .i64 0, .int .i64 0, .string ⟨#[]⟩, .string ⟨#[]⟩, .int .i64 0, .int .i64 0, .string ⟨#[]⟩, .int .i64 0, .int .i64 0, .slice none 0 0, .slice none 0 0] _ _ rfl rfl H0.out.get1 (by kernel_rfl) (by kernel_rfl) (by kernel_rfl) ?_)
  refine bodyPost_ret (v := .agg #[.int .i64 lsn, .int .i64 prev, .int .i64 txn, .int .i64 kind, .int .i64 0, .int .i64 0, .int .i64 0, .int .i64 0, .int .i64 0, .string ⟨#[]⟩, .string ⟨#[]⟩, .int .i64 0, .int .i64 0, .string ⟨#[]⟩, .int .i64 0, .int .i64 0, .slice none 0 0, .slice none 0 0]) (results_cell rfl _ _ rfl (load_whole (setRow_heap _ _ _ _ _ _ H0.out.get1) Tryz.underlying85 (by kernel_rfl) (by kernel_rfl))) rfl ?_
  exact ⟨rfl, (H0.out.row 1 _ _ rfl).below⟩
end Go.Proofs.YthfglhafphfhiaaGreat
/- The walk over the reference of records: lists. -/
namespace Go.Proofs.YthfglhafphfhiaaGreat
open Go.RowKit
end Go.Proofs.YthfglhafphfhiaaGreat
/- The plain law of records: what may be, kind by kind, as the reference asks it. -/
namespace Rc
variable {lsn prev txn page next nu how root : Int} {op : Op} {e : Key} {ts : List TxnAt} {ds : List DirtyAt}
theorem r_nums {r : Rec} (h : Right r) : num r.lsn ∧ num r.prev ∧ num r.txn := (form_of h).nums
theorem r_small {kind : Int} (hk : kind = 1 ∨ kind = 5 ∨ kind = 6 ∨ kind = 7) (hn : num lsn ∧ num prev ∧ num txn) :
    Right ⟨lsn, prev, txn, kind, page, next, nu, op, how, root, e, ts, ds⟩ ↔ bare kind lsn prev txn = ⟨lsn, prev, txn, kind, page, next, nu, op, how, root, e, ts, ds⟩ := by
  constructor
  · intro h
    have F := form_of h
    have h1 := F.bare (by unfold hasChange; simp only; omega)
    have h2 := F.noTree (by simp only; omega)
    have h3 := F.noNext (by unfold hasNext; simp only; omega)
    have h4 := F.noLists (by simp only; omega)
    simp only at h1 h2 h3 h4
    obtain ⟨rfl, rfl⟩ := h1
    obtain ⟨rfl, rfl, rfl⟩ := h2
    obtain ⟨rfl, rfl, rfl⟩ := h4
    subst h3
    rfl
  · intro h
    rw [← h]
    exact .small kind lsn prev txn hk hn.1 hn.2.1 hn.2.2
theorem r_4 (hn : num lsn ∧ num prev ∧ num txn) :
    Right ⟨lsn, prev, txn, 4, page, next, nu, op, how, root, e, ts, ds⟩ ↔ (⟨lsn, prev, txn, 4, 0, next, 0, noOp, 0, 0, noKey, [], []⟩ : Rec) = ⟨lsn, prev, txn, 4, page, next, nu, op, how, root, e, ts, ds⟩ ∧ num next := by
  constructor
  · intro h
    have F := form_of h
    have h1 := F.bare (by unfold hasChange; simp)
    have h2 := F.noTree (by simp)
    have h3 := F.next (by unfold hasNext; simp)
    have h4 := F.noLists (by simp)
    simp only at h1 h2 h3 h4
    obtain ⟨rfl, rfl, rfl⟩ := h4
    obtain ⟨rfl, rfl, rfl⟩ := h2
    obtain ⟨rfl, rfl⟩ := h1
    exact ⟨rfl, h3⟩
  · rintro ⟨h, h3⟩
    injection h with _ _ _ _ e0 _ e2 e1 e5 e6 e7 e3 e4
    subst e0 e1 e2 e3 e4 e5 e6 e7
    exact .nest lsn prev txn next hn.1 hn.2.1 hn.2.2 h3
end Rc
/- The walks over the reference of records: Same. -/
namespace Go.Proofs.YthfglhafphfhiaaGreat
open Go.RowKit
set_option maxRecDepth 100000 in
set_option maxHeartbeats 8000000 in
theorem rsame_any (r s : Rc.Rec) (A A' B B' : Option Addr) (c c' d d' : Nat) (w : World) (hr : RecR w r A c B d) (hs : RecR w s A' c' B' d') :
    Calls Tryz.prog 137 #[recV r (.slice A r.txns.length c) (.slice B r.dirty.length d), recV s (.slice A' s.txns.length c') (.slice B' s.dirty.length d')] w fun e w' => e = .returned (.bool (decide (r = s))) ∧ Below w.heap.size w w' := by
  have HT := Lib.hid (fun W hb => rsame_txn r.txns s.txns hr.small.1 hs.small.1 A A' c c' W (hr.txns.below hb) (hs.txns.below hb))
  have HD := Lib.hid (fun W hb => rsame_dirty r.dirty s.dirty hr.small.2 hs.small.2 B B' d d' W (hr.dirty.below hb) (hs.dirty.below hb))
  have ht1 := hr.small.1
  have ht2 := hs.small.1
  have hd1 := hr.small.2
  have hd2 := hs.small.2
  have HO := Lib.hid (fun W => op_equal r.op s.op W)
  have HK := Lib.hid (fun W => key_equal r.e s.e W)
  clear hr hs
  obtain ⟨rls, rpr, rtx, rki, rpa, rne, rnu, rop, rho, rro, rek, rts, rds⟩ := r
  obtain ⟨sls, spr, stx, ski, spa, sne, snu, sop, sho, sro, sek, sts, sds⟩ := s
  simp only at HT HD HO HK ht1 ht2 hd1 hd2 ⊢
  by_cases hls : rls = sls
  rotate_left
  · rw [decide_eq_false (fun e => hls (congrArg Rc.Rec.lsn e))]
    have nls : (rls == sls) = false := by simp [hls]
    have mls : (rls != sls) = true := by simp [hls]
    clear hls
    obtain ⟨rk, rs, rx, ry⟩ := rop
    obtain ⟨sk, ss, sx, sy⟩ := sop
    obtain ⟨rek1, rek2, rek3⟩ := rek
    obtain ⟨sek1, sek2, sek3⟩ := sek
    go_enter Tryz.func137, Tryz.ntmps137
    go_wp2_with fail
    go_ret
    exact ⟨by simp, pastAlloc (allocB _ _)⟩
  subst hls
  by_cases hpr : rpr = spr
  rotate_left
  · rw [decide_eq_false (fun e => hpr (congrArg Rc.Rec.prev e))]
    have npr : (rpr == spr) = false := by simp [hpr]
    have mpr : (rpr != spr) = true := by simp [hpr]
    clear hpr
    obtain ⟨rk, rs, rx, ry⟩ := rop
    obtain ⟨sk, ss, sx, sy⟩ := sop
    obtain ⟨rek1, rek2, rek3⟩ := rek
    obtain ⟨sek1, sek2, sek3⟩ := sek
    go_enter Tryz.func137, Tryz.ntmps137
    go_wp2_with fail
    go_ret
    exact ⟨by simp, pastAlloc (allocB _ _)⟩
  subst hpr
  by_cases htx : rtx = stx
  rotate_left
  · rw [decide_eq_false (fun e => htx (congrArg Rc.Rec.txn e))]
    have ntx : (rtx == stx) = false := by simp [htx]
    have mtx : (rtx != stx) = true := by simp [htx]
    clear htx
    obtain ⟨rk, rs, rx, ry⟩ := rop
    obtain ⟨sk, ss, sx, sy⟩ := sop
    obtain ⟨rek1, rek2, rek3⟩ := rek
    obtain ⟨sek1, sek2, sek3⟩ := sek
    go_enter Tryz.func137, Tryz.ntmps137
    go_wp2_with fail
    go_ret
    exact ⟨by simp, pastAlloc (allocB _ _)⟩
  subst htx
  by_cases hki : rki = ski
  rotate_left
  · rw [decide_eq_false (fun e => hki (congrArg Rc.Rec.kind e))]
    have nki : (rki == ski) = false := by simp [hki]
    have mki : (rki != ski) = true := by simp [hki]
    clear hki
    obtain ⟨rk, rs, rx, ry⟩ := rop
    obtain ⟨sk, ss, sx, sy⟩ := sop
    obtain ⟨rek1, rek2, rek3⟩ := rek
    obtain ⟨sek1, sek2, sek3⟩ := sek
    go_enter Tryz.func137, Tryz.ntmps137
    go_wp2_with fail
    go_ret
    exact ⟨by simp, pastAlloc (allocB _ _)⟩
  subst hki
  by_cases hpa : rpa = spa
  rotate_left
  · rw [decide_eq_false (fun e => hpa (congrArg Rc.Rec.page e))]
    have npa : (rpa == spa) = false := by simp [hpa]
    have mpa : (rpa != spa) = true := by simp [hpa]
    clear hpa
    obtain ⟨rk, rs, rx, ry⟩ := rop
    obtain ⟨sk, ss, sx, sy⟩ := sop
    obtain ⟨rek1, rek2, rek3⟩ := rek
    obtain ⟨sek1, sek2, sek3⟩ := sek
    go_enter Tryz.func137, Tryz.ntmps137
    go_wp2_with fail
    go_ret
    exact ⟨by simp, pastAlloc (allocB _ _)⟩
  subst hpa
  by_cases hne : rne = sne
  rotate_left
  · rw [decide_eq_false (fun e => hne (congrArg Rc.Rec.next e))]
    have nne : (rne == sne) = false := by simp [hne]
    have mne : (rne != sne) = true := by simp [hne]
    clear hne
    obtain ⟨rk, rs, rx, ry⟩ := rop
    obtain ⟨sk, ss, sx, sy⟩ := sop
    obtain ⟨rek1, rek2, rek3⟩ := rek
    obtain ⟨sek1, sek2, sek3⟩ := sek
    go_enter Tryz.func137, Tryz.ntmps137
    go_wp2_with fail
    go_ret
    exact ⟨by simp, pastAlloc (allocB _ _)⟩
  subst hne
  by_cases hnu : rnu = snu
  rotate_left
  · rw [decide_eq_false (fun e => hnu (congrArg Rc.Rec.num e))]
    have nnu : (rnu == snu) = false := by simp [hnu]
    have mnu : (rnu != snu) = true := by simp [hnu]
    clear hnu
    obtain ⟨rk, rs, rx, ry⟩ := rop
    obtain ⟨sk, ss, sx, sy⟩ := sop
    obtain ⟨rek1, rek2, rek3⟩ := rek
    obtain ⟨sek1, sek2, sek3⟩ := sek
    go_enter Tryz.func137, Tryz.ntmps137
    go_wp2_with fail
    go_ret
    exact ⟨by simp, pastAlloc (allocB _ _)⟩
  subst hnu
  cases hop : decide (rop = sop) with
  | false =>
    rw [decide_eq_false (fun e => of_decide_eq_false hop (congrArg Rc.Rec.op e))]
    have eop := HO.out
    rw [hop] at eop
    clear hop
    obtain ⟨rk, rs, rx, ry⟩ := rop
    obtain ⟨sk, ss, sx, sy⟩ := sop
    obtain ⟨rek1, rek2, rek3⟩ := rek
    obtain ⟨sek1, sek2, sek3⟩ := sek
    go_enter Tryz.func137, Tryz.ntmps137
    go_wp2_with fail
    go_ret
    exact ⟨by simp, pastAlloc (allocB _ _)⟩
  | true =>
  have eop := HO.out
  rw [hop] at eop
  have Dop := Lib.hid (of_decide_eq_true hop)
  clear hop HO
  by_cases hho : rho = sho
  rotate_left
  · rw [decide_eq_false (fun e => hho (congrArg Rc.Rec.how e))]
    have nho : (rho == sho) = false := by simp [hho]
    have mho : (rho != sho) = true := by simp [hho]
    clear hho
    obtain ⟨rk, rs, rx, ry⟩ := rop
    obtain ⟨sk, ss, sx, sy⟩ := sop
    obtain ⟨rek1, rek2, rek3⟩ := rek
    obtain ⟨sek1, sek2, sek3⟩ := sek
    go_enter Tryz.func137, Tryz.ntmps137
    go_wp2_with fail
    go_ret
    exact ⟨by simp, pastAlloc (allocB _ _)⟩
  subst hho
  by_cases hro : rro = sro
  rotate_left
  · rw [decide_eq_false (fun e => hro (congrArg Rc.Rec.root e))]
    have nro : (rro == sro) = false := by simp [hro]
    have mro : (rro != sro) = true := by simp [hro]
    clear hro
    obtain ⟨rk, rs, rx, ry⟩ := rop
    obtain ⟨sk, ss, sx, sy⟩ := sop
    obtain ⟨rek1, rek2, rek3⟩ := rek
    obtain ⟨sek1, sek2, sek3⟩ := sek
    go_enter Tryz.func137, Tryz.ntmps137
    go_wp2_with fail
    go_ret
    exact ⟨by simp, pastAlloc (allocB _ _)⟩
  subst hro
  cases hek : decide (rek = sek) with
  | false =>
    rw [decide_eq_false (fun e => of_decide_eq_false hek (congrArg Rc.Rec.e e))]
    have eek := HK.out
    rw [hek] at eek
    clear hek
    obtain ⟨rk, rs, rx, ry⟩ := rop
    obtain ⟨sk, ss, sx, sy⟩ := sop
    obtain ⟨rek1, rek2, rek3⟩ := rek
    obtain ⟨sek1, sek2, sek3⟩ := sek
    go_enter Tryz.func137, Tryz.ntmps137
    go_wp2_with fail
    go_ret
    exact ⟨by simp, pastAlloc (allocB _ _)⟩
  | true =>
  have eek := HK.out
  rw [hek] at eek
  have Dek := Lib.hid (of_decide_eq_true hek)
  clear hek HK
  cases hts' : decide (rts = sts) with
  | false =>
    have Dts := Lib.hid hts'
    rw [decide_eq_false (fun e => of_decide_eq_false hts' (congrArg Rc.Rec.txns e))]
    clear hts'
    obtain ⟨rk, rs, rx, ry⟩ := rop
    obtain ⟨sk, ss, sx, sy⟩ := sop
    obtain ⟨rek1, rek2, rek3⟩ := rek
    obtain ⟨sek1, sek2, sek3⟩ := sek
    go_enter Tryz.func137, Tryz.ntmps137
    go_wp2_with (first | (go_at_call 37; (with_reducible refine (HT.out _ ?_).mono ?_); (exact pastAlloc (allocB _ _)); rintro e w2 ⟨rfl, hb2⟩; have hx1 := blkOld (new21 _ _ _) hb2; have hx2 := blkOld (new2 _ _ _) hb2; have q1 := blkCell hx1 17; have q2 := blkCell hx2 17; clear hx1 hx2; simp at q1 q2; rw [Dts.out]))
    go_ret
    exact ⟨by simp, joinB (pastAlloc (allocB _ _)) hb2⟩
  | true =>
  have Bts := Lib.hid hts'
  have Dts := Lib.hid (of_decide_eq_true hts')
  clear hts'
  cases hds' : decide (rds = sds) with
  | false =>
    have Dds := Lib.hid hds'
    rw [decide_eq_false (fun e => of_decide_eq_false hds' (congrArg Rc.Rec.dirty e))]
    clear hds'
    obtain ⟨rk, rs, rx, ry⟩ := rop
    obtain ⟨sk, ss, sx, sy⟩ := sop
    obtain ⟨rek1, rek2, rek3⟩ := rek
    obtain ⟨sek1, sek2, sek3⟩ := sek
    go_enter Tryz.func137, Tryz.ntmps137
    go_wp2_with (first | (go_at_call 37; (with_reducible refine (HT.out _ ?_).mono ?_); (exact pastAlloc (allocB _ _)); rintro e w2 ⟨rfl, hb2⟩; have hx1 := blkOld (new21 _ _ _) hb2; have hx2 := blkOld (new2 _ _ _) hb2; have q1 := blkCell hx1 17; have q2 := blkCell hx2 17; clear hx1 hx2; simp at q1 q2; rw [Bts.out]) | (go_at_call 158; (with_reducible refine (HD.out _ ?_).mono ?_); (exact joinB (pastAlloc (allocB _ _)) hb2); rintro e w3 ⟨rfl, hb3⟩; rw [Dds.out]))
    go_ret
    exact ⟨by simp, joinB (joinB (pastAlloc (allocB _ _)) hb2) hb3⟩
  | true =>
  have Bds := Lib.hid hds'
  have Dds := Lib.hid (of_decide_eq_true hds')
  clear hds'
  rw [decide_eq_true (by rw [Dop.out, Dek.out, Dts.out, Dds.out])]
  clear Dop Dek Dts Dds
  obtain ⟨rk, rs, rx, ry⟩ := rop
  obtain ⟨sk, ss, sx, sy⟩ := sop
  obtain ⟨rek1, rek2, rek3⟩ := rek
  obtain ⟨sek1, sek2, sek3⟩ := sek
  go_enter Tryz.func137, Tryz.ntmps137
  go_wp2_with (first | (go_at_call 37; (with_reducible refine (HT.out _ ?_).mono ?_); (exact pastAlloc (allocB _ _)); rintro e w2 ⟨rfl, hb2⟩; have hx1 := blkOld (new21 _ _ _) hb2; have hx2 := blkOld (new2 _ _ _) hb2; have q1 := blkCell hx1 17; have q2 := blkCell hx2 17; clear hx1 hx2; simp at q1 q2; rw [Bts.out]) | (go_at_call 158; (with_reducible refine (HD.out _ ?_).mono ?_); (exact joinB (pastAlloc (allocB _ _)) hb2); rintro e w3 ⟨rfl, hb3⟩; rw [Bds.out]))
  go_ret
  exact ⟨by simp, joinB (joinB (pastAlloc (allocB _ _)) hb2) hb3⟩
end Go.Proofs.YthfglhafphfhiaaGreat
/- The walk over the reference of records: Right, kind 8. -/
namespace Go.Proofs.YthfglhafphfhiaaGreat
open Go.RowKit
theorem keep_set {w : World} {g b j : Nat} {v : Value} {o : Obj} (h : w.heap[g]? = some o) (hne : g ≠ b) : (w.setCell ⟨b, j, none⟩ v).heap[g]? = some o := (Below.heap_setCell _ _ _ _ hne).trans h
end Go.Proofs.YthfglhafphfhiaaGreat
/- The walk over the reference of records: Right, kind 2. -/
namespace Go.Proofs.YthfglhafphfhiaaGreat
open Go.RowKit
end Go.Proofs.YthfglhafphfhiaaGreat
/- The walk over the reference of records: Right, kind 3. -/
namespace Go.Proofs.YthfglhafphfhiaaGreat
open Go.RowKit
end Go.Proofs.YthfglhafphfhiaaGreat
/- The walk over the reference of records: Right, kind 4. -/
namespace Go.Proofs.YthfglhafphfhiaaGreat
open Go.RowKit
set_option maxRecDepth 100000 in
set_option maxHeartbeats 8000000 in
theorem rright_4 (lsn prev txn page next nu ok os how root ep es : Int) (oo on ek : ByteArray) (ts : List Rc.TxnAt) (ds : List Rc.DirtyAt) (A B : Option Addr) (c d : Nat) (w : World) (hr : RecR w ⟨lsn, prev, txn, 4, page, next, nu, ⟨ok, os, oo, on⟩, how, root, ⟨ek, ep, es⟩, ts, ds⟩ A c B d) :
    Calls Tryz.prog 110 #[.agg #[.int .i64 lsn, .int .i64 prev, .int .i64 txn, .int .i64 4, .int .i64 page, .int .i64 next, .int .i64 nu, .int .i64 ok, .int .i64 os, .string oo, .string on, .int .i64 how, .int .i64 root, .string ek, .int .i64 ep, .int .i64 es, .slice A ts.length c, .slice B ds.length d]] w fun e w' => e = .returned (.bool (Rc.rightB ⟨lsn, prev, txn, 4, page, next, nu, ⟨ok, os, oo, on⟩, how, root, ⟨ek, ep, es⟩, ts, ds⟩)) ∧ Below w.heap.size w w' := by
  obtain ⟨z, hz⟩ : ∃ z, z = Rc.rightB ⟨lsn, prev, txn, 4, page, next, nu, ⟨ok, os, oo, on⟩, how, root, ⟨ek, ep, es⟩, ts, ds⟩ := ⟨_, rfl⟩
  rw [← hz]
  have HZ := Lib.hid hz
  clear hz
  obtain ⟨w0, hw0⟩ : ∃ W, W = w.alloc (.cells #[.int .i64 lsn, .int .i64 prev, .int .i64 txn, .int .i64 4, .int .i64 page, .int .i64 next, .int .i64 nu, .int .i64 ok, .int .i64 os, .string oo, .string on, .int .i64 how, .int .i64 root, .string ek, .int .i64 ep, .int .i64 es, .slice A ts.length c, .slice B ds.length d] 85) := ⟨_, rfl⟩
  have HB0 := Lib.hid (show Below w.heap.size w w0 from by rw [hw0]; exact allocB _ _)
  have HX0 := Lib.hid (show w0.heap[w.heap.size]? = some (.cells #[.int .i64 lsn, .int .i64 prev, .int .i64 txn, .int .i64 4, .int .i64 page, .int .i64 next, .int .i64 nu, .int .i64 ok, .int .i64 os, .string oo, .string on, .int .i64 how, .int .i64 root, .string ek, .int .i64 ep, .int .i64 es, .slice A ts.length c, .slice B ds.length d] 85 (0, 0)) from by rw [hw0]; exact heap_alloc_new _ _)
  have HRR := Lib.hid (fun W (hb : Below w.heap.size w W) => hr.below hb)
  clear hr
  go_enter Tryz.func110, Tryz.ntmps110
  go_upto_region 1 with fail
  rw [← hw0]
  clear hw0
  obtain ⟨g, hg⟩ : ∃ g, g = w.heap.size := ⟨_, rfl⟩
  rw [← hg] at HX0
  rw [← hg]
  clear hg
  have hcg := blkCell HX0.out
  have H1 := Lib.hid (fun W => rnumber_any lsn W)
  have H2 := Lib.hid (fun W => rnumber_any prev W)
  have H3 := Lib.hid (fun W => rnumber_any txn W)
  have HNO := Lib.hid (show ¬ (Rc.num lsn ∧ Rc.num prev ∧ Rc.num txn) → z = false from fun h => HZ.out.trans (Rc.rightB_no fun hr => h (Rc.r_nums hr)))
  by_cases h1 : Rc.num lsn
  rotate_left
  · rw [decide_eq_false h1] at H1
    have HZ2 := Lib.hid (HNO.out (fun h => h1 h.1))
    clear h1
    go_wp2_with (go_at_call 135; (with_reducible refine (H1.out _).mono ?_); rintro e w1 ⟨rfl, hb1⟩; have hc1 := blkCell (blkOld HX0.out hb1))
    go_ret
    exact ⟨by rw [HZ2.out]; rfl, joinB HB0.out hb1⟩
  by_cases h2 : Rc.num prev
  rotate_left
  · rw [decide_eq_true h1] at H1
    rw [decide_eq_false h2] at H2
    have HZ2 := Lib.hid (HNO.out (fun h => h2 h.2.1))
    clear h1 h2
    go_wp2_with (first | (go_at_call 135; (with_reducible refine (H1.out _).mono ?_); rintro e w1 ⟨rfl, hb1⟩; have hc1 := blkCell (blkOld HX0.out hb1)) | (go_at_call 135; (with_reducible refine (H2.out _).mono ?_); rintro e w2 ⟨rfl, hb2⟩; have hc2 := blkCell (blkOld (blkOld HX0.out hb1) hb2)))
    go_ret
    exact ⟨by rw [HZ2.out]; rfl, joinB HB0.out (joinB hb1 hb2)⟩
  by_cases h3 : Rc.num txn
  rotate_left
  · rw [decide_eq_true h1] at H1
    rw [decide_eq_true h2] at H2
    rw [decide_eq_false h3] at H3
    have HZ2 := Lib.hid (HNO.out (fun h => h3 h.2.2))
    clear h1 h2 h3
    go_wp2_with (first | (go_at_call 135; (with_reducible refine (H1.out _).mono ?_); rintro e w1 ⟨rfl, hb1⟩; have hc1 := blkCell (blkOld HX0.out hb1)) | (go_at_call 135; (with_reducible refine (H2.out _).mono ?_); rintro e w2 ⟨rfl, hb2⟩; have hc2 := blkCell (blkOld (blkOld HX0.out hb1) hb2)) | (go_at_call 135; (with_reducible refine (H3.out _).mono ?_); rintro e w3 ⟨rfl, hb3⟩))
    go_ret
    exact ⟨by rw [HZ2.out]; rfl, joinB HB0.out (joinB (joinB hb1 hb2) hb3)⟩
  rw [decide_eq_true h1] at H1
  rw [decide_eq_true h2] at H2
  rw [decide_eq_true h3] at H3
  have HIF := Lib.hid (show z = (decide ((⟨lsn, prev, txn, 4, 0, next, 0, ⟨0, 0, ⟨#[]⟩, ⟨#[]⟩⟩, 0, 0, ⟨⟨#[]⟩, 0, 0⟩, [], []⟩ : Rc.Rec) = ⟨lsn, prev, txn, 4, page, next, nu, ⟨ok, os, oo, on⟩, how, root, ⟨ek, ep, es⟩, ts, ds⟩) && (decide (Rc.num next))) from HZ.out.trans (Rc.rightB_of ((Rc.r_4 ⟨h1, h2, h3⟩).trans (by simp only [Bool.and_eq_true, decide_eq_true_eq]; (try exact Iff.rfl)))))
  clear h1 h2 h3 HNO HZ
  have HBA := Lib.hid (fun W => rbare_any ⟨lsn, prev, txn, 4, page, next, nu, ⟨ok, os, oo, on⟩, how, root, ⟨ek, ep, es⟩, ts, ds⟩ (.slice A ts.length c) (.slice B ds.length d) W)
  dsimp only [recV, recA, Rc.bare, Rc.noOp, Rc.noKey] at HBA
  go_upto_region 4 with (first | (go_at_call 135; (with_reducible refine (H1.out _).mono ?_); rintro e w1 ⟨rfl, hb1⟩; have hc1 := blkCell (blkOld HX0.out hb1)) | (go_at_call 135; (with_reducible refine (H2.out _).mono ?_); rintro e w2 ⟨rfl, hb2⟩; have hc2 := blkCell (blkOld (blkOld HX0.out hb1) hb2)) | (go_at_call 135; (with_reducible refine (H3.out _).mono ?_); rintro e w3 ⟨rfl, hb3⟩) | (with_reducible refine listLoad (by kernel_rfl) 85 (.tmp 1) rfl g rfl #[.int .i64 lsn, .int .i64 prev, .int .i64 txn, .int .i64 4, .int .i64 page, .int .i64 next, .int .i64 nu, .int .i64 ok, .int .i64 os, .string oo, .string on, .int .i64 how, .int .i64 root, .string ek, .int .i64 ep, .int .i64 es, .slice A ts.length c, .slice B ds.length d] _ (blkOld HX0.out (joinB (joinB hb1 hb2) hb3)) _ Tryz.underlying85 (by kernel_rfl) (by kernel_rfl) ?_) | (go_at_call 136; (with_reducible refine (HBA.out _).mono ?_); rintro e w4 ⟨rfl, hb4⟩) | (with_reducible refine wpList_store_new rfl 85 (.tmp 3) (.tmp 21) rfl #[.int .i64 lsn, .int .i64 prev, .int .i64 txn, .int .i64 4, .int .i64 0, .int .i64 0, .int .i64 0, .int .i64 0, .int .i64 0, .string ⟨#[]⟩, .string ⟨#[]⟩, .int .i64 0, .int .i64 0, .string ⟨#[]⟩, .int .i64 0, .int .i64 0, .slice none 0 0, .slice none 0 0] _ _ rfl (by kernel_rfl) (by kernel_rfl) (by kernel_rfl) (by kernel_rfl) ?_))
  have HB5 := Lib.hid (joinB (joinB (joinB (joinB HB0.out hb1) hb2) hb3) (pastAlloc (o := .cells #[.int .i64 lsn, .int .i64 prev, .int .i64 txn, .int .i64 4, .int .i64 0, .int .i64 0, .int .i64 0, .int .i64 0, .int .i64 0, .string ⟨#[]⟩, .string ⟨#[]⟩, .int .i64 0, .int .i64 0, .string ⟨#[]⟩, .int .i64 0, .int .i64 0, .slice none 0 0, .slice none 0 0] 85) hb4))
  have HX5 := Lib.hid (blkOld HX0.out (joinB (joinB (joinB hb1 hb2) hb3) (pastAlloc (o := .cells #[.int .i64 lsn, .int .i64 prev, .int .i64 txn, .int .i64 4, .int .i64 0, .int .i64 0, .int .i64 0, .int .i64 0, .int .i64 0, .string ⟨#[]⟩, .string ⟨#[]⟩, .int .i64 0, .int .i64 0, .string ⟨#[]⟩, .int .i64 0, .int .i64 0, .slice none 0 0, .slice none 0 0] 85) hb4)))
  have HG5 := Lib.hid (heap_alloc_new w4 (.cells #[.int .i64 lsn, .int .i64 prev, .int .i64 txn, .int .i64 4, .int .i64 0, .int .i64 0, .int .i64 0, .int .i64 0, .int .i64 0, .string ⟨#[]⟩, .string ⟨#[]⟩, .int .i64 0, .int .i64 0, .string ⟨#[]⟩, .int .i64 0, .int .i64 0, .slice none 0 0, .slice none 0 0] 85))
  have hgx : g < w4.heap.size := Nat.lt_of_lt_of_le (heapLt HX0.out) (joinB (joinB (joinB hb1 hb2) hb3) hb4).size
  have hgw : w.heap.size ≤ w4.heap.size := (joinB (joinB (joinB (joinB HB0.out hb1) hb2) hb3) hb4).size
  obtain ⟨gx, hge⟩ : ∃ gx, gx = w4.heap.size := ⟨_, rfl⟩
  obtain ⟨W5, hW5⟩ : ∃ W, W = w4.alloc (.cells #[.int .i64 lsn, .int .i64 prev, .int .i64 txn, .int .i64 4, .int .i64 0, .int .i64 0, .int .i64 0, .int .i64 0, .int .i64 0, .string ⟨#[]⟩, .string ⟨#[]⟩, .int .i64 0, .int .i64 0, .string ⟨#[]⟩, .int .i64 0, .int .i64 0, .slice none 0 0, .slice none 0 0] 85) := ⟨_, rfl⟩
  rw [← hge, ← hW5] at HG5
  rw [← hW5] at HB5 HX5
  rw [← hge] at hgx hgw
  rw [← hge, ← hW5]
  clear hge hW5 hb1 hb2 hb3 hb4 hc1 hc2 hcg HBA H1 H2 H3 HX0
  have hcg := blkCell HX5.out
  have hcx := blkCell HG5.out
  have hzx := blkFrozen HG5.out
  go_upto_region 18 with fail
  have HX6 := Lib.hid (show (W5.setCell ⟨gx, 5, none⟩ (.int .i64 next)).heap[g]? = some (.cells #[.int .i64 lsn, .int .i64 prev, .int .i64 txn, .int .i64 4, .int .i64 page, .int .i64 next, .int .i64 nu, .int .i64 ok, .int .i64 os, .string oo, .string on, .int .i64 how, .int .i64 root, .string ek, .int .i64 ep, .int .i64 es, .slice A ts.length c, .slice B ds.length d] 85 (0, 0)) from keep_set (b := gx) HX5.out (by omega))
  have HG6 := Lib.hid (show (W5.setCell ⟨gx, 5, none⟩ (.int .i64 next)).heap[gx]? = some (.cells #[.int .i64 lsn, .int .i64 prev, .int .i64 txn, .int .i64 4, .int .i64 0, .int .i64 next, .int .i64 0, .int .i64 0, .int .i64 0, .string ⟨#[]⟩, .string ⟨#[]⟩, .int .i64 0, .int .i64 0, .string ⟨#[]⟩, .int .i64 0, .int .i64 0, .slice none 0 0, .slice none 0 0] 85 (0, 0)) from by have h := blkSet 5 HG5.out (.int .i64 next); simpa using h)
  have HB6 := Lib.hid (show Below w.heap.size w (W5.setCell ⟨gx, 5, none⟩ (.int .i64 next)) from HB5.out.setCell (p := ⟨gx, 5, none⟩) (by show _ ≤ gx; omega) (.int .i64 next))
  obtain ⟨W6, hW6⟩ : ∃ W, W = (W5.setCell ⟨gx, 5, none⟩ (.int .i64 next)) := ⟨_, rfl⟩
  rw [← hW6] at HX6 HG6 HB6
  rw [← hW6]
  clear hW6 HX5 HG5 HB5 hcg hcx hzx
  have hcg := blkCell HX6.out
  have HSA := Lib.hid (rsame_any (⟨lsn, prev, txn, 4, 0, next, 0, ⟨0, 0, ⟨#[]⟩, ⟨#[]⟩⟩, 0, 0, ⟨⟨#[]⟩, 0, 0⟩, [], []⟩ : Rc.Rec) ⟨lsn, prev, txn, 4, page, next, nu, ⟨ok, os, oo, on⟩, how, root, ⟨ek, ep, es⟩, ts, ds⟩ none A none B 0 c 0 d W6 (recR_nil _ _ rfl rfl) (HRR.out _ HB6.out))
  dsimp only [recV, recA, List.length_nil] at HSA
  generalize decide ((⟨lsn, prev, txn, 4, 0, next, 0, ⟨0, 0, ⟨#[]⟩, ⟨#[]⟩⟩, 0, 0, ⟨⟨#[]⟩, 0, 0⟩, [], []⟩ : Rc.Rec) = ⟨lsn, prev, txn, 4, page, next, nu, ⟨ok, os, oo, on⟩, how, root, ⟨ek, ep, es⟩, ts, ds⟩) = q at HSA HIF
  cases q with
  | false =>
    have HZ2 := Lib.hid (show z = false from HIF.out.trans (Bool.false_and _))
    go_wp2_with (first | (with_reducible refine listLoad (by kernel_rfl) 85 (.tmp 3) rfl gx rfl #[.int .i64 lsn, .int .i64 prev, .int .i64 txn, .int .i64 4, .int .i64 0, .int .i64 next, .int .i64 0, .int .i64 0, .int .i64 0, .string ⟨#[]⟩, .string ⟨#[]⟩, .int .i64 0, .int .i64 0, .string ⟨#[]⟩, .int .i64 0, .int .i64 0, .slice none 0 0, .slice none 0 0] _ HG6.out _ Tryz.underlying85 (by kernel_rfl) (by kernel_rfl) ?_) | (with_reducible refine listLoad (by kernel_rfl) 85 (.tmp 1) rfl g rfl #[.int .i64 lsn, .int .i64 prev, .int .i64 txn, .int .i64 4, .int .i64 page, .int .i64 next, .int .i64 nu, .int .i64 ok, .int .i64 os, .string oo, .string on, .int .i64 how, .int .i64 root, .string ek, .int .i64 ep, .int .i64 es, .slice A ts.length c, .slice B ds.length d] _ HX6.out _ Tryz.underlying85 (by kernel_rfl) (by kernel_rfl) ?_) | (go_at_call 137; (with_reducible refine HSA.out.mono ?_); rintro e w7 ⟨rfl, hb7⟩; have hc7 := blkCell (blkOld HX6.out hb7); have B7 := joinB HB6.out hb7))
    go_ret
    exact ⟨by rw [HZ2.out]; rfl, B7⟩
  | true =>
    have HIF0 := Lib.hid (HIF.out.trans (Bool.true_and _))
    clear HIF
    have HNX := Lib.hid (fun W => rnumber_any next W)
    (try dsimp only [recV, recA, opV] at HNX)
    generalize decide (Rc.num next) = p0 at HNX HIF0
    go_wp2_with (first | (with_reducible refine listLoad (by kernel_rfl) 85 (.tmp 3) rfl gx rfl #[.int .i64 lsn, .int .i64 prev, .int .i64 txn, .int .i64 4, .int .i64 0, .int .i64 next, .int .i64 0, .int .i64 0, .int .i64 0, .string ⟨#[]⟩, .string ⟨#[]⟩, .int .i64 0, .int .i64 0, .string ⟨#[]⟩, .int .i64 0, .int .i64 0, .slice none 0 0, .slice none 0 0] _ HG6.out _ Tryz.underlying85 (by kernel_rfl) (by kernel_rfl) ?_) | (with_reducible refine listLoad (by kernel_rfl) 85 (.tmp 1) rfl g rfl #[.int .i64 lsn, .int .i64 prev, .int .i64 txn, .int .i64 4, .int .i64 page, .int .i64 next, .int .i64 nu, .int .i64 ok, .int .i64 os, .string oo, .string on, .int .i64 how, .int .i64 root, .string ek, .int .i64 ep, .int .i64 es, .slice A ts.length c, .slice B ds.length d] _ HX6.out _ Tryz.underlying85 (by kernel_rfl) (by kernel_rfl) ?_) | (go_at_call 137; (with_reducible refine HSA.out.mono ?_); rintro e w7 ⟨rfl, hb7⟩; have hc7 := blkCell (blkOld HX6.out hb7); have B7 := joinB HB6.out hb7) | (go_at_call 135; (with_reducible refine (HNX.out _).mono ?_); rintro e w8 ⟨rfl, hb8⟩; have hc8 := blkCell (blkOld (blkOld HX6.out hb7) hb8); have B8 := joinB B7 hb8))
    go_ret
    exact ⟨by rw [HIF0.out]; simp, B8⟩
end Go.Proofs.YthfglhafphfhiaaGreat
/- The walk over the reference of records: Right, kind 9. -/
namespace Go.Proofs.YthfglhafphfhiaaGreat
open Go.RowKit
end Go.Proofs.YthfglhafphfhiaaGreat
