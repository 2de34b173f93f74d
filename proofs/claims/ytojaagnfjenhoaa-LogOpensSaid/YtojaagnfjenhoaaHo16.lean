/- The walk over the reference of records: Right, kind 8. -/
import Derived.Test.YtojaagnfjenhoaaHo15
import Derived.Test.YtojaagnfjenhoaaHo02
import Derived.Test.YtojaagnfjenhoaaHo06
namespace Go.Proofs.Ytojaagnfjenhoaa
open Go.RowKit
theorem keep_set {w : World} {g b j : Nat} {v : Value} {o : Obj} (h : w.heap[g]? = some o) (hne : g ≠ b) : (w.setCell ⟨b, j, none⟩ v).heap[g]? = some o := (Below.heap_setCell _ _ _ _ hne).trans h
theorem recR_nil (r : Rc.Rec) (w : World) (h1 : r.txns = []) (h2 : r.dirty = []) : RecR w r none 0 none 0 := by
  refine ⟨?_, ?_, by rw [h1, h2]; exact ⟨Nat.zero_le _, Nat.zero_le _⟩⟩
  · rw [h1]; exact Reads.none_ _ _ _ _
  · rw [h2]; exact Reads.none_ _ _ _ _
set_option maxRecDepth 100000 in
set_option maxHeartbeats 8000000 in
theorem rright_8 (lsn prev txn page next nu ok os how root ep es : Int) (oo on ek : ByteArray) (ts : List Rc.TxnAt) (ds : List Rc.DirtyAt) (A B : Option Addr) (c d : Nat) (w : World) (hr : RecR w ⟨lsn, prev, txn, 8, page, next, nu, ⟨ok, os, oo, on⟩, how, root, ⟨ek, ep, es⟩, ts, ds⟩ A c B d) :
    Calls Try.prog 43 #[.agg #[.int .i64 lsn, .int .i64 prev, .int .i64 txn, .int .i64 8, .int .i64 page, .int .i64 next, .int .i64 nu, .int .i64 ok, .int .i64 os, .string oo, .string on, .int .i64 how, .int .i64 root, .string ek, .int .i64 ep, .int .i64 es, .slice A ts.length c, .slice B ds.length d]] w fun e w' => e = .returned (.bool (Rc.rightB ⟨lsn, prev, txn, 8, page, next, nu, ⟨ok, os, oo, on⟩, how, root, ⟨ek, ep, es⟩, ts, ds⟩)) ∧ Below w.heap.size w w' := by
  obtain ⟨z, hz⟩ : ∃ z, z = Rc.rightB ⟨lsn, prev, txn, 8, page, next, nu, ⟨ok, os, oo, on⟩, how, root, ⟨ek, ep, es⟩, ts, ds⟩ := ⟨_, rfl⟩
  rw [← hz]
  have HZ := Lib.hid hz
  clear hz
  obtain ⟨w0, hw0⟩ : ∃ W, W = w.alloc (.cells #[.int .i64 lsn, .int .i64 prev, .int .i64 txn, .int .i64 8, .int .i64 page, .int .i64 next, .int .i64 nu, .int .i64 ok, .int .i64 os, .string oo, .string on, .int .i64 how, .int .i64 root, .string ek, .int .i64 ep, .int .i64 es, .slice A ts.length c, .slice B ds.length d] 49) := ⟨_, rfl⟩
  have HB0 := Lib.hid (show Below w.heap.size w w0 from by rw [hw0]; exact allocB _ _)
  have HX0 := Lib.hid (show w0.heap[w.heap.size]? = some (.cells #[.int .i64 lsn, .int .i64 prev, .int .i64 txn, .int .i64 8, .int .i64 page, .int .i64 next, .int .i64 nu, .int .i64 ok, .int .i64 os, .string oo, .string on, .int .i64 how, .int .i64 root, .string ek, .int .i64 ep, .int .i64 es, .slice A ts.length c, .slice B ds.length d] 49 (0, 0)) from by rw [hw0]; exact heap_alloc_new _ _)
  have HRR := Lib.hid (fun W (hb : Below w.heap.size w W) => hr.below hb)
  clear hr
  go_enter Try.func43, Try.ntmps43
  go_upto_region 1 with fail
  rw [← hw0]
  clear hw0
  obtain ⟨g, hg⟩ : ∃ g, g = w.heap.size := ⟨_, rfl⟩
  rw [← hg] at HX0
  rw [← hg]
  clear hg
  have hcg := blkCell HX0.out
  have H1 := Lib.hid (fun W => rnumber_any lsn W)
  have H2 := Lib.hid (fun W => rnumber_any prev W)
  have H3 := Lib.hid (fun W => rnumber_any txn W)
  have HNO := Lib.hid (show ¬ (Rc.num lsn ∧ Rc.num prev ∧ Rc.num txn) → z = false from fun h => HZ.out.trans (Rc.rightB_no fun hr => h (Rc.r_nums hr)))
  by_cases h1 : Rc.num lsn
  rotate_left
  · rw [decide_eq_false h1] at H1
    have HZ2 := Lib.hid (HNO.out (fun h => h1 h.1))
    clear h1
    go_wp2_with (go_at_call 77; (with_reducible refine (H1.out _).mono ?_); rintro e w1 ⟨rfl, hb1⟩; have hc1 := blkCell (blkOld HX0.out hb1))
    go_ret
    exact ⟨by rw [HZ2.out]; rfl, joinB HB0.out hb1⟩
  by_cases h2 : Rc.num prev
  rotate_left
  · rw [decide_eq_true h1] at H1
    rw [decide_eq_false h2] at H2
    have HZ2 := Lib.hid (HNO.out (fun h => h2 h.2.1))
    clear h1 h2
    go_wp2_with (first | (go_at_call 77; (with_reducible refine (H1.out _).mono ?_); rintro e w1 ⟨rfl, hb1⟩; have hc1 := blkCell (blkOld HX0.out hb1)) | (go_at_call 77; (with_reducible refine (H2.out _).mono ?_); rintro e w2 ⟨rfl, hb2⟩; have hc2 := blkCell (blkOld (blkOld HX0.out hb1) hb2)))
    go_ret
    exact ⟨by rw [HZ2.out]; rfl, joinB HB0.out (joinB hb1 hb2)⟩
  by_cases h3 : Rc.num txn
  rotate_left
  · rw [decide_eq_true h1] at H1
    rw [decide_eq_true h2] at H2
    rw [decide_eq_false h3] at H3
    have HZ2 := Lib.hid (HNO.out (fun h => h3 h.2.2))
    clear h1 h2 h3
    go_wp2_with (first | (go_at_call 77; (with_reducible refine (H1.out _).mono ?_); rintro e w1 ⟨rfl, hb1⟩; have hc1 := blkCell (blkOld HX0.out hb1)) | (go_at_call 77; (with_reducible refine (H2.out _).mono ?_); rintro e w2 ⟨rfl, hb2⟩; have hc2 := blkCell (blkOld (blkOld HX0.out hb1) hb2)) | (go_at_call 77; (with_reducible refine (H3.out _).mono ?_); rintro e w3 ⟨rfl, hb3⟩))
    go_ret
    exact ⟨by rw [HZ2.out]; rfl, joinB HB0.out (joinB (joinB hb1 hb2) hb3)⟩
  rw [decide_eq_true h1] at H1
  rw [decide_eq_true h2] at H2
  rw [decide_eq_true h3] at H3
  have HIF := Lib.hid (show z = (decide ((⟨lsn, prev, txn, 8, page, 0, 0, ⟨ok, os, oo, on⟩, 0, 0, ⟨⟨#[]⟩, 0, 0⟩, [], []⟩ : Rc.Rec) = ⟨lsn, prev, txn, 8, page, next, nu, ⟨ok, os, oo, on⟩, how, root, ⟨ek, ep, es⟩, ts, ds⟩) && (decide (Rc.pg page) && (decide (Rc.opR ⟨ok, os, oo, on⟩)))) from HZ.out.trans (Rc.rightB_of ((Rc.r_8 ⟨h1, h2, h3⟩).trans (by simp only [Bool.and_eq_true, decide_eq_true_eq]; (try exact Iff.rfl)))))
  clear h1 h2 h3 HNO HZ
  have HBA := Lib.hid (fun W => rbare_any ⟨lsn, prev, txn, 8, page, next, nu, ⟨ok, os, oo, on⟩, how, root, ⟨ek, ep, es⟩, ts, ds⟩ (.slice A ts.length c) (.slice B ds.length d) W)
  dsimp only [recV, recA, Rc.bare, Rc.noOp, Rc.noKey] at HBA
  go_upto_region 4 with (first | (go_at_call 77; (with_reducible refine (H1.out _).mono ?_); rintro e w1 ⟨rfl, hb1⟩; have hc1 := blkCell (blkOld HX0.out hb1)) | (go_at_call 77; (with_reducible refine (H2.out _).mono ?_); rintro e w2 ⟨rfl, hb2⟩; have hc2 := blkCell (blkOld (blkOld HX0.out hb1) hb2)) | (go_at_call 77; (with_reducible refine (H3.out _).mono ?_); rintro e w3 ⟨rfl, hb3⟩) | (with_reducible refine listLoad (by kernel_rfl) 49 (.tmp 1) rfl g rfl #[.int .i64 lsn, .int .i64 prev, .int .i64 txn, .int .i64 8, .int .i64 page, .int .i64 next, .int .i64 nu, .int .i64 ok, .int .i64 os, .string oo, .string on, .int .i64 how, .int .i64 root, .string ek, .int .i64 ep, .int .i64 es, .slice A ts.length c, .slice B ds.length d] _ (blkOld HX0.out (joinB (joinB hb1 hb2) hb3)) _ Try.underlying49 (by kernel_rfl) (by kernel_rfl) ?_) | (go_at_call 78; (with_reducible refine (HBA.out _).mono ?_); rintro e w4 ⟨rfl, hb4⟩) | (with_reducible refine wpList_store_new rfl 49 (.tmp 3) (.tmp 21) rfl #[.int .i64 lsn, .int .i64 prev, .int .i64 txn, .int .i64 8, .int .i64 0, .int .i64 0, .int .i64 0, .int .i64 0, .int .i64 0, .string ⟨#[]⟩, .string ⟨#[]⟩, .int .i64 0, .int .i64 0, .string ⟨#[]⟩, .int .i64 0, .int .i64 0, .slice none 0 0, .slice none 0 0] _ _ rfl (by kernel_rfl) (by kernel_rfl) (by kernel_rfl) (by kernel_rfl) ?_))
  have HB5 := Lib.hid (joinB (joinB (joinB (joinB HB0.out hb1) hb2) hb3) (pastAlloc (o := .cells #[.int .i64 lsn, .int .i64 prev, .int .i64 txn, .int .i64 8, .int .i64 0, .int .i64 0, .int .i64 0, .int .i64 0, .int .i64 0, .string ⟨#[]⟩, .string ⟨#[]⟩, .int .i64 0, .int .i64 0, .string ⟨#[]⟩, .int .i64 0, .int .i64 0, .slice none 0 0, .slice none 0 0] 49) hb4))
  have HX5 := Lib.hid (blkOld HX0.out (joinB (joinB (joinB hb1 hb2) hb3) (pastAlloc (o := .cells #[.int .i64 lsn, .int .i64 prev, .int .i64 txn, .int .i64 8, .int .i64 0, .int .i64 0, .int .i64 0, .int .i64 0, .int .i64 0, .string ⟨#[]⟩, .string ⟨#[]⟩, .int .i64 0, .int .i64 0, .string ⟨#[]⟩, .int .i64 0, .int .i64 0, .slice none 0 0, .slice none 0 0] 49) hb4)))
  have HG5 := Lib.hid (heap_alloc_new w4 (.cells #[.int .i64 lsn, .int .i64 prev, .int .i64 txn, .int .i64 8, .int .i64 0, .int .i64 0, .int .i64 0, .int .i64 0, .int .i64 0, .string ⟨#[]⟩, .string ⟨#[]⟩, .int .i64 0, .int .i64 0, .string ⟨#[]⟩, .int .i64 0, .int .i64 0, .slice none 0 0, .slice none 0 0] 49))
  have hgx : g < w4.heap.size := Nat.lt_of_lt_of_le (heapLt HX0.out) (joinB (joinB (joinB hb1 hb2) hb3) hb4).size
  have hgw : w.heap.size ≤ w4.heap.size := (joinB (joinB (joinB (joinB HB0.out hb1) hb2) hb3) hb4).size
  obtain ⟨gx, hge⟩ : ∃ gx, gx = w4.heap.size := ⟨_, rfl⟩
  obtain ⟨W5, hW5⟩ : ∃ W, W = w4.alloc (.cells #[.int .i64 lsn, .int .i64 prev, .int .i64 txn, .int .i64 8, .int .i64 0, .int .i64 0, .int .i64 0, .int .i64 0, .int .i64 0, .string ⟨#[]⟩, .string ⟨#[]⟩, .int .i64 0, .int .i64 0, .string ⟨#[]⟩, .int .i64 0, .int .i64 0, .slice none 0 0, .slice none 0 0] 49) := ⟨_, rfl⟩
  rw [← hge, ← hW5] at HG5
  rw [← hW5] at HB5 HX5
  rw [← hge] at hgx hgw
  rw [← hge, ← hW5]
  clear hge hW5 hb1 hb2 hb3 hb4 hc1 hc2 hcg HBA H1 H2 H3 HX0
  have hcg := blkCell HX5.out
  go_upto_region 20 with fail
  have X0 := blkOld HX5.out (Below.refl _ W5).drew
  have G0 := blkOld HG5.out (Below.refl _ W5).drew
  have BB0 := joinB HB5.out (Below.refl _ W5).drew
  refine wp_region_held_drew (S := (fun u => u.heap[g]? = some (.cells #[.int .i64 lsn, .int .i64 prev, .int .i64 txn, .int .i64 8, .int .i64 page, .int .i64 next, .int .i64 nu, .int .i64 ok, .int .i64 os, .string oo, .string on, .int .i64 how, .int .i64 root, .string ek, .int .i64 ep, .int .i64 es, .slice A ts.length c, .slice B ds.length d] 49 (0, 0)))) (by kernel_rfl) ?_ (fun hHeld => ?_)
  · first | exact hSn | exact X0
  generalize W5.drew = V0 at hHeld X0 G0 BB0 ⊢
  refine wpAnyH_take (i := 0) (oi := { dst := some 100, op := _, type := _, pos := _, after := _, guard := _ }) (v := ?_) rfl (by kernel_rfl) (by kernel_rfl) (by kernel_rfl) (fun _ _ _ h => h) (Or.inl ⟨by rfl, ?_⟩) (by assumption) ?_
  rotate_left
  · intro u hSu; have hSv := blkCell hSu; clear hSu; go_simp; (try with_reducible rfl)
  try simp only [Act.put, List.setIfInBounds_toArray, List.set_cons_zero, List.set_cons_succ]
  refine wpAnyH_take (i := 1) (oi := { dst := some 101, op := _, type := _, pos := _, after := _, guard := _ }) (v := ?_) rfl (by kernel_rfl) (by kernel_rfl) (by kernel_rfl) (fun _ _ _ h => h) (Or.inl ⟨by rfl, ?_⟩) (by assumption) ?_
  rotate_left
  · intro u hSu; have hSv := blkCell hSu; clear hSu; go_simp; (try with_reducible rfl)
  try simp only [Act.put, List.setIfInBounds_toArray, List.set_cons_zero, List.set_cons_succ]
  refine wpAnyH_take (i := 2) (oi := { dst := some 102, op := _, type := _, pos := _, after := _, guard := _ }) (v := ?_) rfl (by kernel_rfl) (by kernel_rfl) (by kernel_rfl) (fun _ _ _ h => h) (Or.inl ⟨by rfl, ?_⟩) (by assumption) ?_
  rotate_left
  · intro u hSu; have hSv := blkCell hSu; clear hSu; go_simp; (try with_reducible rfl)
  try simp only [Act.put, List.setIfInBounds_toArray, List.set_cons_zero, List.set_cons_succ]
  refine wpAnyH_take (i := 3) (oi := { dst := some 103, op := _, type := _, pos := _, after := _, guard := _ }) (v := ?_) rfl (by kernel_rfl) (by kernel_rfl) (by kernel_rfl) (fun _ _ _ h => h) (Or.inl ⟨by rfl, ?_⟩) (by assumption) ?_
  rotate_left
  · intro u hSu; have hSv := blkCell hSu; clear hSu; go_simp; (try with_reducible rfl)
  try simp only [Act.put, List.setIfInBounds_toArray, List.set_cons_zero, List.set_cons_succ]
  refine wpAnyH_take (i := 4) (oi := { dst := some 104, op := _, type := _, pos := _, after := _, guard := _ }) (v := ?_) rfl (by kernel_rfl) (by kernel_rfl) (by kernel_rfl) (fun _ _ _ h => h) (Or.inl ⟨by rfl, ?_⟩) (by assumption) ?_
  rotate_left
  · intro u hSu; have hSv := blkCell hSu; clear hSu; go_simp; (try with_reducible rfl)
  try simp only [Act.put, List.setIfInBounds_toArray, List.set_cons_zero, List.set_cons_succ]
  refine wpAnyH_ready (rs := [5]) (by kernel_rfl) (by simp) ?_
  refine AllReadyH.cons (o := { dst := none, op := _, type := _, pos := _, after := _, guard := _ }) rfl (fun K hK => ?_) ?_
  rotate_left
  · exact AllReadyH.nil
  have hcx0 := blkCell G0
  have hzx0 := blkFrozen G0
  go_simp
  have X1 := (keep_set (b := gx) (j := 4) (v := .int .i64 page) X0 (by omega))
  have G1 : (V0.setCell ⟨gx, 4, none⟩ (.int .i64 page)).heap[gx]? = some (.cells #[.int .i64 lsn, .int .i64 prev, .int .i64 txn, .int .i64 8, .int .i64 page, .int .i64 0, .int .i64 0, .int .i64 0, .int .i64 0, .string ⟨#[]⟩, .string ⟨#[]⟩, .int .i64 0, .int .i64 0, .string ⟨#[]⟩, .int .i64 0, .int .i64 0, .slice none 0 0, .slice none 0 0] 49 (0, 0)) := (by have h := (blkSet 4 G0 (.int .i64 page)); simpa using h)
  try clear hSn
  have hSn := X1
  refine hK.out _ _ ?_ (fun hHeld => ?_)
  · first | exact hSn | exact X0
  clear hK K
  try simp only [Act.put, List.setIfInBounds_toArray, List.set_cons_zero, List.set_cons_succ]
  refine wpAnyH_take (i := 6) (oi := { dst := some 105, op := _, type := _, pos := _, after := _, guard := _ }) (v := ?_) rfl (by kernel_rfl) (by kernel_rfl) (by kernel_rfl) (fun _ _ _ h => h) (Or.inl ⟨by rfl, ?_⟩) (by assumption) ?_
  rotate_left
  · intro u hSu; have hSv := blkCell hSu; clear hSu; go_simp; (try with_reducible rfl)
  try simp only [Act.put, List.setIfInBounds_toArray, List.set_cons_zero, List.set_cons_succ]
  refine wpAnyH_ready (rs := [7]) (by kernel_rfl) (by simp) ?_
  refine AllReadyH.cons (o := { dst := none, op := _, type := _, pos := _, after := _, guard := _ }) rfl (fun K hK => ?_) ?_
  rotate_left
  · exact AllReadyH.nil
  have hcx1 := blkCell G1
  have hzx1 := blkFrozen G1
  go_simp
  have X2 := (keep_set (b := gx) (j := 10) (v := .string on) (keep_set (b := gx) (j := 9) (v := .string oo) (keep_set (b := gx) (j := 8) (v := .int .i64 os) (keep_set (b := gx) (j := 7) (v := .int .i64 ok) X1 (by omega)) (by omega)) (by omega)) (by omega))
  have G2 : (((((V0.setCell ⟨gx, 4, none⟩ (.int .i64 page)).setCell ⟨gx, 7, none⟩ (.int .i64 ok)).setCell ⟨gx, 8, none⟩ (.int .i64 os)).setCell ⟨gx, 9, none⟩ (.string oo)).setCell ⟨gx, 10, none⟩ (.string on)).heap[gx]? = some (.cells #[.int .i64 lsn, .int .i64 prev, .int .i64 txn, .int .i64 8, .int .i64 page, .int .i64 0, .int .i64 0, .int .i64 ok, .int .i64 os, .string oo, .string on, .int .i64 0, .int .i64 0, .string ⟨#[]⟩, .int .i64 0, .int .i64 0, .slice none 0 0, .slice none 0 0] 49 (0, 0)) := (by have h := (blkSet 10 (blkSet 9 (blkSet 8 (blkSet 7 G1 (.int .i64 ok)) (.int .i64 os)) (.string oo)) (.string on)); simpa using h)
  try clear hSn
  have hSn := X2
  refine hK.out _ _ ?_ (fun hHeld => ?_)
  · first | exact hSn | exact X0
  clear hK K
  try simp only [Act.put, List.setIfInBounds_toArray, List.set_cons_zero, List.set_cons_succ]
  refine wpAnyH_done (by kernel_rfl) ?_ _
  clear hHeld hSn
  have HX6 := Lib.hid (show (((((V0.setCell ⟨gx, 4, none⟩ (.int .i64 page)).setCell ⟨gx, 7, none⟩ (.int .i64 ok)).setCell ⟨gx, 8, none⟩ (.int .i64 os)).setCell ⟨gx, 9, none⟩ (.string oo)).setCell ⟨gx, 10, none⟩ (.string on)).heap[g]? = some (.cells #[.int .i64 lsn, .int .i64 prev, .int .i64 txn, .int .i64 8, .int .i64 page, .int .i64 next, .int .i64 nu, .int .i64 ok, .int .i64 os, .string oo, .string on, .int .i64 how, .int .i64 root, .string ek, .int .i64 ep, .int .i64 es, .slice A ts.length c, .slice B ds.length d] 49 (0, 0)) from X2)
  have HG6 := Lib.hid (show (((((V0.setCell ⟨gx, 4, none⟩ (.int .i64 page)).setCell ⟨gx, 7, none⟩ (.int .i64 ok)).setCell ⟨gx, 8, none⟩ (.int .i64 os)).setCell ⟨gx, 9, none⟩ (.string oo)).setCell ⟨gx, 10, none⟩ (.string on)).heap[gx]? = some (.cells #[.int .i64 lsn, .int .i64 prev, .int .i64 txn, .int .i64 8, .int .i64 page, .int .i64 0, .int .i64 0, .int .i64 ok, .int .i64 os, .string oo, .string on, .int .i64 0, .int .i64 0, .string ⟨#[]⟩, .int .i64 0, .int .i64 0, .slice none 0 0, .slice none 0 0] 49 (0, 0)) from by have h := G2; simpa using h)
  have HB6 := Lib.hid (show Below w.heap.size w (((((V0.setCell ⟨gx, 4, none⟩ (.int .i64 page)).setCell ⟨gx, 7, none⟩ (.int .i64 ok)).setCell ⟨gx, 8, none⟩ (.int .i64 os)).setCell ⟨gx, 9, none⟩ (.string oo)).setCell ⟨gx, 10, none⟩ (.string on)) from (((((BB0.setCell (p := ⟨gx, 4, none⟩) (by show _ ≤ gx; omega) (.int .i64 page)).setCell (p := ⟨gx, 7, none⟩) (by show _ ≤ gx; omega) (.int .i64 ok)).setCell (p := ⟨gx, 8, none⟩) (by show _ ≤ gx; omega) (.int .i64 os)).setCell (p := ⟨gx, 9, none⟩) (by show _ ≤ gx; omega) (.string oo)).setCell (p := ⟨gx, 10, none⟩) (by show _ ≤ gx; omega) (.string on)))
  obtain ⟨W6, hW6⟩ : ∃ W, W = (((((V0.setCell ⟨gx, 4, none⟩ (.int .i64 page)).setCell ⟨gx, 7, none⟩ (.int .i64 ok)).setCell ⟨gx, 8, none⟩ (.int .i64 os)).setCell ⟨gx, 9, none⟩ (.string oo)).setCell ⟨gx, 10, none⟩ (.string on)) := ⟨_, rfl⟩
  rw [← hW6] at HX6 HG6 HB6
  rw [← hW6]
  clear hW6 HX5 HG5 HB5 hcg X0 G0 BB0 X1 G1 hcx0 hzx0 X2 G2 hcx1 hzx1
  have hcg := blkCell HX6.out
  have HSA := Lib.hid (rsame_any (⟨lsn, prev, txn, 8, page, 0, 0, ⟨ok, os, oo, on⟩, 0, 0, ⟨⟨#[]⟩, 0, 0⟩, [], []⟩ : Rc.Rec) ⟨lsn, prev, txn, 8, page, next, nu, ⟨ok, os, oo, on⟩, how, root, ⟨ek, ep, es⟩, ts, ds⟩ none A none B 0 c 0 d W6 (recR_nil _ _ rfl rfl) (HRR.out _ HB6.out))
  dsimp only [recV, recA, List.length_nil] at HSA
  generalize decide ((⟨lsn, prev, txn, 8, page, 0, 0, ⟨ok, os, oo, on⟩, 0, 0, ⟨⟨#[]⟩, 0, 0⟩, [], []⟩ : Rc.Rec) = ⟨lsn, prev, txn, 8, page, next, nu, ⟨ok, os, oo, on⟩, how, root, ⟨ek, ep, es⟩, ts, ds⟩) = q at HSA HIF
  cases q with
  | false =>
    have HZ2 := Lib.hid (show z = false from HIF.out.trans (Bool.false_and _))
    go_wp2_with (first | (with_reducible refine listLoad (by kernel_rfl) 49 (.tmp 3) rfl gx rfl #[.int .i64 lsn, .int .i64 prev, .int .i64 txn, .int .i64 8, .int .i64 page, .int .i64 0, .int .i64 0, .int .i64 ok, .int .i64 os, .string oo, .string on, .int .i64 0, .int .i64 0, .string ⟨#[]⟩, .int .i64 0, .int .i64 0, .slice none 0 0, .slice none 0 0] _ HG6.out _ Try.underlying49 (by kernel_rfl) (by kernel_rfl) ?_) | (with_reducible refine listLoad (by kernel_rfl) 49 (.tmp 1) rfl g rfl #[.int .i64 lsn, .int .i64 prev, .int .i64 txn, .int .i64 8, .int .i64 page, .int .i64 next, .int .i64 nu, .int .i64 ok, .int .i64 os, .string oo, .string on, .int .i64 how, .int .i64 root, .string ek, .int .i64 ep, .int .i64 es, .slice A ts.length c, .slice B ds.length d] _ HX6.out _ Try.underlying49 (by kernel_rfl) (by kernel_rfl) ?_) | (go_at_call 16; (with_reducible refine HSA.out.mono ?_); rintro e w7 ⟨rfl, hb7⟩; have hc7 := blkCell (blkOld HX6.out hb7); have B7 := joinB HB6.out hb7))
    go_ret
    exact ⟨by rw [HZ2.out]; rfl, B7⟩
  | true =>
    have HIF0 := Lib.hid (HIF.out.trans (Bool.true_and _))
    clear HIF
    have HPG := Lib.hid (fun W => rpage_any page W)
    (try dsimp only [recV, recA, opV] at HPG)
    generalize decide (Rc.pg page) = p0 at HPG HIF0
    cases p0 with
    | false =>
      have HZ2 := Lib.hid (show z = false from HIF0.out.trans (Bool.false_and _))
      go_wp2_with (first | (with_reducible refine listLoad (by kernel_rfl) 49 (.tmp 3) rfl gx rfl #[.int .i64 lsn, .int .i64 prev, .int .i64 txn, .int .i64 8, .int .i64 page, .int .i64 0, .int .i64 0, .int .i64 ok, .int .i64 os, .string oo, .string on, .int .i64 0, .int .i64 0, .string ⟨#[]⟩, .int .i64 0, .int .i64 0, .slice none 0 0, .slice none 0 0] _ HG6.out _ Try.underlying49 (by kernel_rfl) (by kernel_rfl) ?_) | (with_reducible refine listLoad (by kernel_rfl) 49 (.tmp 1) rfl g rfl #[.int .i64 lsn, .int .i64 prev, .int .i64 txn, .int .i64 8, .int .i64 page, .int .i64 next, .int .i64 nu, .int .i64 ok, .int .i64 os, .string oo, .string on, .int .i64 how, .int .i64 root, .string ek, .int .i64 ep, .int .i64 es, .slice A ts.length c, .slice B ds.length d] _ HX6.out _ Try.underlying49 (by kernel_rfl) (by kernel_rfl) ?_) | (go_at_call 16; (with_reducible refine HSA.out.mono ?_); rintro e w7 ⟨rfl, hb7⟩; have hc7 := blkCell (blkOld HX6.out hb7); have B7 := joinB HB6.out hb7) | (go_at_call 80; (with_reducible refine (HPG.out _).mono ?_); rintro e w8 ⟨rfl, hb8⟩; have hc8 := blkCell (blkOld (blkOld HX6.out hb7) hb8); have B8 := joinB B7 hb8))
      go_ret
      exact ⟨by rw [HZ2.out]; rfl, B8⟩
    | true =>
    have HIF1 := Lib.hid (HIF0.out.trans (Bool.true_and _))
    have HOP := Lib.hid (fun W => rop_any ⟨ok, os, oo, on⟩ W)
    (try dsimp only [recV, recA, opV] at HOP)
    generalize decide (Rc.opR ⟨ok, os, oo, on⟩) = p1 at HOP HIF1
    go_wp2_with (first | (with_reducible refine listLoad (by kernel_rfl) 49 (.tmp 3) rfl gx rfl #[.int .i64 lsn, .int .i64 prev, .int .i64 txn, .int .i64 8, .int .i64 page, .int .i64 0, .int .i64 0, .int .i64 ok, .int .i64 os, .string oo, .string on, .int .i64 0, .int .i64 0, .string ⟨#[]⟩, .int .i64 0, .int .i64 0, .slice none 0 0, .slice none 0 0] _ HG6.out _ Try.underlying49 (by kernel_rfl) (by kernel_rfl) ?_) | (with_reducible refine listLoad (by kernel_rfl) 49 (.tmp 1) rfl g rfl #[.int .i64 lsn, .int .i64 prev, .int .i64 txn, .int .i64 8, .int .i64 page, .int .i64 next, .int .i64 nu, .int .i64 ok, .int .i64 os, .string oo, .string on, .int .i64 how, .int .i64 root, .string ek, .int .i64 ep, .int .i64 es, .slice A ts.length c, .slice B ds.length d] _ HX6.out _ Try.underlying49 (by kernel_rfl) (by kernel_rfl) ?_) | (go_at_call 16; (with_reducible refine HSA.out.mono ?_); rintro e w7 ⟨rfl, hb7⟩; have hc7 := blkCell (blkOld HX6.out hb7); have B7 := joinB HB6.out hb7) | (go_at_call 80; (with_reducible refine (HPG.out _).mono ?_); rintro e w8 ⟨rfl, hb8⟩; have hc8 := blkCell (blkOld (blkOld HX6.out hb7) hb8); have B8 := joinB B7 hb8) | (go_at_call 81; (with_reducible refine (HOP.out _).mono ?_); rintro e w9 ⟨rfl, hb9⟩; have hc9 := blkCell (blkOld (blkOld (blkOld HX6.out hb7) hb8) hb9); have B9 := joinB B8 hb9))
    go_ret
    exact ⟨by rw [HIF1.out]; simp, B9⟩
end Go.Proofs.Ytojaagnfjenhoaa
/- The walk over the reference of records: Right, kind 2. -/
namespace Go.Proofs.Ytojaagnfjenhoaa
open Go.RowKit
set_option maxRecDepth 100000 in
set_option maxHeartbeats 8000000 in
theorem rright_2 (lsn prev txn page next nu ok os how root ep es : Int) (oo on ek : ByteArray) (ts : List Rc.TxnAt) (ds : List Rc.DirtyAt) (A B : Option Addr) (c d : Nat) (w : World) (hr : RecR w ⟨lsn, prev, txn, 2, page, next, nu, ⟨ok, os, oo, on⟩, how, root, ⟨ek, ep, es⟩, ts, ds⟩ A c B d) :
    Calls Try.prog 43 #[.agg #[.int .i64 lsn, .int .i64 prev, .int .i64 txn, .int .i64 2, .int .i64 page, .int .i64 next, .int .i64 nu, .int .i64 ok, .int .i64 os, .string oo, .string on, .int .i64 how, .int .i64 root, .string ek, .int .i64 ep, .int .i64 es, .slice A ts.length c, .slice B ds.length d]] w fun e w' => e = .returned (.bool (Rc.rightB ⟨lsn, prev, txn, 2, page, next, nu, ⟨ok, os, oo, on⟩, how, root, ⟨ek, ep, es⟩, ts, ds⟩)) ∧ Below w.heap.size w w' := by
  obtain ⟨z, hz⟩ : ∃ z, z = Rc.rightB ⟨lsn, prev, txn, 2, page, next, nu, ⟨ok, os, oo, on⟩, how, root, ⟨ek, ep, es⟩, ts, ds⟩ := ⟨_, rfl⟩
  rw [← hz]
  have HZ := Lib.hid hz
  clear hz
  obtain ⟨w0, hw0⟩ : ∃ W, W = w.alloc (.cells #[.int .i64 lsn, .int .i64 prev, .int .i64 txn, .int .i64 2, .int .i64 page, .int .i64 next, .int .i64 nu, .int .i64 ok, .int .i64 os, .string oo, .string on, .int .i64 how, .int .i64 root, .string ek, .int .i64 ep, .int .i64 es, .slice A ts.length c, .slice B ds.length d] 49) := ⟨_, rfl⟩
  have HB0 := Lib.hid (show Below w.heap.size w w0 from by rw [hw0]; exact allocB _ _)
  have HX0 := Lib.hid (show w0.heap[w.heap.size]? = some (.cells #[.int .i64 lsn, .int .i64 prev, .int .i64 txn, .int .i64 2, .int .i64 page, .int .i64 next, .int .i64 nu, .int .i64 ok, .int .i64 os, .string oo, .string on, .int .i64 how, .int .i64 root, .string ek, .int .i64 ep, .int .i64 es, .slice A ts.length c, .slice B ds.length d] 49 (0, 0)) from by rw [hw0]; exact heap_alloc_new _ _)
  have HRR := Lib.hid (fun W (hb : Below w.heap.size w W) => hr.below hb)
  clear hr
  go_enter Try.func43, Try.ntmps43
  go_upto_region 1 with fail
  rw [← hw0]
  clear hw0
  obtain ⟨g, hg⟩ : ∃ g, g = w.heap.size := ⟨_, rfl⟩
  rw [← hg] at HX0
  rw [← hg]
  clear hg
  have hcg := blkCell HX0.out
  have H1 := Lib.hid (fun W => rnumber_any lsn W)
  have H2 := Lib.hid (fun W => rnumber_any prev W)
  have H3 := Lib.hid (fun W => rnumber_any txn W)
  have HNO := Lib.hid (show ¬ (Rc.num lsn ∧ Rc.num prev ∧ Rc.num txn) → z = false from fun h => HZ.out.trans (Rc.rightB_no fun hr => h (Rc.r_nums hr)))
  by_cases h1 : Rc.num lsn
  rotate_left
  · rw [decide_eq_false h1] at H1
    have HZ2 := Lib.hid (HNO.out (fun h => h1 h.1))
    clear h1
    go_wp2_with (go_at_call 77; (with_reducible refine (H1.out _).mono ?_); rintro e w1 ⟨rfl, hb1⟩; have hc1 := blkCell (blkOld HX0.out hb1))
    go_ret
    exact ⟨by rw [HZ2.out]; rfl, joinB HB0.out hb1⟩
  by_cases h2 : Rc.num prev
  rotate_left
  · rw [decide_eq_true h1] at H1
    rw [decide_eq_false h2] at H2
    have HZ2 := Lib.hid (HNO.out (fun h => h2 h.2.1))
    clear h1 h2
    go_wp2_with (first | (go_at_call 77; (with_reducible refine (H1.out _).mono ?_); rintro e w1 ⟨rfl, hb1⟩; have hc1 := blkCell (blkOld HX0.out hb1)) | (go_at_call 77; (with_reducible refine (H2.out _).mono ?_); rintro e w2 ⟨rfl, hb2⟩; have hc2 := blkCell (blkOld (blkOld HX0.out hb1) hb2)))
    go_ret
    exact ⟨by rw [HZ2.out]; rfl, joinB HB0.out (joinB hb1 hb2)⟩
  by_cases h3 : Rc.num txn
  rotate_left
  · rw [decide_eq_true h1] at H1
    rw [decide_eq_true h2] at H2
    rw [decide_eq_false h3] at H3
    have HZ2 := Lib.hid (HNO.out (fun h => h3 h.2.2))
    clear h1 h2 h3
    go_wp2_with (first | (go_at_call 77; (with_reducible refine (H1.out _).mono ?_); rintro e w1 ⟨rfl, hb1⟩; have hc1 := blkCell (blkOld HX0.out hb1)) | (go_at_call 77; (with_reducible refine (H2.out _).mono ?_); rintro e w2 ⟨rfl, hb2⟩; have hc2 := blkCell (blkOld (blkOld HX0.out hb1) hb2)) | (go_at_call 77; (with_reducible refine (H3.out _).mono ?_); rintro e w3 ⟨rfl, hb3⟩))
    go_ret
    exact ⟨by rw [HZ2.out]; rfl, joinB HB0.out (joinB (joinB hb1 hb2) hb3)⟩
  rw [decide_eq_true h1] at H1
  rw [decide_eq_true h2] at H2
  rw [decide_eq_true h3] at H3
  have HIF := Lib.hid (show z = (decide ((⟨lsn, prev, txn, 2, page, 0, 0, ⟨ok, os, oo, on⟩, how, root, ⟨ek, ep, es⟩, [], []⟩ : Rc.Rec) = ⟨lsn, prev, txn, 2, page, next, nu, ⟨ok, os, oo, on⟩, how, root, ⟨ek, ep, es⟩, ts, ds⟩) && (decide (Rc.pg page ∧ Rc.opR ⟨ok, os, oo, on⟩ ∧ Rc.treeR ⟨lsn, prev, txn, 2, page, next, nu, ⟨ok, os, oo, on⟩, how, root, ⟨ek, ep, es⟩, ts, ds⟩))) from HZ.out.trans (Rc.rightB_of ((Rc.r_2 ⟨h1, h2, h3⟩).trans (by simp only [Bool.and_eq_true, decide_eq_true_eq]; (try exact Iff.rfl)))))
  clear h1 h2 h3 HNO HZ
  have HBA := Lib.hid (fun W => rbare_any ⟨lsn, prev, txn, 2, page, next, nu, ⟨ok, os, oo, on⟩, how, root, ⟨ek, ep, es⟩, ts, ds⟩ (.slice A ts.length c) (.slice B ds.length d) W)
  dsimp only [recV, recA, Rc.bare, Rc.noOp, Rc.noKey] at HBA
  go_upto_region 4 with (first | (go_at_call 77; (with_reducible refine (H1.out _).mono ?_); rintro e w1 ⟨rfl, hb1⟩; have hc1 := blkCell (blkOld HX0.out hb1)) | (go_at_call 77; (with_reducible refine (H2.out _).mono ?_); rintro e w2 ⟨rfl, hb2⟩; have hc2 := blkCell (blkOld (blkOld HX0.out hb1) hb2)) | (go_at_call 77; (with_reducible refine (H3.out _).mono ?_); rintro e w3 ⟨rfl, hb3⟩) | (with_reducible refine listLoad (by kernel_rfl) 49 (.tmp 1) rfl g rfl #[.int .i64 lsn, .int .i64 prev, .int .i64 txn, .int .i64 2, .int .i64 page, .int .i64 next, .int .i64 nu, .int .i64 ok, .int .i64 os, .string oo, .string on, .int .i64 how, .int .i64 root, .string ek, .int .i64 ep, .int .i64 es, .slice A ts.length c, .slice B ds.length d] _ (blkOld HX0.out (joinB (joinB hb1 hb2) hb3)) _ Try.underlying49 (by kernel_rfl) (by kernel_rfl) ?_) | (go_at_call 78; (with_reducible refine (HBA.out _).mono ?_); rintro e w4 ⟨rfl, hb4⟩) | (with_reducible refine wpList_store_new rfl 49 (.tmp 3) (.tmp 21) rfl #[.int .i64 lsn, .int .i64 prev, .int .i64 txn, .int .i64 2, .int .i64 0, .int .i64 0, .int .i64 0, .int .i64 0, .int .i64 0, .string ⟨#[]⟩, .string ⟨#[]⟩, .int .i64 0, .int .i64 0, .string ⟨#[]⟩, .int .i64 0, .int .i64 0, .slice none 0 0, .slice none 0 0] _ _ rfl (by kernel_rfl) (by kernel_rfl) (by kernel_rfl) (by kernel_rfl) ?_))
  have HB5 := Lib.hid (joinB (joinB (joinB (joinB HB0.out hb1) hb2) hb3) (pastAlloc (o := .cells #[.int .i64 lsn, .int .i64 prev, .int .i64 txn, .int .i64 2, .int .i64 0, .int .i64 0, .int .i64 0, .int .i64 0, .int .i64 0, .string ⟨#[]⟩, .string ⟨#[]⟩, .int .i64 0, .int .i64 0, .string ⟨#[]⟩, .int .i64 0, .int .i64 0, .slice none 0 0, .slice none 0 0] 49) hb4))
  have HX5 := Lib.hid (blkOld HX0.out (joinB (joinB (joinB hb1 hb2) hb3) (pastAlloc (o := .cells #[.int .i64 lsn, .int .i64 prev, .int .i64 txn, .int .i64 2, .int .i64 0, .int .i64 0, .int .i64 0, .int .i64 0, .int .i64 0, .string ⟨#[]⟩, .string ⟨#[]⟩, .int .i64 0, .int .i64 0, .string ⟨#[]⟩, .int .i64 0, .int .i64 0, .slice none 0 0, .slice none 0 0] 49) hb4)))
  have HG5 := Lib.hid (heap_alloc_new w4 (.cells #[.int .i64 lsn, .int .i64 prev, .int .i64 txn, .int .i64 2, .int .i64 0, .int .i64 0, .int .i64 0, .int .i64 0, .int .i64 0, .string ⟨#[]⟩, .string ⟨#[]⟩, .int .i64 0, .int .i64 0, .string ⟨#[]⟩, .int .i64 0, .int .i64 0, .slice none 0 0, .slice none 0 0] 49))
  have hgx : g < w4.heap.size := Nat.lt_of_lt_of_le (heapLt HX0.out) (joinB (joinB (joinB hb1 hb2) hb3) hb4).size
  have hgw : w.heap.size ≤ w4.heap.size := (joinB (joinB (joinB (joinB HB0.out hb1) hb2) hb3) hb4).size
  obtain ⟨gx, hge⟩ : ∃ gx, gx = w4.heap.size := ⟨_, rfl⟩
  obtain ⟨W5, hW5⟩ : ∃ W, W = w4.alloc (.cells #[.int .i64 lsn, .int .i64 prev, .int .i64 txn, .int .i64 2, .int .i64 0, .int .i64 0, .int .i64 0, .int .i64 0, .int .i64 0, .string ⟨#[]⟩, .string ⟨#[]⟩, .int .i64 0, .int .i64 0, .string ⟨#[]⟩, .int .i64 0, .int .i64 0, .slice none 0 0, .slice none 0 0] 49) := ⟨_, rfl⟩
  rw [← hge, ← hW5] at HG5
  rw [← hW5] at HB5 HX5
  rw [← hge] at hgx hgw
  rw [← hge, ← hW5]
  clear hge hW5 hb1 hb2 hb3 hb4 hc1 hc2 hcg HBA H1 H2 H3 HX0
  have hcg := blkCell HX5.out
  go_upto_region 11 with fail
  have X0 := blkOld HX5.out (Below.refl _ W5).drew
  have G0 := blkOld HG5.out (Below.refl _ W5).drew
  have BB0 := joinB HB5.out (Below.refl _ W5).drew
  refine wp_region_held_drew (S := (fun u => u.heap[g]? = some (.cells #[.int .i64 lsn, .int .i64 prev, .int .i64 txn, .int .i64 2, .int .i64 page, .int .i64 next, .int .i64 nu, .int .i64 ok, .int .i64 os, .string oo, .string on, .int .i64 how, .int .i64 root, .string ek, .int .i64 ep, .int .i64 es, .slice A ts.length c, .slice B ds.length d] 49 (0, 0)))) (by kernel_rfl) ?_ (fun hHeld => ?_)
  · first | exact hSn | exact X0
  generalize W5.drew = V0 at hHeld X0 G0 BB0 ⊢
  refine wpAnyH_take (i := 0) (oi := { dst := some 34, op := _, type := _, pos := _, after := _, guard := _ }) (v := ?_) rfl (by kernel_rfl) (by kernel_rfl) (by kernel_rfl) (fun _ _ _ h => h) (Or.inl ⟨by rfl, ?_⟩) (by assumption) ?_
  rotate_left
  · intro u hSu; have hSv := blkCell hSu; clear hSu; go_simp; (try with_reducible rfl)
  try simp only [Act.put, List.setIfInBounds_toArray, List.set_cons_zero, List.set_cons_succ]
  refine wpAnyH_take (i := 1) (oi := { dst := some 35, op := _, type := _, pos := _, after := _, guard := _ }) (v := ?_) rfl (by kernel_rfl) (by kernel_rfl) (by kernel_rfl) (fun _ _ _ h => h) (Or.inl ⟨by rfl, ?_⟩) (by assumption) ?_
  rotate_left
  · intro u hSu; have hSv := blkCell hSu; clear hSu; go_simp; (try with_reducible rfl)
  try simp only [Act.put, List.setIfInBounds_toArray, List.set_cons_zero, List.set_cons_succ]
  refine wpAnyH_take (i := 2) (oi := { dst := some 36, op := _, type := _, pos := _, after := _, guard := _ }) (v := ?_) rfl (by kernel_rfl) (by kernel_rfl) (by kernel_rfl) (fun _ _ _ h => h) (Or.inl ⟨by rfl, ?_⟩) (by assumption) ?_
  rotate_left
  · intro u hSu; have hSv := blkCell hSu; clear hSu; go_simp; (try with_reducible rfl)
  try simp only [Act.put, List.setIfInBounds_toArray, List.set_cons_zero, List.set_cons_succ]
  refine wpAnyH_take (i := 3) (oi := { dst := some 37, op := _, type := _, pos := _, after := _, guard := _ }) (v := ?_) rfl (by kernel_rfl) (by kernel_rfl) (by kernel_rfl) (fun _ _ _ h => h) (Or.inl ⟨by rfl, ?_⟩) (by assumption) ?_
  rotate_left
  · intro u hSu; have hSv := blkCell hSu; clear hSu; go_simp; (try with_reducible rfl)
  try simp only [Act.put, List.setIfInBounds_toArray, List.set_cons_zero, List.set_cons_succ]
  refine wpAnyH_take (i := 4) (oi := { dst := some 38, op := _, type := _, pos := _, after := _, guard := _ }) (v := ?_) rfl (by kernel_rfl) (by kernel_rfl) (by kernel_rfl) (fun _ _ _ h => h) (Or.inl ⟨by rfl, ?_⟩) (by assumption) ?_
  rotate_left
  · intro u hSu; have hSv := blkCell hSu; clear hSu; go_simp; (try with_reducible rfl)
  try simp only [Act.put, List.setIfInBounds_toArray, List.set_cons_zero, List.set_cons_succ]
  refine wpAnyH_take (i := 5) (oi := { dst := some 39, op := _, type := _, pos := _, after := _, guard := _ }) (v := ?_) rfl (by kernel_rfl) (by kernel_rfl) (by kernel_rfl) (fun _ _ _ h => h) (Or.inl ⟨by rfl, ?_⟩) (by assumption) ?_
  rotate_left
  · intro u hSu; have hSv := blkCell hSu; clear hSu; go_simp; (try with_reducible rfl)
  try simp only [Act.put, List.setIfInBounds_toArray, List.set_cons_zero, List.set_cons_succ]
  refine wpAnyH_take (i := 6) (oi := { dst := some 40, op := _, type := _, pos := _, after := _, guard := _ }) (v := ?_) rfl (by kernel_rfl) (by kernel_rfl) (by kernel_rfl) (fun _ _ _ h => h) (Or.inl ⟨by rfl, ?_⟩) (by assumption) ?_
  rotate_left
  · intro u hSu; have hSv := blkCell hSu; clear hSu; go_simp; (try with_reducible rfl)
  try simp only [Act.put, List.setIfInBounds_toArray, List.set_cons_zero, List.set_cons_succ]
  refine wpAnyH_take (i := 7) (oi := { dst := some 41, op := _, type := _, pos := _, after := _, guard := _ }) (v := ?_) rfl (by kernel_rfl) (by kernel_rfl) (by kernel_rfl) (fun _ _ _ h => h) (Or.inl ⟨by rfl, ?_⟩) (by assumption) ?_
  rotate_left
  · intro u hSu; have hSv := blkCell hSu; clear hSu; go_simp; (try with_reducible rfl)
  try simp only [Act.put, List.setIfInBounds_toArray, List.set_cons_zero, List.set_cons_succ]
  refine wpAnyH_take (i := 8) (oi := { dst := some 42, op := _, type := _, pos := _, after := _, guard := _ }) (v := ?_) rfl (by kernel_rfl) (by kernel_rfl) (by kernel_rfl) (fun _ _ _ h => h) (Or.inl ⟨by rfl, ?_⟩) (by assumption) ?_
  rotate_left
  · intro u hSu; have hSv := blkCell hSu; clear hSu; go_simp; (try with_reducible rfl)
  try simp only [Act.put, List.setIfInBounds_toArray, List.set_cons_zero, List.set_cons_succ]
  refine wpAnyH_take (i := 9) (oi := { dst := some 43, op := _, type := _, pos := _, after := _, guard := _ }) (v := ?_) rfl (by kernel_rfl) (by kernel_rfl) (by kernel_rfl) (fun _ _ _ h => h) (Or.inl ⟨by rfl, ?_⟩) (by assumption) ?_
  rotate_left
  · intro u hSu; have hSv := blkCell hSu; clear hSu; go_simp; (try with_reducible rfl)
  try simp only [Act.put, List.setIfInBounds_toArray, List.set_cons_zero, List.set_cons_succ]
  refine wpAnyH_take (i := 10) (oi := { dst := some 44, op := _, type := _, pos := _, after := _, guard := _ }) (v := ?_) rfl (by kernel_rfl) (by kernel_rfl) (by kernel_rfl) (fun _ _ _ h => h) (Or.inl ⟨by rfl, ?_⟩) (by assumption) ?_
  rotate_left
  · intro u hSu; have hSv := blkCell hSu; clear hSu; go_simp; (try with_reducible rfl)
  try simp only [Act.put, List.setIfInBounds_toArray, List.set_cons_zero, List.set_cons_succ]
  refine wpAnyH_ready (rs := [11]) (by kernel_rfl) (by simp) ?_
  refine AllReadyH.cons (o := { dst := none, op := _, type := _, pos := _, after := _, guard := _ }) rfl (fun K hK => ?_) ?_
  rotate_left
  · exact AllReadyH.nil
  have hcx0 := blkCell G0
  have hzx0 := blkFrozen G0
  go_simp
  have X1 := (keep_set (b := gx) (j := 4) (v := .int .i64 page) X0 (by omega))
  have G1 : (V0.setCell ⟨gx, 4, none⟩ (.int .i64 page)).heap[gx]? = some (.cells #[.int .i64 lsn, .int .i64 prev, .int .i64 txn, .int .i64 2, .int .i64 page, .int .i64 0, .int .i64 0, .int .i64 0, .int .i64 0, .string ⟨#[]⟩, .string ⟨#[]⟩, .int .i64 0, .int .i64 0, .string ⟨#[]⟩, .int .i64 0, .int .i64 0, .slice none 0 0, .slice none 0 0] 49 (0, 0)) := (by have h := (blkSet 4 G0 (.int .i64 page)); simpa using h)
  try clear hSn
  have hSn := X1
  refine hK.out _ _ ?_ (fun hHeld => ?_)
  · first | exact hSn | exact X0
  clear hK K
  try simp only [Act.put, List.setIfInBounds_toArray, List.set_cons_zero, List.set_cons_succ]
  refine wpAnyH_take (i := 12) (oi := { dst := some 45, op := _, type := _, pos := _, after := _, guard := _ }) (v := ?_) rfl (by kernel_rfl) (by kernel_rfl) (by kernel_rfl) (fun _ _ _ h => h) (Or.inl ⟨by rfl, ?_⟩) (by assumption) ?_
  rotate_left
  · intro u hSu; have hSv := blkCell hSu; clear hSu; go_simp; (try with_reducible rfl)
  try simp only [Act.put, List.setIfInBounds_toArray, List.set_cons_zero, List.set_cons_succ]
  refine wpAnyH_ready (rs := [13]) (by kernel_rfl) (by simp) ?_
  refine AllReadyH.cons (o := { dst := none, op := _, type := _, pos := _, after := _, guard := _ }) rfl (fun K hK => ?_) ?_
  rotate_left
  · exact AllReadyH.nil
  have hcx1 := blkCell G1
  have hzx1 := blkFrozen G1
  go_simp
  have X2 := (keep_set (b := gx) (j := 10) (v := .string on) (keep_set (b := gx) (j := 9) (v := .string oo) (keep_set (b := gx) (j := 8) (v := .int .i64 os) (keep_set (b := gx) (j := 7) (v := .int .i64 ok) X1 (by omega)) (by omega)) (by omega)) (by omega))
  have G2 : (((((V0.setCell ⟨gx, 4, none⟩ (.int .i64 page)).setCell ⟨gx, 7, none⟩ (.int .i64 ok)).setCell ⟨gx, 8, none⟩ (.int .i64 os)).setCell ⟨gx, 9, none⟩ (.string oo)).setCell ⟨gx, 10, none⟩ (.string on)).heap[gx]? = some (.cells #[.int .i64 lsn, .int .i64 prev, .int .i64 txn, .int .i64 2, .int .i64 page, .int .i64 0, .int .i64 0, .int .i64 ok, .int .i64 os, .string oo, .string on, .int .i64 0, .int .i64 0, .string ⟨#[]⟩, .int .i64 0, .int .i64 0, .slice none 0 0, .slice none 0 0] 49 (0, 0)) := (by have h := (blkSet 10 (blkSet 9 (blkSet 8 (blkSet 7 G1 (.int .i64 ok)) (.int .i64 os)) (.string oo)) (.string on)); simpa using h)
  try clear hSn
  have hSn := X2
  refine hK.out _ _ ?_ (fun hHeld => ?_)
  · first | exact hSn | exact X0
  clear hK K
  try simp only [Act.put, List.setIfInBounds_toArray, List.set_cons_zero, List.set_cons_succ]
  refine wpAnyH_take (i := 14) (oi := { dst := some 46, op := _, type := _, pos := _, after := _, guard := _ }) (v := ?_) rfl (by kernel_rfl) (by kernel_rfl) (by kernel_rfl) (fun _ _ _ h => h) (Or.inl ⟨by rfl, ?_⟩) (by assumption) ?_
  rotate_left
  · intro u hSu; have hSv := blkCell hSu; clear hSu; go_simp; (try with_reducible rfl)
  try simp only [Act.put, List.setIfInBounds_toArray, List.set_cons_zero, List.set_cons_succ]
  refine wpAnyH_ready (rs := [15]) (by kernel_rfl) (by simp) ?_
  refine AllReadyH.cons (o := { dst := none, op := _, type := _, pos := _, after := _, guard := _ }) rfl (fun K hK => ?_) ?_
  rotate_left
  · exact AllReadyH.nil
  have hcx2 := blkCell G2
  have hzx2 := blkFrozen G2
  go_simp
  have X3 := (keep_set (b := gx) (j := 11) (v := .int .i64 how) X2 (by omega))
  have G3 : ((((((V0.setCell ⟨gx, 4, none⟩ (.int .i64 page)).setCell ⟨gx, 7, none⟩ (.int .i64 ok)).setCell ⟨gx, 8, none⟩ (.int .i64 os)).setCell ⟨gx, 9, none⟩ (.string oo)).setCell ⟨gx, 10, none⟩ (.string on)).setCell ⟨gx, 11, none⟩ (.int .i64 how)).heap[gx]? = some (.cells #[.int .i64 lsn, .int .i64 prev, .int .i64 txn, .int .i64 2, .int .i64 page, .int .i64 0, .int .i64 0, .int .i64 ok, .int .i64 os, .string oo, .string on, .int .i64 how, .int .i64 0, .string ⟨#[]⟩, .int .i64 0, .int .i64 0, .slice none 0 0, .slice none 0 0] 49 (0, 0)) := (by have h := (blkSet 11 G2 (.int .i64 how)); simpa using h)
  try clear hSn
  have hSn := X3
  refine hK.out _ _ ?_ (fun hHeld => ?_)
  · first | exact hSn | exact X0
  clear hK K
  try simp only [Act.put, List.setIfInBounds_toArray, List.set_cons_zero, List.set_cons_succ]
  refine wpAnyH_take (i := 16) (oi := { dst := some 47, op := _, type := _, pos := _, after := _, guard := _ }) (v := ?_) rfl (by kernel_rfl) (by kernel_rfl) (by kernel_rfl) (fun _ _ _ h => h) (Or.inl ⟨by rfl, ?_⟩) (by assumption) ?_
  rotate_left
  · intro u hSu; have hSv := blkCell hSu; clear hSu; go_simp; (try with_reducible rfl)
  try simp only [Act.put, List.setIfInBounds_toArray, List.set_cons_zero, List.set_cons_succ]
  refine wpAnyH_ready (rs := [17]) (by kernel_rfl) (by simp) ?_
  refine AllReadyH.cons (o := { dst := none, op := _, type := _, pos := _, after := _, guard := _ }) rfl (fun K hK => ?_) ?_
  rotate_left
  · exact AllReadyH.nil
  have hcx3 := blkCell G3
  have hzx3 := blkFrozen G3
  go_simp
  have X4 := (keep_set (b := gx) (j := 12) (v := .int .i64 root) X3 (by omega))
  have G4 : (((((((V0.setCell ⟨gx, 4, none⟩ (.int .i64 page)).setCell ⟨gx, 7, none⟩ (.int .i64 ok)).setCell ⟨gx, 8, none⟩ (.int .i64 os)).setCell ⟨gx, 9, none⟩ (.string oo)).setCell ⟨gx, 10, none⟩ (.string on)).setCell ⟨gx, 11, none⟩ (.int .i64 how)).setCell ⟨gx, 12, none⟩ (.int .i64 root)).heap[gx]? = some (.cells #[.int .i64 lsn, .int .i64 prev, .int .i64 txn, .int .i64 2, .int .i64 page, .int .i64 0, .int .i64 0, .int .i64 ok, .int .i64 os, .string oo, .string on, .int .i64 how, .int .i64 root, .string ⟨#[]⟩, .int .i64 0, .int .i64 0, .slice none 0 0, .slice none 0 0] 49 (0, 0)) := (by have h := (blkSet 12 G3 (.int .i64 root)); simpa using h)
  try clear hSn
  have hSn := X4
  refine hK.out _ _ ?_ (fun hHeld => ?_)
  · first | exact hSn | exact X0
  clear hK K
  try simp only [Act.put, List.setIfInBounds_toArray, List.set_cons_zero, List.set_cons_succ]
  refine wpAnyH_take (i := 18) (oi := { dst := some 48, op := _, type := _, pos := _, after := _, guard := _ }) (v := ?_) rfl (by kernel_rfl) (by kernel_rfl) (by kernel_rfl) (fun _ _ _ h => h) (Or.inl ⟨by rfl, ?_⟩) (by assumption) ?_
  rotate_left
  · intro u hSu; have hSv := blkCell hSu; clear hSu; go_simp; (try with_reducible rfl)
  try simp only [Act.put, List.setIfInBounds_toArray, List.set_cons_zero, List.set_cons_succ]
  refine wpAnyH_ready (rs := [19]) (by kernel_rfl) (by simp) ?_
  refine AllReadyH.cons (o := { dst := none, op := _, type := _, pos := _, after := _, guard := _ }) rfl (fun K hK => ?_) ?_
  rotate_left
  · exact AllReadyH.nil
  have hcx4 := blkCell G4
  have hzx4 := blkFrozen G4
  go_simp
  have X5 := (keep_set (b := gx) (j := 15) (v := .int .i64 es) (keep_set (b := gx) (j := 14) (v := .int .i64 ep) (keep_set (b := gx) (j := 13) (v := .string ek) X4 (by omega)) (by omega)) (by omega))
  have G5 : ((((((((((V0.setCell ⟨gx, 4, none⟩ (.int .i64 page)).setCell ⟨gx, 7, none⟩ (.int .i64 ok)).setCell ⟨gx, 8, none⟩ (.int .i64 os)).setCell ⟨gx, 9, none⟩ (.string oo)).setCell ⟨gx, 10, none⟩ (.string on)).setCell ⟨gx, 11, none⟩ (.int .i64 how)).setCell ⟨gx, 12, none⟩ (.int .i64 root)).setCell ⟨gx, 13, none⟩ (.string ek)).setCell ⟨gx, 14, none⟩ (.int .i64 ep)).setCell ⟨gx, 15, none⟩ (.int .i64 es)).heap[gx]? = some (.cells #[.int .i64 lsn, .int .i64 prev, .int .i64 txn, .int .i64 2, .int .i64 page, .int .i64 0, .int .i64 0, .int .i64 ok, .int .i64 os, .string oo, .string on, .int .i64 how, .int .i64 root, .string ek, .int .i64 ep, .int .i64 es, .slice none 0 0, .slice none 0 0] 49 (0, 0)) := (by have h := (blkSet 15 (blkSet 14 (blkSet 13 G4 (.string ek)) (.int .i64 ep)) (.int .i64 es)); simpa using h)
  try clear hSn
  have hSn := X5
  refine hK.out _ _ ?_ (fun hHeld => ?_)
  · first | exact hSn | exact X0
  clear hK K
  try simp only [Act.put, List.setIfInBounds_toArray, List.set_cons_zero, List.set_cons_succ]
  refine wpAnyH_done (by kernel_rfl) ?_ _
  clear hHeld hSn
  have HX6 := Lib.hid (show ((((((((((V0.setCell ⟨gx, 4, none⟩ (.int .i64 page)).setCell ⟨gx, 7, none⟩ (.int .i64 ok)).setCell ⟨gx, 8, none⟩ (.int .i64 os)).setCell ⟨gx, 9, none⟩ (.string oo)).setCell ⟨gx, 10, none⟩ (.string on)).setCell ⟨gx, 11, none⟩ (.int .i64 how)).setCell ⟨gx, 12, none⟩ (.int .i64 root)).setCell ⟨gx, 13, none⟩ (.string ek)).setCell ⟨gx, 14, none⟩ (.int .i64 ep)).setCell ⟨gx, 15, none⟩ (.int .i64 es)).heap[g]? = some (.cells #[.int .i64 lsn, .int .i64 prev, .int .i64 txn, .int .i64 2, .int .i64 page, .int .i64 next, .int .i64 nu, .int .i64 ok, .int .i64 os, .string oo, .string on, .int .i64 how, .int .i64 root, .string ek, .int .i64 ep, .int .i64 es, .slice A ts.length c, .slice B ds.length d] 49 (0, 0)) from X5)
  have HG6 := Lib.hid (show ((((((((((V0.setCell ⟨gx, 4, none⟩ (.int .i64 page)).setCell ⟨gx, 7, none⟩ (.int .i64 ok)).setCell ⟨gx, 8, none⟩ (.int .i64 os)).setCell ⟨gx, 9, none⟩ (.string oo)).setCell ⟨gx, 10, none⟩ (.string on)).setCell ⟨gx, 11, none⟩ (.int .i64 how)).setCell ⟨gx, 12, none⟩ (.int .i64 root)).setCell ⟨gx, 13, none⟩ (.string ek)).setCell ⟨gx, 14, none⟩ (.int .i64 ep)).setCell ⟨gx, 15, none⟩ (.int .i64 es)).heap[gx]? = some (.cells #[.int .i64 lsn, .int .i64 prev, .int .i64 txn, .int .i64 2, .int .i64 page, .int .i64 0, .int .i64 0, .int .i64 ok, .int .i64 os, .string oo, .string on, .int .i64 how, .int .i64 root, .string ek, .int .i64 ep, .int .i64 es, .slice none 0 0, .slice none 0 0] 49 (0, 0)) from by have h := G5; simpa using h)
  have HB6 := Lib.hid (show Below w.heap.size w ((((((((((V0.setCell ⟨gx, 4, none⟩ (.int .i64 page)).setCell ⟨gx, 7, none⟩ (.int .i64 ok)).setCell ⟨gx, 8, none⟩ (.int .i64 os)).setCell ⟨gx, 9, none⟩ (.string oo)).setCell ⟨gx, 10, none⟩ (.string on)).setCell ⟨gx, 11, none⟩ (.int .i64 how)).setCell ⟨gx, 12, none⟩ (.int .i64 root)).setCell ⟨gx, 13, none⟩ (.string ek)).setCell ⟨gx, 14, none⟩ (.int .i64 ep)).setCell ⟨gx, 15, none⟩ (.int .i64 es)) from ((((((((((BB0.setCell (p := ⟨gx, 4, none⟩) (by show _ ≤ gx; omega) (.int .i64 page)).setCell (p := ⟨gx, 7, none⟩) (by show _ ≤ gx; omega) (.int .i64 ok)).setCell (p := ⟨gx, 8, none⟩) (by show _ ≤ gx; omega) (.int .i64 os)).setCell (p := ⟨gx, 9, none⟩) (by show _ ≤ gx; omega) (.string oo)).setCell (p := ⟨gx, 10, none⟩) (by show _ ≤ gx; omega) (.string on)).setCell (p := ⟨gx, 11, none⟩) (by show _ ≤ gx; omega) (.int .i64 how)).setCell (p := ⟨gx, 12, none⟩) (by show _ ≤ gx; omega) (.int .i64 root)).setCell (p := ⟨gx, 13, none⟩) (by show _ ≤ gx; omega) (.string ek)).setCell (p := ⟨gx, 14, none⟩) (by show _ ≤ gx; omega) (.int .i64 ep)).setCell (p := ⟨gx, 15, none⟩) (by show _ ≤ gx; omega) (.int .i64 es)))
  obtain ⟨W6, hW6⟩ : ∃ W, W = ((((((((((V0.setCell ⟨gx, 4, none⟩ (.int .i64 page)).setCell ⟨gx, 7, none⟩ (.int .i64 ok)).setCell ⟨gx, 8, none⟩ (.int .i64 os)).setCell ⟨gx, 9, none⟩ (.string oo)).setCell ⟨gx, 10, none⟩ (.string on)).setCell ⟨gx, 11, none⟩ (.int .i64 how)).setCell ⟨gx, 12, none⟩ (.int .i64 root)).setCell ⟨gx, 13, none⟩ (.string ek)).setCell ⟨gx, 14, none⟩ (.int .i64 ep)).setCell ⟨gx, 15, none⟩ (.int .i64 es)) := ⟨_, rfl⟩
  rw [← hW6] at HX6 HG6 HB6
  rw [← hW6]
  clear hW6 HX5 HG5 HB5 hcg X0 G0 BB0 X1 G1 hcx0 hzx0 X2 G2 hcx1 hzx1 X3 G3 hcx2 hzx2 X4 G4 hcx3 hzx3 X5 G5 hcx4 hzx4
  have hcg := blkCell HX6.out
  have HSA := Lib.hid (rsame_any (⟨lsn, prev, txn, 2, page, 0, 0, ⟨ok, os, oo, on⟩, how, root, ⟨ek, ep, es⟩, [], []⟩ : Rc.Rec) ⟨lsn, prev, txn, 2, page, next, nu, ⟨ok, os, oo, on⟩, how, root, ⟨ek, ep, es⟩, ts, ds⟩ none A none B 0 c 0 d W6 (recR_nil _ _ rfl rfl) (HRR.out _ HB6.out))
  dsimp only [recV, recA, List.length_nil] at HSA
  generalize decide ((⟨lsn, prev, txn, 2, page, 0, 0, ⟨ok, os, oo, on⟩, how, root, ⟨ek, ep, es⟩, [], []⟩ : Rc.Rec) = ⟨lsn, prev, txn, 2, page, next, nu, ⟨ok, os, oo, on⟩, how, root, ⟨ek, ep, es⟩, ts, ds⟩) = q at HSA HIF
  cases q with
  | false =>
    have HZ2 := Lib.hid (show z = false from HIF.out.trans (Bool.false_and _))
    go_wp2_with (first | (with_reducible refine listLoad (by kernel_rfl) 49 (.tmp 3) rfl gx rfl #[.int .i64 lsn, .int .i64 prev, .int .i64 txn, .int .i64 2, .int .i64 page, .int .i64 0, .int .i64 0, .int .i64 ok, .int .i64 os, .string oo, .string on, .int .i64 how, .int .i64 root, .string ek, .int .i64 ep, .int .i64 es, .slice none 0 0, .slice none 0 0] _ HG6.out _ Try.underlying49 (by kernel_rfl) (by kernel_rfl) ?_) | (with_reducible refine listLoad (by kernel_rfl) 49 (.tmp 1) rfl g rfl #[.int .i64 lsn, .int .i64 prev, .int .i64 txn, .int .i64 2, .int .i64 page, .int .i64 next, .int .i64 nu, .int .i64 ok, .int .i64 os, .string oo, .string on, .int .i64 how, .int .i64 root, .string ek, .int .i64 ep, .int .i64 es, .slice A ts.length c, .slice B ds.length d] _ HX6.out _ Try.underlying49 (by kernel_rfl) (by kernel_rfl) ?_) | (go_at_call 16; (with_reducible refine HSA.out.mono ?_); rintro e w7 ⟨rfl, hb7⟩; have hc7 := blkCell (blkOld HX6.out hb7); have B7 := joinB HB6.out hb7))
    go_ret
    exact ⟨by rw [HZ2.out]; rfl, B7⟩
  | true =>
    have HIF0 := Lib.hid (HIF.out.trans (Bool.true_and _))
    clear HIF
    have HCH := Lib.hid (fun W => rchange_any ⟨lsn, prev, txn, 2, page, next, nu, ⟨ok, os, oo, on⟩, how, root, ⟨ek, ep, es⟩, ts, ds⟩ (.slice A ts.length c) (.slice B ds.length d) W)
    (try dsimp only [recV, recA, opV] at HCH)
    generalize decide (Rc.pg page ∧ Rc.opR ⟨ok, os, oo, on⟩ ∧ Rc.treeR ⟨lsn, prev, txn, 2, page, next, nu, ⟨ok, os, oo, on⟩, how, root, ⟨ek, ep, es⟩, ts, ds⟩) = p0 at HCH HIF0
    go_wp2_with (first | (with_reducible refine listLoad (by kernel_rfl) 49 (.tmp 3) rfl gx rfl #[.int .i64 lsn, .int .i64 prev, .int .i64 txn, .int .i64 2, .int .i64 page, .int .i64 0, .int .i64 0, .int .i64 ok, .int .i64 os, .string oo, .string on, .int .i64 how, .int .i64 root, .string ek, .int .i64 ep, .int .i64 es, .slice none 0 0, .slice none 0 0] _ HG6.out _ Try.underlying49 (by kernel_rfl) (by kernel_rfl) ?_) | (with_reducible refine listLoad (by kernel_rfl) 49 (.tmp 1) rfl g rfl #[.int .i64 lsn, .int .i64 prev, .int .i64 txn, .int .i64 2, .int .i64 page, .int .i64 next, .int .i64 nu, .int .i64 ok, .int .i64 os, .string oo, .string on, .int .i64 how, .int .i64 root, .string ek, .int .i64 ep, .int .i64 es, .slice A ts.length c, .slice B ds.length d] _ HX6.out _ Try.underlying49 (by kernel_rfl) (by kernel_rfl) ?_) | (go_at_call 16; (with_reducible refine HSA.out.mono ?_); rintro e w7 ⟨rfl, hb7⟩; have hc7 := blkCell (blkOld HX6.out hb7); have B7 := joinB HB6.out hb7) | (with_reducible refine listLoad (by kernel_rfl) 49 (.tmp 1) rfl g rfl #[.int .i64 lsn, .int .i64 prev, .int .i64 txn, .int .i64 2, .int .i64 page, .int .i64 next, .int .i64 nu, .int .i64 ok, .int .i64 os, .string oo, .string on, .int .i64 how, .int .i64 root, .string ek, .int .i64 ep, .int .i64 es, .slice A ts.length c, .slice B ds.length d] _ (blkOld HX6.out hb7) _ Try.underlying49 (by kernel_rfl) (by kernel_rfl) ?_) | (go_at_call 79; (with_reducible refine (HCH.out _).mono ?_); rintro e w8 ⟨rfl, hb8⟩; have hc8 := blkCell (blkOld (blkOld HX6.out hb7) hb8); have B8 := joinB B7 hb8))
    go_ret
    exact ⟨by rw [HIF0.out]; simp, B8⟩
end Go.Proofs.Ytojaagnfjenhoaa
/- The walk over the reference of records: Right, kind 3. -/
namespace Go.Proofs.Ytojaagnfjenhoaa
open Go.RowKit
set_option maxRecDepth 100000 in
set_option maxHeartbeats 8000000 in
theorem rright_3 (lsn prev txn page next nu ok os how root ep es : Int) (oo on ek : ByteArray) (ts : List Rc.TxnAt) (ds : List Rc.DirtyAt) (A B : Option Addr) (c d : Nat) (w : World) (hr : RecR w ⟨lsn, prev, txn, 3, page, next, nu, ⟨ok, os, oo, on⟩, how, root, ⟨ek, ep, es⟩, ts, ds⟩ A c B d) :
    Calls Try.prog 43 #[.agg #[.int .i64 lsn, .int .i64 prev, .int .i64 txn, .int .i64 3, .int .i64 page, .int .i64 next, .int .i64 nu, .int .i64 ok, .int .i64 os, .string oo, .string on, .int .i64 how, .int .i64 root, .string ek, .int .i64 ep, .int .i64 es, .slice A ts.length c, .slice B ds.length d]] w fun e w' => e = .returned (.bool (Rc.rightB ⟨lsn, prev, txn, 3, page, next, nu, ⟨ok, os, oo, on⟩, how, root, ⟨ek, ep, es⟩, ts, ds⟩)) ∧ Below w.heap.size w w' := by
  obtain ⟨z, hz⟩ : ∃ z, z = Rc.rightB ⟨lsn, prev, txn, 3, page, next, nu, ⟨ok, os, oo, on⟩, how, root, ⟨ek, ep, es⟩, ts, ds⟩ := ⟨_, rfl⟩
  rw [← hz]
  have HZ := Lib.hid hz
  clear hz
  obtain ⟨w0, hw0⟩ : ∃ W, W = w.alloc (.cells #[.int .i64 lsn, .int .i64 prev, .int .i64 txn, .int .i64 3, .int .i64 page, .int .i64 next, .int .i64 nu, .int .i64 ok, .int .i64 os, .string oo, .string on, .int .i64 how, .int .i64 root, .string ek, .int .i64 ep, .int .i64 es, .slice A ts.length c, .slice B ds.length d] 49) := ⟨_, rfl⟩
  have HB0 := Lib.hid (show Below w.heap.size w w0 from by rw [hw0]; exact allocB _ _)
  have HX0 := Lib.hid (show w0.heap[w.heap.size]? = some (.cells #[.int .i64 lsn, .int .i64 prev, .int .i64 txn, .int .i64 3, .int .i64 page, .int .i64 next, .int .i64 nu, .int .i64 ok, .int .i64 os, .string oo, .string on, .int .i64 how, .int .i64 root, .string ek, .int .i64 ep, .int .i64 es, .slice A ts.length c, .slice B ds.length d] 49 (0, 0)) from by rw [hw0]; exact heap_alloc_new _ _)
  have HRR := Lib.hid (fun W (hb : Below w.heap.size w W) => hr.below hb)
  clear hr
  go_enter Try.func43, Try.ntmps43
  go_upto_region 1 with fail
  rw [← hw0]
  clear hw0
  obtain ⟨g, hg⟩ : ∃ g, g = w.heap.size := ⟨_, rfl⟩
  rw [← hg] at HX0
  rw [← hg]
  clear hg
  have hcg := blkCell HX0.out
  have H1 := Lib.hid (fun W => rnumber_any lsn W)
  have H2 := Lib.hid (fun W => rnumber_any prev W)
  have H3 := Lib.hid (fun W => rnumber_any txn W)
  have HNO := Lib.hid (show ¬ (Rc.num lsn ∧ Rc.num prev ∧ Rc.num txn) → z = false from fun h => HZ.out.trans (Rc.rightB_no fun hr => h (Rc.r_nums hr)))
  by_cases h1 : Rc.num lsn
  rotate_left
  · rw [decide_eq_false h1] at H1
    have HZ2 := Lib.hid (HNO.out (fun h => h1 h.1))
    clear h1
    go_wp2_with (go_at_call 77; (with_reducible refine (H1.out _).mono ?_); rintro e w1 ⟨rfl, hb1⟩; have hc1 := blkCell (blkOld HX0.out hb1))
    go_ret
    exact ⟨by rw [HZ2.out]; rfl, joinB HB0.out hb1⟩
  by_cases h2 : Rc.num prev
  rotate_left
  · rw [decide_eq_true h1] at H1
    rw [decide_eq_false h2] at H2
    have HZ2 := Lib.hid (HNO.out (fun h => h2 h.2.1))
    clear h1 h2
    go_wp2_with (first | (go_at_call 77; (with_reducible refine (H1.out _).mono ?_); rintro e w1 ⟨rfl, hb1⟩; have hc1 := blkCell (blkOld HX0.out hb1)) | (go_at_call 77; (with_reducible refine (H2.out _).mono ?_); rintro e w2 ⟨rfl, hb2⟩; have hc2 := blkCell (blkOld (blkOld HX0.out hb1) hb2)))
    go_ret
    exact ⟨by rw [HZ2.out]; rfl, joinB HB0.out (joinB hb1 hb2)⟩
  by_cases h3 : Rc.num txn
  rotate_left
  · rw [decide_eq_true h1] at H1
    rw [decide_eq_true h2] at H2
    rw [decide_eq_false h3] at H3
    have HZ2 := Lib.hid (HNO.out (fun h => h3 h.2.2))
    clear h1 h2 h3
    go_wp2_with (first | (go_at_call 77; (with_reducible refine (H1.out _).mono ?_); rintro e w1 ⟨rfl, hb1⟩; have hc1 := blkCell (blkOld HX0.out hb1)) | (go_at_call 77; (with_reducible refine (H2.out _).mono ?_); rintro e w2 ⟨rfl, hb2⟩; have hc2 := blkCell (blkOld (blkOld HX0.out hb1) hb2)) | (go_at_call 77; (with_reducible refine (H3.out _).mono ?_); rintro e w3 ⟨rfl, hb3⟩))
    go_ret
    exact ⟨by rw [HZ2.out]; rfl, joinB HB0.out (joinB (joinB hb1 hb2) hb3)⟩
  rw [decide_eq_true h1] at H1
  rw [decide_eq_true h2] at H2
  rw [decide_eq_true h3] at H3
  have HIF := Lib.hid (show z = (decide ((⟨lsn, prev, txn, 3, page, next, 0, ⟨ok, os, oo, on⟩, 0, 0, ⟨⟨#[]⟩, 0, 0⟩, [], []⟩ : Rc.Rec) = ⟨lsn, prev, txn, 3, page, next, nu, ⟨ok, os, oo, on⟩, how, root, ⟨ek, ep, es⟩, ts, ds⟩) && (decide (Rc.pg page) && (decide (Rc.opR ⟨ok, os, oo, on⟩) && (decide (Rc.num next))))) from HZ.out.trans (Rc.rightB_of ((Rc.r_3 ⟨h1, h2, h3⟩).trans (by simp only [Bool.and_eq_true, decide_eq_true_eq]; (try exact Iff.rfl)))))
  clear h1 h2 h3 HNO HZ
  have HBA := Lib.hid (fun W => rbare_any ⟨lsn, prev, txn, 3, page, next, nu, ⟨ok, os, oo, on⟩, how, root, ⟨ek, ep, es⟩, ts, ds⟩ (.slice A ts.length c) (.slice B ds.length d) W)
  dsimp only [recV, recA, Rc.bare, Rc.noOp, Rc.noKey] at HBA
  go_upto_region 4 with (first | (go_at_call 77; (with_reducible refine (H1.out _).mono ?_); rintro e w1 ⟨rfl, hb1⟩; have hc1 := blkCell (blkOld HX0.out hb1)) | (go_at_call 77; (with_reducible refine (H2.out _).mono ?_); rintro e w2 ⟨rfl, hb2⟩; have hc2 := blkCell (blkOld (blkOld HX0.out hb1) hb2)) | (go_at_call 77; (with_reducible refine (H3.out _).mono ?_); rintro e w3 ⟨rfl, hb3⟩) | (with_reducible refine listLoad (by kernel_rfl) 49 (.tmp 1) rfl g rfl #[.int .i64 lsn, .int .i64 prev, .int .i64 txn, .int .i64 3, .int .i64 page, .int .i64 next, .int .i64 nu, .int .i64 ok, .int .i64 os, .string oo, .string on, .int .i64 how, .int .i64 root, .string ek, .int .i64 ep, .int .i64 es, .slice A ts.length c, .slice B ds.length d] _ (blkOld HX0.out (joinB (joinB hb1 hb2) hb3)) _ Try.underlying49 (by kernel_rfl) (by kernel_rfl) ?_) | (go_at_call 78; (with_reducible refine (HBA.out _).mono ?_); rintro e w4 ⟨rfl, hb4⟩) | (with_reducible refine wpList_store_new rfl 49 (.tmp 3) (.tmp 21) rfl #[.int .i64 lsn, .int .i64 prev, .int .i64 txn, .int .i64 3, .int .i64 0, .int .i64 0, .int .i64 0, .int .i64 0, .int .i64 0, .string ⟨#[]⟩, .string ⟨#[]⟩, .int .i64 0, .int .i64 0, .string ⟨#[]⟩, .int .i64 0, .int .i64 0, .slice none 0 0, .slice none 0 0] _ _ rfl (by kernel_rfl) (by kernel_rfl) (by kernel_rfl) (by kernel_rfl) ?_))
  have HB5 := Lib.hid (joinB (joinB (joinB (joinB HB0.out hb1) hb2) hb3) (pastAlloc (o := .cells #[.int .i64 lsn, .int .i64 prev, .int .i64 txn, .int .i64 3, .int .i64 0, .int .i64 0, .int .i64 0, .int .i64 0, .int .i64 0, .string ⟨#[]⟩, .string ⟨#[]⟩, .int .i64 0, .int .i64 0, .string ⟨#[]⟩, .int .i64 0, .int .i64 0, .slice none 0 0, .slice none 0 0] 49) hb4))
  have HX5 := Lib.hid (blkOld HX0.out (joinB (joinB (joinB hb1 hb2) hb3) (pastAlloc (o := .cells #[.int .i64 lsn, .int .i64 prev, .int .i64 txn, .int .i64 3, .int .i64 0, .int .i64 0, .int .i64 0, .int .i64 0, .int .i64 0, .string ⟨#[]⟩, .string ⟨#[]⟩, .int .i64 0, .int .i64 0, .string ⟨#[]⟩, .int .i64 0, .int .i64 0, .slice none 0 0, .slice none 0 0] 49) hb4)))
  have HG5 := Lib.hid (heap_alloc_new w4 (.cells #[.int .i64 lsn, .int .i64 prev, .int .i64 txn, .int .i64 3, .int .i64 0, .int .i64 0, .int .i64 0, .int .i64 0, .int .i64 0, .string ⟨#[]⟩, .string ⟨#[]⟩, .int .i64 0, .int .i64 0, .string ⟨#[]⟩, .int .i64 0, .int .i64 0, .slice none 0 0, .slice none 0 0] 49))
  have hgx : g < w4.heap.size := Nat.lt_of_lt_of_le (heapLt HX0.out) (joinB (joinB (joinB hb1 hb2) hb3) hb4).size
  have hgw : w.heap.size ≤ w4.heap.size := (joinB (joinB (joinB (joinB HB0.out hb1) hb2) hb3) hb4).size
  obtain ⟨gx, hge⟩ : ∃ gx, gx = w4.heap.size := ⟨_, rfl⟩
  obtain ⟨W5, hW5⟩ : ∃ W, W = w4.alloc (.cells #[.int .i64 lsn, .int .i64 prev, .int .i64 txn, .int .i64 3, .int .i64 0, .int .i64 0, .int .i64 0, .int .i64 0, .int .i64 0, .string ⟨#[]⟩, .string ⟨#[]⟩, .int .i64 0, .int .i64 0, .string ⟨#[]⟩, .int .i64 0, .int .i64 0, .slice none 0 0, .slice none 0 0] 49) := ⟨_, rfl⟩
  rw [← hge, ← hW5] at HG5
  rw [← hW5] at HB5 HX5
  rw [← hge] at hgx hgw
  rw [← hge, ← hW5]
  clear hge hW5 hb1 hb2 hb3 hb4 hc1 hc2 hcg HBA H1 H2 H3 HX0
  have hcg := blkCell HX5.out
  go_upto_region 14 with fail
  have X0 := blkOld HX5.out (Below.refl _ W5).drew
  have G0 := blkOld HG5.out (Below.refl _ W5).drew
  have BB0 := joinB HB5.out (Below.refl _ W5).drew
  refine wp_region_held_drew (S := (fun u => u.heap[g]? = some (.cells #[.int .i64 lsn, .int .i64 prev, .int .i64 txn, .int .i64 3, .int .i64 page, .int .i64 next, .int .i64 nu, .int .i64 ok, .int .i64 os, .string oo, .string on, .int .i64 how, .int .i64 root, .string ek, .int .i64 ep, .int .i64 es, .slice A ts.length c, .slice B ds.length d] 49 (0, 0)))) (by kernel_rfl) ?_ (fun hHeld => ?_)
  · first | exact hSn | exact X0
  generalize W5.drew = V0 at hHeld X0 G0 BB0 ⊢
  refine wpAnyH_take (i := 0) (oi := { dst := some 58, op := _, type := _, pos := _, after := _, guard := _ }) (v := ?_) rfl (by kernel_rfl) (by kernel_rfl) (by kernel_rfl) (fun _ _ _ h => h) (Or.inl ⟨by rfl, ?_⟩) (by assumption) ?_
  rotate_left
  · intro u hSu; have hSv := blkCell hSu; clear hSu; go_simp; (try with_reducible rfl)
  try simp only [Act.put, List.setIfInBounds_toArray, List.set_cons_zero, List.set_cons_succ]
  refine wpAnyH_take (i := 1) (oi := { dst := some 59, op := _, type := _, pos := _, after := _, guard := _ }) (v := ?_) rfl (by kernel_rfl) (by kernel_rfl) (by kernel_rfl) (fun _ _ _ h => h) (Or.inl ⟨by rfl, ?_⟩) (by assumption) ?_
  rotate_left
  · intro u hSu; have hSv := blkCell hSu; clear hSu; go_simp; (try with_reducible rfl)
  try simp only [Act.put, List.setIfInBounds_toArray, List.set_cons_zero, List.set_cons_succ]
  refine wpAnyH_take (i := 2) (oi := { dst := some 60, op := _, type := _, pos := _, after := _, guard := _ }) (v := ?_) rfl (by kernel_rfl) (by kernel_rfl) (by kernel_rfl) (fun _ _ _ h => h) (Or.inl ⟨by rfl, ?_⟩) (by assumption) ?_
  rotate_left
  · intro u hSu; have hSv := blkCell hSu; clear hSu; go_simp; (try with_reducible rfl)
  try simp only [Act.put, List.setIfInBounds_toArray, List.set_cons_zero, List.set_cons_succ]
  refine wpAnyH_take (i := 3) (oi := { dst := some 61, op := _, type := _, pos := _, after := _, guard := _ }) (v := ?_) rfl (by kernel_rfl) (by kernel_rfl) (by kernel_rfl) (fun _ _ _ h => h) (Or.inl ⟨by rfl, ?_⟩) (by assumption) ?_
  rotate_left
  · intro u hSu; have hSv := blkCell hSu; clear hSu; go_simp; (try with_reducible rfl)
  try simp only [Act.put, List.setIfInBounds_toArray, List.set_cons_zero, List.set_cons_succ]
  refine wpAnyH_take (i := 4) (oi := { dst := some 62, op := _, type := _, pos := _, after := _, guard := _ }) (v := ?_) rfl (by kernel_rfl) (by kernel_rfl) (by kernel_rfl) (fun _ _ _ h => h) (Or.inl ⟨by rfl, ?_⟩) (by assumption) ?_
  rotate_left
  · intro u hSu; have hSv := blkCell hSu; clear hSu; go_simp; (try with_reducible rfl)
  try simp only [Act.put, List.setIfInBounds_toArray, List.set_cons_zero, List.set_cons_succ]
  refine wpAnyH_take (i := 5) (oi := { dst := some 63, op := _, type := _, pos := _, after := _, guard := _ }) (v := ?_) rfl (by kernel_rfl) (by kernel_rfl) (by kernel_rfl) (fun _ _ _ h => h) (Or.inl ⟨by rfl, ?_⟩) (by assumption) ?_
  rotate_left
  · intro u hSu; have hSv := blkCell hSu; clear hSu; go_simp; (try with_reducible rfl)
  try simp only [Act.put, List.setIfInBounds_toArray, List.set_cons_zero, List.set_cons_succ]
  refine wpAnyH_take (i := 6) (oi := { dst := some 64, op := _, type := _, pos := _, after := _, guard := _ }) (v := ?_) rfl (by kernel_rfl) (by kernel_rfl) (by kernel_rfl) (fun _ _ _ h => h) (Or.inl ⟨by rfl, ?_⟩) (by assumption) ?_
  rotate_left
  · intro u hSu; have hSv := blkCell hSu; clear hSu; go_simp; (try with_reducible rfl)
  try simp only [Act.put, List.setIfInBounds_toArray, List.set_cons_zero, List.set_cons_succ]
  refine wpAnyH_ready (rs := [7]) (by kernel_rfl) (by simp) ?_
  refine AllReadyH.cons (o := { dst := none, op := _, type := _, pos := _, after := _, guard := _ }) rfl (fun K hK => ?_) ?_
  rotate_left
  · exact AllReadyH.nil
  have hcx0 := blkCell G0
  have hzx0 := blkFrozen G0
  go_simp
  have X1 := (keep_set (b := gx) (j := 4) (v := .int .i64 page) X0 (by omega))
  have G1 : (V0.setCell ⟨gx, 4, none⟩ (.int .i64 page)).heap[gx]? = some (.cells #[.int .i64 lsn, .int .i64 prev, .int .i64 txn, .int .i64 3, .int .i64 page, .int .i64 0, .int .i64 0, .int .i64 0, .int .i64 0, .string ⟨#[]⟩, .string ⟨#[]⟩, .int .i64 0, .int .i64 0, .string ⟨#[]⟩, .int .i64 0, .int .i64 0, .slice none 0 0, .slice none 0 0] 49 (0, 0)) := (by have h := (blkSet 4 G0 (.int .i64 page)); simpa using h)
  try clear hSn
  have hSn := X1
  refine hK.out _ _ ?_ (fun hHeld => ?_)
  · first | exact hSn | exact X0
  clear hK K
  try simp only [Act.put, List.setIfInBounds_toArray, List.set_cons_zero, List.set_cons_succ]
  refine wpAnyH_take (i := 8) (oi := { dst := some 65, op := _, type := _, pos := _, after := _, guard := _ }) (v := ?_) rfl (by kernel_rfl) (by kernel_rfl) (by kernel_rfl) (fun _ _ _ h => h) (Or.inl ⟨by rfl, ?_⟩) (by assumption) ?_
  rotate_left
  · intro u hSu; have hSv := blkCell hSu; clear hSu; go_simp; (try with_reducible rfl)
  try simp only [Act.put, List.setIfInBounds_toArray, List.set_cons_zero, List.set_cons_succ]
  refine wpAnyH_ready (rs := [9]) (by kernel_rfl) (by simp) ?_
  refine AllReadyH.cons (o := { dst := none, op := _, type := _, pos := _, after := _, guard := _ }) rfl (fun K hK => ?_) ?_
  rotate_left
  · exact AllReadyH.nil
  have hcx1 := blkCell G1
  have hzx1 := blkFrozen G1
  go_simp
  have X2 := (keep_set (b := gx) (j := 10) (v := .string on) (keep_set (b := gx) (j := 9) (v := .string oo) (keep_set (b := gx) (j := 8) (v := .int .i64 os) (keep_set (b := gx) (j := 7) (v := .int .i64 ok) X1 (by omega)) (by omega)) (by omega)) (by omega))
  have G2 : (((((V0.setCell ⟨gx, 4, none⟩ (.int .i64 page)).setCell ⟨gx, 7, none⟩ (.int .i64 ok)).setCell ⟨gx, 8, none⟩ (.int .i64 os)).setCell ⟨gx, 9, none⟩ (.string oo)).setCell ⟨gx, 10, none⟩ (.string on)).heap[gx]? = some (.cells #[.int .i64 lsn, .int .i64 prev, .int .i64 txn, .int .i64 3, .int .i64 page, .int .i64 0, .int .i64 0, .int .i64 ok, .int .i64 os, .string oo, .string on, .int .i64 0, .int .i64 0, .string ⟨#[]⟩, .int .i64 0, .int .i64 0, .slice none 0 0, .slice none 0 0] 49 (0, 0)) := (by have h := (blkSet 10 (blkSet 9 (blkSet 8 (blkSet 7 G1 (.int .i64 ok)) (.int .i64 os)) (.string oo)) (.string on)); simpa using h)
  try clear hSn
  have hSn := X2
  refine hK.out _ _ ?_ (fun hHeld => ?_)
  · first | exact hSn | exact X0
  clear hK K
  try simp only [Act.put, List.setIfInBounds_toArray, List.set_cons_zero, List.set_cons_succ]
  refine wpAnyH_take (i := 10) (oi := { dst := some 66, op := _, type := _, pos := _, after := _, guard := _ }) (v := ?_) rfl (by kernel_rfl) (by kernel_rfl) (by kernel_rfl) (fun _ _ _ h => h) (Or.inl ⟨by rfl, ?_⟩) (by assumption) ?_
  rotate_left
  · intro u hSu; have hSv := blkCell hSu; clear hSu; go_simp; (try with_reducible rfl)
  try simp only [Act.put, List.setIfInBounds_toArray, List.set_cons_zero, List.set_cons_succ]
  refine wpAnyH_ready (rs := [11]) (by kernel_rfl) (by simp) ?_
  refine AllReadyH.cons (o := { dst := none, op := _, type := _, pos := _, after := _, guard := _ }) rfl (fun K hK => ?_) ?_
  rotate_left
  · exact AllReadyH.nil
  have hcx2 := blkCell G2
  have hzx2 := blkFrozen G2
  go_simp
  have X3 := (keep_set (b := gx) (j := 5) (v := .int .i64 next) X2 (by omega))
  have G3 : ((((((V0.setCell ⟨gx, 4, none⟩ (.int .i64 page)).setCell ⟨gx, 7, none⟩ (.int .i64 ok)).setCell ⟨gx, 8, none⟩ (.int .i64 os)).setCell ⟨gx, 9, none⟩ (.string oo)).setCell ⟨gx, 10, none⟩ (.string on)).setCell ⟨gx, 5, none⟩ (.int .i64 next)).heap[gx]? = some (.cells #[.int .i64 lsn, .int .i64 prev, .int .i64 txn, .int .i64 3, .int .i64 page, .int .i64 next, .int .i64 0, .int .i64 ok, .int .i64 os, .string oo, .string on, .int .i64 0, .int .i64 0, .string ⟨#[]⟩, .int .i64 0, .int .i64 0, .slice none 0 0, .slice none 0 0] 49 (0, 0)) := (by have h := (blkSet 5 G2 (.int .i64 next)); simpa using h)
  try clear hSn
  have hSn := X3
  refine hK.out _ _ ?_ (fun hHeld => ?_)
  · first | exact hSn | exact X0
  clear hK K
  try simp only [Act.put, List.setIfInBounds_toArray, List.set_cons_zero, List.set_cons_succ]
  refine wpAnyH_done (by kernel_rfl) ?_ _
  clear hHeld hSn
  have HX6 := Lib.hid (show ((((((V0.setCell ⟨gx, 4, none⟩ (.int .i64 page)).setCell ⟨gx, 7, none⟩ (.int .i64 ok)).setCell ⟨gx, 8, none⟩ (.int .i64 os)).setCell ⟨gx, 9, none⟩ (.string oo)).setCell ⟨gx, 10, none⟩ (.string on)).setCell ⟨gx, 5, none⟩ (.int .i64 next)).heap[g]? = some (.cells #[.int .i64 lsn, .int .i64 prev, .int .i64 txn, .int .i64 3, .int .i64 page, .int .i64 next, .int .i64 nu, .int .i64 ok, .int .i64 os, .string oo, .string on, .int .i64 how, .int .i64 root, .string ek, .int .i64 ep, .int .i64 es, .slice A ts.length c, .slice B ds.length d] 49 (0, 0)) from X3)
  have HG6 := Lib.hid (show ((((((V0.setCell ⟨gx, 4, none⟩ (.int .i64 page)).setCell ⟨gx, 7, none⟩ (.int .i64 ok)).setCell ⟨gx, 8, none⟩ (.int .i64 os)).setCell ⟨gx, 9, none⟩ (.string oo)).setCell ⟨gx, 10, none⟩ (.string on)).setCell ⟨gx, 5, none⟩ (.int .i64 next)).heap[gx]? = some (.cells #[.int .i64 lsn, .int .i64 prev, .int .i64 txn, .int .i64 3, .int .i64 page, .int .i64 next, .int .i64 0, .int .i64 ok, .int .i64 os, .string oo, .string on, .int .i64 0, .int .i64 0, .string ⟨#[]⟩, .int .i64 0, .int .i64 0, .slice none 0 0, .slice none 0 0] 49 (0, 0)) from by have h := G3; simpa using h)
  have HB6 := Lib.hid (show Below w.heap.size w ((((((V0.setCell ⟨gx, 4, none⟩ (.int .i64 page)).setCell ⟨gx, 7, none⟩ (.int .i64 ok)).setCell ⟨gx, 8, none⟩ (.int .i64 os)).setCell ⟨gx, 9, none⟩ (.string oo)).setCell ⟨gx, 10, none⟩ (.string on)).setCell ⟨gx, 5, none⟩ (.int .i64 next)) from ((((((BB0.setCell (p := ⟨gx, 4, none⟩) (by show _ ≤ gx; omega) (.int .i64 page)).setCell (p := ⟨gx, 7, none⟩) (by show _ ≤ gx; omega) (.int .i64 ok)).setCell (p := ⟨gx, 8, none⟩) (by show _ ≤ gx; omega) (.int .i64 os)).setCell (p := ⟨gx, 9, none⟩) (by show _ ≤ gx; omega) (.string oo)).setCell (p := ⟨gx, 10, none⟩) (by show _ ≤ gx; omega) (.string on)).setCell (p := ⟨gx, 5, none⟩) (by show _ ≤ gx; omega) (.int .i64 next)))
  obtain ⟨W6, hW6⟩ : ∃ W, W = ((((((V0.setCell ⟨gx, 4, none⟩ (.int .i64 page)).setCell ⟨gx, 7, none⟩ (.int .i64 ok)).setCell ⟨gx, 8, none⟩ (.int .i64 os)).setCell ⟨gx, 9, none⟩ (.string oo)).setCell ⟨gx, 10, none⟩ (.string on)).setCell ⟨gx, 5, none⟩ (.int .i64 next)) := ⟨_, rfl⟩
  rw [← hW6] at HX6 HG6 HB6
  rw [← hW6]
  clear hW6 HX5 HG5 HB5 hcg X0 G0 BB0 X1 G1 hcx0 hzx0 X2 G2 hcx1 hzx1 X3 G3 hcx2 hzx2
  have hcg := blkCell HX6.out
  have HSA := Lib.hid (rsame_any (⟨lsn, prev, txn, 3, page, next, 0, ⟨ok, os, oo, on⟩, 0, 0, ⟨⟨#[]⟩, 0, 0⟩, [], []⟩ : Rc.Rec) ⟨lsn, prev, txn, 3, page, next, nu, ⟨ok, os, oo, on⟩, how, root, ⟨ek, ep, es⟩, ts, ds⟩ none A none B 0 c 0 d W6 (recR_nil _ _ rfl rfl) (HRR.out _ HB6.out))
  dsimp only [recV, recA, List.length_nil] at HSA
  generalize decide ((⟨lsn, prev, txn, 3, page, next, 0, ⟨ok, os, oo, on⟩, 0, 0, ⟨⟨#[]⟩, 0, 0⟩, [], []⟩ : Rc.Rec) = ⟨lsn, prev, txn, 3, page, next, nu, ⟨ok, os, oo, on⟩, how, root, ⟨ek, ep, es⟩, ts, ds⟩) = q at HSA HIF
  cases q with
  | false =>
    have HZ2 := Lib.hid (show z = false from HIF.out.trans (Bool.false_and _))
    go_wp2_with (first | (with_reducible refine listLoad (by kernel_rfl) 49 (.tmp 3) rfl gx rfl #[.int .i64 lsn, .int .i64 prev, .int .i64 txn, .int .i64 3, .int .i64 page, .int .i64 next, .int .i64 0, .int .i64 ok, .int .i64 os, .string oo, .string on, .int .i64 0, .int .i64 0, .string ⟨#[]⟩, .int .i64 0, .int .i64 0, .slice none 0 0, .slice none 0 0] _ HG6.out _ Try.underlying49 (by kernel_rfl) (by kernel_rfl) ?_) | (with_reducible refine listLoad (by kernel_rfl) 49 (.tmp 1) rfl g rfl #[.int .i64 lsn, .int .i64 prev, .int .i64 txn, .int .i64 3, .int .i64 page, .int .i64 next, .int .i64 nu, .int .i64 ok, .int .i64 os, .string oo, .string on, .int .i64 how, .int .i64 root, .string ek, .int .i64 ep, .int .i64 es, .slice A ts.length c, .slice B ds.length d] _ HX6.out _ Try.underlying49 (by kernel_rfl) (by kernel_rfl) ?_) | (go_at_call 16; (with_reducible refine HSA.out.mono ?_); rintro e w7 ⟨rfl, hb7⟩; have hc7 := blkCell (blkOld HX6.out hb7); have B7 := joinB HB6.out hb7))
    go_ret
    exact ⟨by rw [HZ2.out]; rfl, B7⟩
  | true =>
    have HIF0 := Lib.hid (HIF.out.trans (Bool.true_and _))
    clear HIF
    have HPG := Lib.hid (fun W => rpage_any page W)
    (try dsimp only [recV, recA, opV] at HPG)
    generalize decide (Rc.pg page) = p0 at HPG HIF0
    cases p0 with
    | false =>
      have HZ2 := Lib.hid (show z = false from HIF0.out.trans (Bool.false_and _))
      go_wp2_with (first | (with_reducible refine listLoad (by kernel_rfl) 49 (.tmp 3) rfl gx rfl #[.int .i64 lsn, .int .i64 prev, .int .i64 txn, .int .i64 3, .int .i64 page, .int .i64 next, .int .i64 0, .int .i64 ok, .int .i64 os, .string oo, .string on, .int .i64 0, .int .i64 0, .string ⟨#[]⟩, .int .i64 0, .int .i64 0, .slice none 0 0, .slice none 0 0] _ HG6.out _ Try.underlying49 (by kernel_rfl) (by kernel_rfl) ?_) | (with_reducible refine listLoad (by kernel_rfl) 49 (.tmp 1) rfl g rfl #[.int .i64 lsn, .int .i64 prev, .int .i64 txn, .int .i64 3, .int .i64 page, .int .i64 next, .int .i64 nu, .int .i64 ok, .int .i64 os, .string oo, .string on, .int .i64 how, .int .i64 root, .string ek, .int .i64 ep, .int .i64 es, .slice A ts.length c, .slice B ds.length d] _ HX6.out _ Try.underlying49 (by kernel_rfl) (by kernel_rfl) ?_) | (go_at_call 16; (with_reducible refine HSA.out.mono ?_); rintro e w7 ⟨rfl, hb7⟩; have hc7 := blkCell (blkOld HX6.out hb7); have B7 := joinB HB6.out hb7) | (go_at_call 80; (with_reducible refine (HPG.out _).mono ?_); rintro e w8 ⟨rfl, hb8⟩; have hc8 := blkCell (blkOld (blkOld HX6.out hb7) hb8); have B8 := joinB B7 hb8))
      go_ret
      exact ⟨by rw [HZ2.out]; rfl, B8⟩
    | true =>
    have HIF1 := Lib.hid (HIF0.out.trans (Bool.true_and _))
    have HOP := Lib.hid (fun W => rop_any ⟨ok, os, oo, on⟩ W)
    (try dsimp only [recV, recA, opV] at HOP)
    generalize decide (Rc.opR ⟨ok, os, oo, on⟩) = p1 at HOP HIF1
    cases p1 with
    | false =>
      have HZ2 := Lib.hid (show z = false from HIF1.out.trans (Bool.false_and _))
      go_wp2_with (first | (with_reducible refine listLoad (by kernel_rfl) 49 (.tmp 3) rfl gx rfl #[.int .i64 lsn, .int .i64 prev, .int .i64 txn, .int .i64 3, .int .i64 page, .int .i64 next, .int .i64 0, .int .i64 ok, .int .i64 os, .string oo, .string on, .int .i64 0, .int .i64 0, .string ⟨#[]⟩, .int .i64 0, .int .i64 0, .slice none 0 0, .slice none 0 0] _ HG6.out _ Try.underlying49 (by kernel_rfl) (by kernel_rfl) ?_) | (with_reducible refine listLoad (by kernel_rfl) 49 (.tmp 1) rfl g rfl #[.int .i64 lsn, .int .i64 prev, .int .i64 txn, .int .i64 3, .int .i64 page, .int .i64 next, .int .i64 nu, .int .i64 ok, .int .i64 os, .string oo, .string on, .int .i64 how, .int .i64 root, .string ek, .int .i64 ep, .int .i64 es, .slice A ts.length c, .slice B ds.length d] _ HX6.out _ Try.underlying49 (by kernel_rfl) (by kernel_rfl) ?_) | (go_at_call 16; (with_reducible refine HSA.out.mono ?_); rintro e w7 ⟨rfl, hb7⟩; have hc7 := blkCell (blkOld HX6.out hb7); have B7 := joinB HB6.out hb7) | (go_at_call 80; (with_reducible refine (HPG.out _).mono ?_); rintro e w8 ⟨rfl, hb8⟩; have hc8 := blkCell (blkOld (blkOld HX6.out hb7) hb8); have B8 := joinB B7 hb8) | (go_at_call 81; (with_reducible refine (HOP.out _).mono ?_); rintro e w9 ⟨rfl, hb9⟩; have hc9 := blkCell (blkOld (blkOld (blkOld HX6.out hb7) hb8) hb9); have B9 := joinB B8 hb9))
      go_ret
      exact ⟨by rw [HZ2.out]; rfl, B9⟩
    | true =>
    have HIF2 := Lib.hid (HIF1.out.trans (Bool.true_and _))
    have HNX := Lib.hid (fun W => rnumber_any next W)
    (try dsimp only [recV, recA, opV] at HNX)
    generalize decide (Rc.num next) = p2 at HNX HIF2
    go_wp2_with (first | (with_reducible refine listLoad (by kernel_rfl) 49 (.tmp 3) rfl gx rfl #[.int .i64 lsn, .int .i64 prev, .int .i64 txn, .int .i64 3, .int .i64 page, .int .i64 next, .int .i64 0, .int .i64 ok, .int .i64 os, .string oo, .string on, .int .i64 0, .int .i64 0, .string ⟨#[]⟩, .int .i64 0, .int .i64 0, .slice none 0 0, .slice none 0 0] _ HG6.out _ Try.underlying49 (by kernel_rfl) (by kernel_rfl) ?_) | (with_reducible refine listLoad (by kernel_rfl) 49 (.tmp 1) rfl g rfl #[.int .i64 lsn, .int .i64 prev, .int .i64 txn, .int .i64 3, .int .i64 page, .int .i64 next, .int .i64 nu, .int .i64 ok, .int .i64 os, .string oo, .string on, .int .i64 how, .int .i64 root, .string ek, .int .i64 ep, .int .i64 es, .slice A ts.length c, .slice B ds.length d] _ HX6.out _ Try.underlying49 (by kernel_rfl) (by kernel_rfl) ?_) | (go_at_call 16; (with_reducible refine HSA.out.mono ?_); rintro e w7 ⟨rfl, hb7⟩; have hc7 := blkCell (blkOld HX6.out hb7); have B7 := joinB HB6.out hb7) | (go_at_call 80; (with_reducible refine (HPG.out _).mono ?_); rintro e w8 ⟨rfl, hb8⟩; have hc8 := blkCell (blkOld (blkOld HX6.out hb7) hb8); have B8 := joinB B7 hb8) | (go_at_call 81; (with_reducible refine (HOP.out _).mono ?_); rintro e w9 ⟨rfl, hb9⟩; have hc9 := blkCell (blkOld (blkOld (blkOld HX6.out hb7) hb8) hb9); have B9 := joinB B8 hb9) | (go_at_call 77; (with_reducible refine (HNX.out _).mono ?_); rintro e w10 ⟨rfl, hb10⟩; have hc10 := blkCell (blkOld (blkOld (blkOld (blkOld HX6.out hb7) hb8) hb9) hb10); have B10 := joinB B9 hb10))
    go_ret
    exact ⟨by rw [HIF2.out]; simp, B10⟩
end Go.Proofs.Ytojaagnfjenhoaa
