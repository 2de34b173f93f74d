/- The walk over the reference of records: Right, kind 4. -/
import Derived.Test.YtojaagnfjenhoaaHo16
import Derived.Test.YtojaagnfjenhoaaHo15
import Derived.Test.YtojaagnfjenhoaaHo02
import Derived.Test.YtojaagnfjenhoaaHo06
namespace Go.Proofs.Ytojaagnfjenhoaa
open Go.RowKit
set_option maxRecDepth 100000 in
set_option maxHeartbeats 8000000 in
theorem rright_4 (lsn prev txn page next nu ok os how root ep es : Int) (oo on ek : ByteArray) (ts : List Rc.TxnAt) (ds : List Rc.DirtyAt) (A B : Option Addr) (c d : Nat) (w : World) (hr : RecR w ⟨lsn, prev, txn, 4, page, next, nu, ⟨ok, os, oo, on⟩, how, root, ⟨ek, ep, es⟩, ts, ds⟩ A c B d) :
    Calls Try.prog 43 #[.agg #[.int .i64 lsn, .int .i64 prev, .int .i64 txn, .int .i64 4, .int .i64 page, .int .i64 next, .int .i64 nu, .int .i64 ok, .int .i64 os, .string oo, .string on, .int .i64 how, .int .i64 root, .string ek, .int .i64 ep, .int .i64 es, .slice A ts.length c, .slice B ds.length d]] w fun e w' => e = .returned (.bool (Rc.rightB ⟨lsn, prev, txn, 4, page, next, nu, ⟨ok, os, oo, on⟩, how, root, ⟨ek, ep, es⟩, ts, ds⟩)) ∧ Below w.heap.size w w' := by
  obtain ⟨z, hz⟩ : ∃ z, z = Rc.rightB ⟨lsn, prev, txn, 4, page, next, nu, ⟨ok, os, oo, on⟩, how, root, ⟨ek, ep, es⟩, ts, ds⟩ := ⟨_, rfl⟩
  rw [← hz]
  have HZ := Lib.hid hz
  clear hz
  obtain ⟨w0, hw0⟩ : ∃ W, W = w.alloc (.cells #[.int .i64 lsn, .int .i64 prev, .int .i64 txn, .int .i64 4, .int .i64 page, .int .i64 next, .int .i64 nu, .int .i64 ok, .int .i64 os, .string oo, .string on, .int .i64 how, .int .i64 root, .string ek, .int .i64 ep, .int .i64 es, .slice A ts.length c, .slice B ds.length d] 49) := ⟨_, rfl⟩
  have HB0 := Lib.hid (show Below w.heap.size w w0 from by rw [hw0]; exact allocB _ _)
  have HX0 := Lib.hid (show w0.heap[w.heap.size]? = some (.cells #[.int .i64 lsn, .int .i64 prev, .int .i64 txn, .int .i64 4, .int .i64 page, .int .i64 next, .int .i64 nu, .int .i64 ok, .int .i64 os, .string oo, .string on, .int .i64 how, .int .i64 root, .string ek, .int .i64 ep, .int .i64 es, .slice A ts.length c, .slice B ds.length d] 49 (0, 0)) from by rw [hw0]; exact heap_alloc_new _ _)
  have HRR := Lib.hid (fun W (hb : Below w.heap.size w W) => hr.below hb)
  clear hr
  go_enter Try.func43, Try.ntmps43
  go_upto_region 1 with fail
  rw [← hw0]
  clear hw0
  obtain ⟨g, hg⟩ : ∃ g, g = w.heap.size := ⟨_, rfl⟩
  rw [← hg] at HX0
  rw [← hg]
  clear hg
  have hcg := blkCell HX0.out
  have H1 := Lib.hid (fun W => rnumber_any lsn W)
  have H2 := Lib.hid (fun W => rnumber_any prev W)
  have H3 := Lib.hid (fun W => rnumber_any txn W)
  have HNO := Lib.hid (show ¬ (Rc.num lsn ∧ Rc.num prev ∧ Rc.num txn) → z = false from fun h => HZ.out.trans (Rc.rightB_no fun hr => h (Rc.r_nums hr)))
  by_cases h1 : Rc.num lsn
  rotate_left
  · rw [decide_eq_false h1] at H1
    have HZ2 := Lib.hid (HNO.out (fun h => h1 h.1))
    clear h1
    go_wp2_with (go_at_call 77; (with_reducible refine (H1.out _).mono ?_); rintro e w1 ⟨rfl, hb1⟩; have hc1 := blkCell (blkOld HX0.out hb1))
    go_ret
    exact ⟨by rw [HZ2.out]; rfl, joinB HB0.out hb1⟩
  by_cases h2 : Rc.num prev
  rotate_left
  · rw [decide_eq_true h1] at H1
    rw [decide_eq_false h2] at H2
    have HZ2 := Lib.hid (HNO.out (fun h => h2 h.2.1))
    clear h1 h2
    go_wp2_with (first | (go_at_call 77; (with_reducible refine (H1.out _).mono ?_); rintro e w1 ⟨rfl, hb1⟩; have hc1 := blkCell (blkOld HX0.out hb1)) | (go_at_call 77; (with_reducible refine (H2.out _).mono ?_); rintro e w2 ⟨rfl, hb2⟩; have hc2 := blkCell (blkOld (blkOld HX0.out hb1) hb2)))
    go_ret
    exact ⟨by rw [HZ2.out]; rfl, joinB HB0.out (joinB hb1 hb2)⟩
  by_cases h3 : Rc.num txn
  rotate_left
  · rw [decide_eq_true h1] at H1
    rw [decide_eq_true h2] at H2
    rw [decide_eq_false h3] at H3
    have HZ2 := Lib.hid (HNO.out (fun h => h3 h.2.2))
    clear h1 h2 h3
    go_wp2_with (first | (go_at_call 77; (with_reducible refine (H1.out _).mono ?_); rintro e w1 ⟨rfl, hb1⟩; have hc1 := blkCell (blkOld HX0.out hb1)) | (go_at_call 77; (with_reducible refine (H2.out _).mono ?_); rintro e w2 ⟨rfl, hb2⟩; have hc2 := blkCell (blkOld (blkOld HX0.out hb1) hb2)) | (go_at_call 77; (with_reducible refine (H3.out _).mono ?_); rintro e w3 ⟨rfl, hb3⟩))
    go_ret
    exact ⟨by rw [HZ2.out]; rfl, joinB HB0.out (joinB (joinB hb1 hb2) hb3)⟩
  rw [decide_eq_true h1] at H1
  rw [decide_eq_true h2] at H2
  rw [decide_eq_true h3] at H3
  have HIF := Lib.hid (show z = (decide ((⟨lsn, prev, txn, 4, 0, next, 0, ⟨0, 0, ⟨#[]⟩, ⟨#[]⟩⟩, 0, 0, ⟨⟨#[]⟩, 0, 0⟩, [], []⟩ : Rc.Rec) = ⟨lsn, prev, txn, 4, page, next, nu, ⟨ok, os, oo, on⟩, how, root, ⟨ek, ep, es⟩, ts, ds⟩) && (decide (Rc.num next))) from HZ.out.trans (Rc.rightB_of ((Rc.r_4 ⟨h1, h2, h3⟩).trans (by simp only [Bool.and_eq_true, decide_eq_true_eq]; (try exact Iff.rfl)))))
  clear h1 h2 h3 HNO HZ
  have HBA := Lib.hid (fun W => rbare_any ⟨lsn, prev, txn, 4, page, next, nu, ⟨ok, os, oo, on⟩, how, root, ⟨ek, ep, es⟩, ts, ds⟩ (.slice A ts.length c) (.slice B ds.length d) W)
  dsimp only [recV, recA, Rc.bare, Rc.noOp, Rc.noKey] at HBA
  go_upto_region 4 with (first | (go_at_call 77; (with_reducible refine (H1.out _).mono ?_); rintro e w1 ⟨rfl, hb1⟩; have hc1 := blkCell (blkOld HX0.out hb1)) | (go_at_call 77; (with_reducible refine (H2.out _).mono ?_); rintro e w2 ⟨rfl, hb2⟩; have hc2 := blkCell (blkOld (blkOld HX0.out hb1) hb2)) | (go_at_call 77; (with_reducible refine (H3.out _).mono ?_); rintro e w3 ⟨rfl, hb3⟩) | (with_reducible refine listLoad (by kernel_rfl) 49 (.tmp 1) rfl g rfl #[.int .i64 lsn, .int .i64 prev, .int .i64 txn, .int .i64 4, .int .i64 page, .int .i64 next, .int .i64 nu, .int .i64 ok, .int .i64 os, .string oo, .string on, .int .i64 how, .int .i64 root, .string ek, .int .i64 ep, .int .i64 es, .slice A ts.length c, .slice B ds.length d] _ (blkOld HX0.out (joinB (joinB hb1 hb2) hb3)) _ Try.underlying49 (by kernel_rfl) (by kernel_rfl) ?_) | (go_at_call 78; (with_reducible refine (HBA.out _).mono ?_); rintro e w4 ⟨rfl, hb4⟩) | (with_reducible refine wpList_store_new rfl 49 (.tmp 3) (.tmp 21) rfl #[.int .i64 lsn, .int .i64 prev, .int .i64 txn, .int .i64 4, .int .i64 0, .int .i64 0, .int .i64 0, .int .i64 0, .int .i64 0, .string ⟨#[]⟩, .string ⟨#[]⟩, .int .i64 0, .int .i64 0, .string ⟨#[]⟩, .int .i64 0, .int .i64 0, .slice none 0 0, .slice none 0 0] _ _ rfl (by kernel_rfl) (by kernel_rfl) (by kernel_rfl) (by kernel_rfl) ?_))
  have HB5 := Lib.hid (joinB (joinB (joinB (joinB HB0.out hb1) hb2) hb3) (pastAlloc (o := .cells #[.int .i64 lsn, .int .i64 prev, .int .i64 txn, .int .i64 4, .int .i64 0, .int .i64 0, .int .i64 0, .int .i64 0, .int .i64 0, .string ⟨#[]⟩, .string ⟨#[]⟩, .int .i64 0, .int .i64 0, .string ⟨#[]⟩, .int .i64 0, .int .i64 0, .slice none 0 0, .slice none 0 0] 49) hb4))
  have HX5 := Lib.hid (blkOld HX0.out (joinB (joinB (joinB hb1 hb2) hb3) (pastAlloc (o := .cells #[.int .i64 lsn, .int .i64 prev, .int .i64 txn, .int .i64 4, .int .i64 0, .int .i64 0, .int .i64 0, .int .i64 0, .int .i64 0, .string ⟨#[]⟩, .string ⟨#[]⟩, .int .i64 0, .int .i64 0, .string ⟨#[]⟩, .int .i64 0, .int .i64 0, .slice none 0 0, .slice none 0 0] 49) hb4)))
  have HG5 := Lib.hid (heap_alloc_new w4 (.cells #[.int .i64 lsn, .int .i64 prev, .int .i64 txn, .int .i64 4, .int .i64 0, .int .i64 0, .int .i64 0, .int .i64 0, .int .i64 0, .string ⟨#[]⟩, .string ⟨#[]⟩, .int .i64 0, .int .i64 0, .string ⟨#[]⟩, .int .i64 0, .int .i64 0, .slice none 0 0, .slice none 0 0] 49))
  have hgx : g < w4.heap.size := Nat.lt_of_lt_of_le (heapLt HX0.out) (joinB (joinB (joinB hb1 hb2) hb3) hb4).size
  have hgw : w.heap.size ≤ w4.heap.size := (joinB (joinB (joinB (joinB HB0.out hb1) hb2) hb3) hb4).size
  obtain ⟨gx, hge⟩ : ∃ gx, gx = w4.heap.size := ⟨_, rfl⟩
  obtain ⟨W5, hW5⟩ : ∃ W, W = w4.alloc (.cells #[.int .i64 lsn, .int .i64 prev, .int .i64 txn, .int .i64 4, .int .i64 0, .int .i64 0, .int .i64 0, .int .i64 0, .int .i64 0, .string ⟨#[]⟩, .string ⟨#[]⟩, .int .i64 0, .int .i64 0, .string ⟨#[]⟩, .int .i64 0, .int .i64 0, .slice none 0 0, .slice none 0 0] 49) := ⟨_, rfl⟩
  rw [← hge, ← hW5] at HG5
  rw [← hW5] at HB5 HX5
  rw [← hge] at hgx hgw
  rw [← hge, ← hW5]
  clear hge hW5 hb1 hb2 hb3 hb4 hc1 hc2 hcg HBA H1 H2 H3 HX0
  have hcg := blkCell HX5.out
  have hcx := blkCell HG5.out
  have hzx := blkFrozen HG5.out
  go_upto_region 18 with fail
  have HX6 := Lib.hid (show (W5.setCell ⟨gx, 5, none⟩ (.int .i64 next)).heap[g]? = some (.cells #[.int .i64 lsn, .int .i64 prev, .int .i64 txn, .int .i64 4, .int .i64 page, .int .i64 next, .int .i64 nu, .int .i64 ok, .int .i64 os, .string oo, .string on, .int .i64 how, .int .i64 root, .string ek, .int .i64 ep, .int .i64 es, .slice A ts.length c, .slice B ds.length d] 49 (0, 0)) from keep_set (b := gx) HX5.out (by omega))
  have HG6 := Lib.hid (show (W5.setCell ⟨gx, 5, none⟩ (.int .i64 next)).heap[gx]? = some (.cells #[.int .i64 lsn, .int .i64 prev, .int .i64 txn, .int .i64 4, .int .i64 0, .int .i64 next, .int .i64 0, .int .i64 0, .int .i64 0, .string ⟨#[]⟩, .string ⟨#[]⟩, .int .i64 0, .int .i64 0, .string ⟨#[]⟩, .int .i64 0, .int .i64 0, .slice none 0 0, .slice none 0 0] 49 (0, 0)) from by have h := blkSet 5 HG5.out (.int .i64 next); simpa using h)
  have HB6 := Lib.hid (show Below w.heap.size w (W5.setCell ⟨gx, 5, none⟩ (.int .i64 next)) from HB5.out.setCell (p := ⟨gx, 5, none⟩) (by show _ ≤ gx; omega) (.int .i64 next))
  obtain ⟨W6, hW6⟩ : ∃ W, W = (W5.setCell ⟨gx, 5, none⟩ (.int .i64 next)) := ⟨_, rfl⟩
  rw [← hW6] at HX6 HG6 HB6
  rw [← hW6]
  clear hW6 HX5 HG5 HB5 hcg hcx hzx
  have hcg := blkCell HX6.out
  have HSA := Lib.hid (rsame_any (⟨lsn, prev, txn, 4, 0, next, 0, ⟨0, 0, ⟨#[]⟩, ⟨#[]⟩⟩, 0, 0, ⟨⟨#[]⟩, 0, 0⟩, [], []⟩ : Rc.Rec) ⟨lsn, prev, txn, 4, page, next, nu, ⟨ok, os, oo, on⟩, how, root, ⟨ek, ep, es⟩, ts, ds⟩ none A none B 0 c 0 d W6 (recR_nil _ _ rfl rfl) (HRR.out _ HB6.out))
  dsimp only [recV, recA, List.length_nil] at HSA
  generalize decide ((⟨lsn, prev, txn, 4, 0, next, 0, ⟨0, 0, ⟨#[]⟩, ⟨#[]⟩⟩, 0, 0, ⟨⟨#[]⟩, 0, 0⟩, [], []⟩ : Rc.Rec) = ⟨lsn, prev, txn, 4, page, next, nu, ⟨ok, os, oo, on⟩, how, root, ⟨ek, ep, es⟩, ts, ds⟩) = q at HSA HIF
  cases q with
  | false =>
    have HZ2 := Lib.hid (show z = false from HIF.out.trans (Bool.false_and _))
    go_wp2_with (first | (with_reducible refine listLoad (by kernel_rfl) 49 (.tmp 3) rfl gx rfl #[.int .i64 lsn, .int .i64 prev, .int .i64 txn, .int .i64 4, .int .i64 0, .int .i64 next, .int .i64 0, .int .i64 0, .int .i64 0, .string ⟨#[]⟩, .string ⟨#[]⟩, .int .i64 0, .int .i64 0, .string ⟨#[]⟩, .int .i64 0, .int .i64 0, .slice none 0 0, .slice none 0 0] _ HG6.out _ Try.underlying49 (by kernel_rfl) (by kernel_rfl) ?_) | (with_reducible refine listLoad (by kernel_rfl) 49 (.tmp 1) rfl g rfl #[.int .i64 lsn, .int .i64 prev, .int .i64 txn, .int .i64 4, .int .i64 page, .int .i64 next, .int .i64 nu, .int .i64 ok, .int .i64 os, .string oo, .string on, .int .i64 how, .int .i64 root, .string ek, .int .i64 ep, .int .i64 es, .slice A ts.length c, .slice B ds.length d] _ HX6.out _ Try.underlying49 (by kernel_rfl) (by kernel_rfl) ?_) | (go_at_call 16; (with_reducible refine HSA.out.mono ?_); rintro e w7 ⟨rfl, hb7⟩; have hc7 := blkCell (blkOld HX6.out hb7); have B7 := joinB HB6.out hb7))
    go_ret
    exact ⟨by rw [HZ2.out]; rfl, B7⟩
  | true =>
    have HIF0 := Lib.hid (HIF.out.trans (Bool.true_and _))
    clear HIF
    have HNX := Lib.hid (fun W => rnumber_any next W)
    (try dsimp only [recV, recA, opV] at HNX)
    generalize decide (Rc.num next) = p0 at HNX HIF0
    go_wp2_with (first | (with_reducible refine listLoad (by kernel_rfl) 49 (.tmp 3) rfl gx rfl #[.int .i64 lsn, .int .i64 prev, .int .i64 txn, .int .i64 4, .int .i64 0, .int .i64 next, .int .i64 0, .int .i64 0, .int .i64 0, .string ⟨#[]⟩, .string ⟨#[]⟩, .int .i64 0, .int .i64 0, .string ⟨#[]⟩, .int .i64 0, .int .i64 0, .slice none 0 0, .slice none 0 0] _ HG6.out _ Try.underlying49 (by kernel_rfl) (by kernel_rfl) ?_) | (with_reducible refine listLoad (by kernel_rfl) 49 (.tmp 1) rfl g rfl #[.int .i64 lsn, .int .i64 prev, .int .i64 txn, .int .i64 4, .int .i64 page, .int .i64 next, .int .i64 nu, .int .i64 ok, .int .i64 os, .string oo, .string on, .int .i64 how, .int .i64 root, .string ek, .int .i64 ep, .int .i64 es, .slice A ts.length c, .slice B ds.length d] _ HX6.out _ Try.underlying49 (by kernel_rfl) (by kernel_rfl) ?_) | (go_at_call 16; (with_reducible refine HSA.out.mono ?_); rintro e w7 ⟨rfl, hb7⟩; have hc7 := blkCell (blkOld HX6.out hb7); have B7 := joinB HB6.out hb7) | (go_at_call 77; (with_reducible refine (HNX.out _).mono ?_); rintro e w8 ⟨rfl, hb8⟩; have hc8 := blkCell (blkOld (blkOld HX6.out hb7) hb8); have B8 := joinB B7 hb8))
    go_ret
    exact ⟨by rw [HIF0.out]; simp, B8⟩
end Go.Proofs.Ytojaagnfjenhoaa
/- The walk over the reference of records: Right, kind 9. -/
namespace Go.Proofs.Ytojaagnfjenhoaa
open Go.RowKit
set_option maxRecDepth 100000 in
set_option maxHeartbeats 8000000 in
theorem rright_9 (lsn prev txn page next nu ok os how root ep es : Int) (oo on ek : ByteArray) (ts : List Rc.TxnAt) (ds : List Rc.DirtyAt) (A B : Option Addr) (c d : Nat) (w : World) (hr : RecR w ⟨lsn, prev, txn, 9, page, next, nu, ⟨ok, os, oo, on⟩, how, root, ⟨ek, ep, es⟩, ts, ds⟩ A c B d) :
    Calls Try.prog 43 #[.agg #[.int .i64 lsn, .int .i64 prev, .int .i64 txn, .int .i64 9, .int .i64 page, .int .i64 next, .int .i64 nu, .int .i64 ok, .int .i64 os, .string oo, .string on, .int .i64 how, .int .i64 root, .string ek, .int .i64 ep, .int .i64 es, .slice A ts.length c, .slice B ds.length d]] w fun e w' => e = .returned (.bool (Rc.rightB ⟨lsn, prev, txn, 9, page, next, nu, ⟨ok, os, oo, on⟩, how, root, ⟨ek, ep, es⟩, ts, ds⟩)) ∧ Below w.heap.size w w' := by
  obtain ⟨z, hz⟩ : ∃ z, z = Rc.rightB ⟨lsn, prev, txn, 9, page, next, nu, ⟨ok, os, oo, on⟩, how, root, ⟨ek, ep, es⟩, ts, ds⟩ := ⟨_, rfl⟩
  rw [← hz]
  have HZ := Lib.hid hz
  clear hz
  obtain ⟨w0, hw0⟩ : ∃ W, W = w.alloc (.cells #[.int .i64 lsn, .int .i64 prev, .int .i64 txn, .int .i64 9, .int .i64 page, .int .i64 next, .int .i64 nu, .int .i64 ok, .int .i64 os, .string oo, .string on, .int .i64 how, .int .i64 root, .string ek, .int .i64 ep, .int .i64 es, .slice A ts.length c, .slice B ds.length d] 49) := ⟨_, rfl⟩
  have HB0 := Lib.hid (show Below w.heap.size w w0 from by rw [hw0]; exact allocB _ _)
  have HX0 := Lib.hid (show w0.heap[w.heap.size]? = some (.cells #[.int .i64 lsn, .int .i64 prev, .int .i64 txn, .int .i64 9, .int .i64 page, .int .i64 next, .int .i64 nu, .int .i64 ok, .int .i64 os, .string oo, .string on, .int .i64 how, .int .i64 root, .string ek, .int .i64 ep, .int .i64 es, .slice A ts.length c, .slice B ds.length d] 49 (0, 0)) from by rw [hw0]; exact heap_alloc_new _ _)
  have HRR := Lib.hid (fun W (hb : Below w.heap.size w W) => hr.below hb)
  clear hr
  go_enter Try.func43, Try.ntmps43
  go_upto_region 1 with fail
  rw [← hw0]
  clear hw0
  obtain ⟨g, hg⟩ : ∃ g, g = w.heap.size := ⟨_, rfl⟩
  rw [← hg] at HX0
  rw [← hg]
  clear hg
  have hcg := blkCell HX0.out
  have H1 := Lib.hid (fun W => rnumber_any lsn W)
  have H2 := Lib.hid (fun W => rnumber_any prev W)
  have H3 := Lib.hid (fun W => rnumber_any txn W)
  have HNO := Lib.hid (show ¬ (Rc.num lsn ∧ Rc.num prev ∧ Rc.num txn) → z = false from fun h => HZ.out.trans (Rc.rightB_no fun hr => h (Rc.r_nums hr)))
  by_cases h1 : Rc.num lsn
  rotate_left
  · rw [decide_eq_false h1] at H1
    have HZ2 := Lib.hid (HNO.out (fun h => h1 h.1))
    clear h1
    go_wp2_with (go_at_call 77; (with_reducible refine (H1.out _).mono ?_); rintro e w1 ⟨rfl, hb1⟩; have hc1 := blkCell (blkOld HX0.out hb1))
    go_ret
    exact ⟨by rw [HZ2.out]; rfl, joinB HB0.out hb1⟩
  by_cases h2 : Rc.num prev
  rotate_left
  · rw [decide_eq_true h1] at H1
    rw [decide_eq_false h2] at H2
    have HZ2 := Lib.hid (HNO.out (fun h => h2 h.2.1))
    clear h1 h2
    go_wp2_with (first | (go_at_call 77; (with_reducible refine (H1.out _).mono ?_); rintro e w1 ⟨rfl, hb1⟩; have hc1 := blkCell (blkOld HX0.out hb1)) | (go_at_call 77; (with_reducible refine (H2.out _).mono ?_); rintro e w2 ⟨rfl, hb2⟩; have hc2 := blkCell (blkOld (blkOld HX0.out hb1) hb2)))
    go_ret
    exact ⟨by rw [HZ2.out]; rfl, joinB HB0.out (joinB hb1 hb2)⟩
  by_cases h3 : Rc.num txn
  rotate_left
  · rw [decide_eq_true h1] at H1
    rw [decide_eq_true h2] at H2
    rw [decide_eq_false h3] at H3
    have HZ2 := Lib.hid (HNO.out (fun h => h3 h.2.2))
    clear h1 h2 h3
    go_wp2_with (first | (go_at_call 77; (with_reducible refine (H1.out _).mono ?_); rintro e w1 ⟨rfl, hb1⟩; have hc1 := blkCell (blkOld HX0.out hb1)) | (go_at_call 77; (with_reducible refine (H2.out _).mono ?_); rintro e w2 ⟨rfl, hb2⟩; have hc2 := blkCell (blkOld (blkOld HX0.out hb1) hb2)) | (go_at_call 77; (with_reducible refine (H3.out _).mono ?_); rintro e w3 ⟨rfl, hb3⟩))
    go_ret
    exact ⟨by rw [HZ2.out]; rfl, joinB HB0.out (joinB (joinB hb1 hb2) hb3)⟩
  rw [decide_eq_true h1] at H1
  rw [decide_eq_true h2] at H2
  rw [decide_eq_true h3] at H3
  have HIF := Lib.hid (show z = (decide ((⟨lsn, prev, txn, 9, 0, 0, nu, ⟨0, 0, ⟨#[]⟩, ⟨#[]⟩⟩, 0, 0, ⟨⟨#[]⟩, 0, 0⟩, ts, ds⟩ : Rc.Rec) = ⟨lsn, prev, txn, 9, page, next, nu, ⟨ok, os, oo, on⟩, how, root, ⟨ek, ep, es⟩, ts, ds⟩) && (decide (Rc.num nu) && (decide (Rc.listsR ⟨lsn, prev, txn, 9, page, next, nu, ⟨ok, os, oo, on⟩, how, root, ⟨ek, ep, es⟩, ts, ds⟩)))) from HZ.out.trans (Rc.rightB_of ((Rc.r_9 ⟨h1, h2, h3⟩).trans (by simp only [Bool.and_eq_true, decide_eq_true_eq]; (try exact Iff.rfl)))))
  clear h1 h2 h3 HNO HZ
  have HBA := Lib.hid (fun W => rbare_any ⟨lsn, prev, txn, 9, page, next, nu, ⟨ok, os, oo, on⟩, how, root, ⟨ek, ep, es⟩, ts, ds⟩ (.slice A ts.length c) (.slice B ds.length d) W)
  dsimp only [recV, recA, Rc.bare, Rc.noOp, Rc.noKey] at HBA
  go_upto_region 4 with (first | (go_at_call 77; (with_reducible refine (H1.out _).mono ?_); rintro e w1 ⟨rfl, hb1⟩; have hc1 := blkCell (blkOld HX0.out hb1)) | (go_at_call 77; (with_reducible refine (H2.out _).mono ?_); rintro e w2 ⟨rfl, hb2⟩; have hc2 := blkCell (blkOld (blkOld HX0.out hb1) hb2)) | (go_at_call 77; (with_reducible refine (H3.out _).mono ?_); rintro e w3 ⟨rfl, hb3⟩) | (with_reducible refine listLoad (by kernel_rfl) 49 (.tmp 1) rfl g rfl #[.int .i64 lsn, .int .i64 prev, .int .i64 txn, .int .i64 9, .int .i64 page, .int .i64 next, .int .i64 nu, .int .i64 ok, .int .i64 os, .string oo, .string on, .int .i64 how, .int .i64 root, .string ek, .int .i64 ep, .int .i64 es, .slice A ts.length c, .slice B ds.length d] _ (blkOld HX0.out (joinB (joinB hb1 hb2) hb3)) _ Try.underlying49 (by kernel_rfl) (by kernel_rfl) ?_) | (go_at_call 78; (with_reducible refine (HBA.out _).mono ?_); rintro e w4 ⟨rfl, hb4⟩) | (with_reducible refine wpList_store_new rfl 49 (.tmp 3) (.tmp 21) rfl #[.int .i64 lsn, .int .i64 prev, .int .i64 txn, .int .i64 9, .int .i64 0, .int .i64 0, .int .i64 0, .int .i64 0, .int .i64 0, .string ⟨#[]⟩, .string ⟨#[]⟩, .int .i64 0, .int .i64 0, .string ⟨#[]⟩, .int .i64 0, .int .i64 0, .slice none 0 0, .slice none 0 0] _ _ rfl (by kernel_rfl) (by kernel_rfl) (by kernel_rfl) (by kernel_rfl) ?_))
  have HB5 := Lib.hid (joinB (joinB (joinB (joinB HB0.out hb1) hb2) hb3) (pastAlloc (o := .cells #[.int .i64 lsn, .int .i64 prev, .int .i64 txn, .int .i64 9, .int .i64 0, .int .i64 0, .int .i64 0, .int .i64 0, .int .i64 0, .string ⟨#[]⟩, .string ⟨#[]⟩, .int .i64 0, .int .i64 0, .string ⟨#[]⟩, .int .i64 0, .int .i64 0, .slice none 0 0, .slice none 0 0] 49) hb4))
  have HX5 := Lib.hid (blkOld HX0.out (joinB (joinB (joinB hb1 hb2) hb3) (pastAlloc (o := .cells #[.int .i64 lsn, .int .i64 prev, .int .i64 txn, .int .i64 9, .int .i64 0, .int .i64 0, .int .i64 0, .int .i64 0, .int .i64 0, .string ⟨#[]⟩, .string ⟨#[]⟩, .int .i64 0, .int .i64 0, .string ⟨#[]⟩, .int .i64 0, .int .i64 0, .slice none 0 0, .slice none 0 0] 49) hb4)))
  have HG5 := Lib.hid (heap_alloc_new w4 (.cells #[.int .i64 lsn, .int .i64 prev, .int .i64 txn, .int .i64 9, .int .i64 0, .int .i64 0, .int .i64 0, .int .i64 0, .int .i64 0, .string ⟨#[]⟩, .string ⟨#[]⟩, .int .i64 0, .int .i64 0, .string ⟨#[]⟩, .int .i64 0, .int .i64 0, .slice none 0 0, .slice none 0 0] 49))
  have hgx : g < w4.heap.size := Nat.lt_of_lt_of_le (heapLt HX0.out) (joinB (joinB (joinB hb1 hb2) hb3) hb4).size
  have hgw : w.heap.size ≤ w4.heap.size := (joinB (joinB (joinB (joinB HB0.out hb1) hb2) hb3) hb4).size
  obtain ⟨gx, hge⟩ : ∃ gx, gx = w4.heap.size := ⟨_, rfl⟩
  obtain ⟨W5, hW5⟩ : ∃ W, W = w4.alloc (.cells #[.int .i64 lsn, .int .i64 prev, .int .i64 txn, .int .i64 9, .int .i64 0, .int .i64 0, .int .i64 0, .int .i64 0, .int .i64 0, .string ⟨#[]⟩, .string ⟨#[]⟩, .int .i64 0, .int .i64 0, .string ⟨#[]⟩, .int .i64 0, .int .i64 0, .slice none 0 0, .slice none 0 0] 49) := ⟨_, rfl⟩
  rw [← hge, ← hW5] at HG5
  rw [← hW5] at HB5 HX5
  rw [← hge] at hgx hgw
  rw [← hge, ← hW5]
  clear hge hW5 hb1 hb2 hb3 hb4 hc1 hc2 hcg HBA H1 H2 H3 HX0
  have hcg := blkCell HX5.out
  go_upto_region 23 with fail
  have X0 := blkOld HX5.out (Below.refl _ W5).drew
  have G0 := blkOld HG5.out (Below.refl _ W5).drew
  have BB0 := joinB HB5.out (Below.refl _ W5).drew
  refine wp_region_held_drew (S := (fun u => u.heap[g]? = some (.cells #[.int .i64 lsn, .int .i64 prev, .int .i64 txn, .int .i64 9, .int .i64 page, .int .i64 next, .int .i64 nu, .int .i64 ok, .int .i64 os, .string oo, .string on, .int .i64 how, .int .i64 root, .string ek, .int .i64 ep, .int .i64 es, .slice A ts.length c, .slice B ds.length d] 49 (0, 0)))) (by kernel_rfl) ?_ (fun hHeld => ?_)
  · first | exact hSn | exact X0
  generalize W5.drew = V0 at hHeld X0 G0 BB0 ⊢
  refine wpAnyH_take (i := 0) (oi := { dst := some 121, op := _, type := _, pos := _, after := _, guard := _ }) (v := ?_) rfl (by kernel_rfl) (by kernel_rfl) (by kernel_rfl) (fun _ _ _ h => h) (Or.inl ⟨by rfl, ?_⟩) (by assumption) ?_
  rotate_left
  · intro u hSu; have hSv := blkCell hSu; clear hSu; go_simp; (try with_reducible rfl)
  try simp only [Act.put, List.setIfInBounds_toArray, List.set_cons_zero, List.set_cons_succ]
  refine wpAnyH_take (i := 1) (oi := { dst := some 122, op := _, type := _, pos := _, after := _, guard := _ }) (v := ?_) rfl (by kernel_rfl) (by kernel_rfl) (by kernel_rfl) (fun _ _ _ h => h) (Or.inl ⟨by rfl, ?_⟩) (by assumption) ?_
  rotate_left
  · intro u hSu; have hSv := blkCell hSu; clear hSu; go_simp; (try with_reducible rfl)
  try simp only [Act.put, List.setIfInBounds_toArray, List.set_cons_zero, List.set_cons_succ]
  refine wpAnyH_take (i := 2) (oi := { dst := some 123, op := _, type := _, pos := _, after := _, guard := _ }) (v := ?_) rfl (by kernel_rfl) (by kernel_rfl) (by kernel_rfl) (fun _ _ _ h => h) (Or.inl ⟨by rfl, ?_⟩) (by assumption) ?_
  rotate_left
  · intro u hSu; have hSv := blkCell hSu; clear hSu; go_simp; (try with_reducible rfl)
  try simp only [Act.put, List.setIfInBounds_toArray, List.set_cons_zero, List.set_cons_succ]
  refine wpAnyH_take (i := 3) (oi := { dst := some 124, op := _, type := _, pos := _, after := _, guard := _ }) (v := ?_) rfl (by kernel_rfl) (by kernel_rfl) (by kernel_rfl) (fun _ _ _ h => h) (Or.inl ⟨by rfl, ?_⟩) (by assumption) ?_
  rotate_left
  · intro u hSu; have hSv := blkCell hSu; clear hSu; go_simp; (try with_reducible rfl)
  try simp only [Act.put, List.setIfInBounds_toArray, List.set_cons_zero, List.set_cons_succ]
  refine wpAnyH_take (i := 4) (oi := { dst := some 125, op := _, type := _, pos := _, after := _, guard := _ }) (v := ?_) rfl (by kernel_rfl) (by kernel_rfl) (by kernel_rfl) (fun _ _ _ h => h) (Or.inl ⟨by rfl, ?_⟩) (by assumption) ?_
  rotate_left
  · intro u hSu; have hSv := blkCell hSu; clear hSu; go_simp; (try with_reducible rfl)
  try simp only [Act.put, List.setIfInBounds_toArray, List.set_cons_zero, List.set_cons_succ]
  refine wpAnyH_take (i := 5) (oi := { dst := some 126, op := _, type := _, pos := _, after := _, guard := _ }) (v := ?_) rfl (by kernel_rfl) (by kernel_rfl) (by kernel_rfl) (fun _ _ _ h => h) (Or.inl ⟨by rfl, ?_⟩) (by assumption) ?_
  rotate_left
  · intro u hSu; have hSv := blkCell hSu; clear hSu; go_simp; (try with_reducible rfl)
  try simp only [Act.put, List.setIfInBounds_toArray, List.set_cons_zero, List.set_cons_succ]
  refine wpAnyH_take (i := 6) (oi := { dst := some 127, op := _, type := _, pos := _, after := _, guard := _ }) (v := ?_) rfl (by kernel_rfl) (by kernel_rfl) (by kernel_rfl) (fun _ _ _ h => h) (Or.inl ⟨by rfl, ?_⟩) (by assumption) ?_
  rotate_left
  · intro u hSu; have hSv := blkCell hSu; clear hSu; go_simp; (try with_reducible rfl)
  try simp only [Act.put, List.setIfInBounds_toArray, List.set_cons_zero, List.set_cons_succ]
  refine wpAnyH_ready (rs := [7]) (by kernel_rfl) (by simp) ?_
  refine AllReadyH.cons (o := { dst := none, op := _, type := _, pos := _, after := _, guard := _ }) rfl (fun K hK => ?_) ?_
  rotate_left
  · exact AllReadyH.nil
  have hcx0 := blkCell G0
  have hzx0 := blkFrozen G0
  go_simp
  have X1 := (keep_set (b := gx) (j := 6) (v := .int .i64 nu) X0 (by omega))
  have G1 : (V0.setCell ⟨gx, 6, none⟩ (.int .i64 nu)).heap[gx]? = some (.cells #[.int .i64 lsn, .int .i64 prev, .int .i64 txn, .int .i64 9, .int .i64 0, .int .i64 0, .int .i64 nu, .int .i64 0, .int .i64 0, .string ⟨#[]⟩, .string ⟨#[]⟩, .int .i64 0, .int .i64 0, .string ⟨#[]⟩, .int .i64 0, .int .i64 0, .slice none 0 0, .slice none 0 0] 49 (0, 0)) := (by have h := (blkSet 6 G0 (.int .i64 nu)); simpa using h)
  try clear hSn
  have hSn := X1
  refine hK.out _ _ ?_ (fun hHeld => ?_)
  · first | exact hSn | exact X0
  clear hK K
  try simp only [Act.put, List.setIfInBounds_toArray, List.set_cons_zero, List.set_cons_succ]
  refine wpAnyH_take (i := 8) (oi := { dst := some 128, op := _, type := _, pos := _, after := _, guard := _ }) (v := ?_) rfl (by kernel_rfl) (by kernel_rfl) (by kernel_rfl) (fun _ _ _ h => h) (Or.inl ⟨by rfl, ?_⟩) (by assumption) ?_
  rotate_left
  · intro u hSu; have hSv := blkCell hSu; clear hSu; go_simp; (try with_reducible rfl)
  try simp only [Act.put, List.setIfInBounds_toArray, List.set_cons_zero, List.set_cons_succ]
  refine wpAnyH_ready (rs := [9]) (by kernel_rfl) (by simp) ?_
  refine AllReadyH.cons (o := { dst := none, op := _, type := _, pos := _, after := _, guard := _ }) rfl (fun K hK => ?_) ?_
  rotate_left
  · exact AllReadyH.nil
  have hcx1 := blkCell G1
  have hzx1 := blkFrozen G1
  go_simp
  have X2 := (keep_set (b := gx) (j := 16) (v := .slice A ts.length c) X1 (by omega))
  have G2 : ((V0.setCell ⟨gx, 6, none⟩ (.int .i64 nu)).setCell ⟨gx, 16, none⟩ (.slice A ts.length c)).heap[gx]? = some (.cells #[.int .i64 lsn, .int .i64 prev, .int .i64 txn, .int .i64 9, .int .i64 0, .int .i64 0, .int .i64 nu, .int .i64 0, .int .i64 0, .string ⟨#[]⟩, .string ⟨#[]⟩, .int .i64 0, .int .i64 0, .string ⟨#[]⟩, .int .i64 0, .int .i64 0, .slice A ts.length c, .slice none 0 0] 49 (0, 0)) := (by have h := (blkSet 16 G1 (.slice A ts.length c)); simpa using h)
  try clear hSn
  have hSn := X2
  refine hK.out _ _ ?_ (fun hHeld => ?_)
  · first | exact hSn | exact X0
  clear hK K
  try simp only [Act.put, List.setIfInBounds_toArray, List.set_cons_zero, List.set_cons_succ]
  refine wpAnyH_take (i := 10) (oi := { dst := some 129, op := _, type := _, pos := _, after := _, guard := _ }) (v := ?_) rfl (by kernel_rfl) (by kernel_rfl) (by kernel_rfl) (fun _ _ _ h => h) (Or.inl ⟨by rfl, ?_⟩) (by assumption) ?_
  rotate_left
  · intro u hSu; have hSv := blkCell hSu; clear hSu; go_simp; (try with_reducible rfl)
  try simp only [Act.put, List.setIfInBounds_toArray, List.set_cons_zero, List.set_cons_succ]
  refine wpAnyH_ready (rs := [11]) (by kernel_rfl) (by simp) ?_
  refine AllReadyH.cons (o := { dst := none, op := _, type := _, pos := _, after := _, guard := _ }) rfl (fun K hK => ?_) ?_
  rotate_left
  · exact AllReadyH.nil
  have hcx2 := blkCell G2
  have hzx2 := blkFrozen G2
  go_simp
  have X3 := (keep_set (b := gx) (j := 17) (v := .slice B ds.length d) X2 (by omega))
  have G3 : (((V0.setCell ⟨gx, 6, none⟩ (.int .i64 nu)).setCell ⟨gx, 16, none⟩ (.slice A ts.length c)).setCell ⟨gx, 17, none⟩ (.slice B ds.length d)).heap[gx]? = some (.cells #[.int .i64 lsn, .int .i64 prev, .int .i64 txn, .int .i64 9, .int .i64 0, .int .i64 0, .int .i64 nu, .int .i64 0, .int .i64 0, .string ⟨#[]⟩, .string ⟨#[]⟩, .int .i64 0, .int .i64 0, .string ⟨#[]⟩, .int .i64 0, .int .i64 0, .slice A ts.length c, .slice B ds.length d] 49 (0, 0)) := (by have h := (blkSet 17 G2 (.slice B ds.length d)); simpa using h)
  try clear hSn
  have hSn := X3
  refine hK.out _ _ ?_ (fun hHeld => ?_)
  · first | exact hSn | exact X0
  clear hK K
  try simp only [Act.put, List.setIfInBounds_toArray, List.set_cons_zero, List.set_cons_succ]
  refine wpAnyH_done (by kernel_rfl) ?_ _
  clear hHeld hSn
  have HX6 := Lib.hid (show (((V0.setCell ⟨gx, 6, none⟩ (.int .i64 nu)).setCell ⟨gx, 16, none⟩ (.slice A ts.length c)).setCell ⟨gx, 17, none⟩ (.slice B ds.length d)).heap[g]? = some (.cells #[.int .i64 lsn, .int .i64 prev, .int .i64 txn, .int .i64 9, .int .i64 page, .int .i64 next, .int .i64 nu, .int .i64 ok, .int .i64 os, .string oo, .string on, .int .i64 how, .int .i64 root, .string ek, .int .i64 ep, .int .i64 es, .slice A ts.length c, .slice B ds.length d] 49 (0, 0)) from X3)
  have HG6 := Lib.hid (show (((V0.setCell ⟨gx, 6, none⟩ (.int .i64 nu)).setCell ⟨gx, 16, none⟩ (.slice A ts.length c)).setCell ⟨gx, 17, none⟩ (.slice B ds.length d)).heap[gx]? = some (.cells #[.int .i64 lsn, .int .i64 prev, .int .i64 txn, .int .i64 9, .int .i64 0, .int .i64 0, .int .i64 nu, .int .i64 0, .int .i64 0, .string ⟨#[]⟩, .string ⟨#[]⟩, .int .i64 0, .int .i64 0, .string ⟨#[]⟩, .int .i64 0, .int .i64 0, .slice A ts.length c, .slice B ds.length d] 49 (0, 0)) from by have h := G3; simpa using h)
  have HB6 := Lib.hid (show Below w.heap.size w (((V0.setCell ⟨gx, 6, none⟩ (.int .i64 nu)).setCell ⟨gx, 16, none⟩ (.slice A ts.length c)).setCell ⟨gx, 17, none⟩ (.slice B ds.length d)) from (((BB0.setCell (p := ⟨gx, 6, none⟩) (by show _ ≤ gx; omega) (.int .i64 nu)).setCell (p := ⟨gx, 16, none⟩) (by show _ ≤ gx; omega) (.slice A ts.length c)).setCell (p := ⟨gx, 17, none⟩) (by show _ ≤ gx; omega) (.slice B ds.length d)))
  obtain ⟨W6, hW6⟩ : ∃ W, W = (((V0.setCell ⟨gx, 6, none⟩ (.int .i64 nu)).setCell ⟨gx, 16, none⟩ (.slice A ts.length c)).setCell ⟨gx, 17, none⟩ (.slice B ds.length d)) := ⟨_, rfl⟩
  rw [← hW6] at HX6 HG6 HB6
  rw [← hW6]
  clear hW6 HX5 HG5 HB5 hcg X0 G0 BB0 X1 G1 hcx0 hzx0 X2 G2 hcx1 hzx1 X3 G3 hcx2 hzx2
  have hcg := blkCell HX6.out
  have HSA := Lib.hid (rsame_any (⟨lsn, prev, txn, 9, 0, 0, nu, ⟨0, 0, ⟨#[]⟩, ⟨#[]⟩⟩, 0, 0, ⟨⟨#[]⟩, 0, 0⟩, ts, ds⟩ : Rc.Rec) ⟨lsn, prev, txn, 9, page, next, nu, ⟨ok, os, oo, on⟩, how, root, ⟨ek, ep, es⟩, ts, ds⟩ A A B B c c d d W6 ⟨(HRR.out _ HB6.out).txns, (HRR.out _ HB6.out).dirty, (HRR.out _ HB6.out).small⟩ (HRR.out _ HB6.out))
  dsimp only [recV, recA, List.length_nil] at HSA
  generalize decide ((⟨lsn, prev, txn, 9, 0, 0, nu, ⟨0, 0, ⟨#[]⟩, ⟨#[]⟩⟩, 0, 0, ⟨⟨#[]⟩, 0, 0⟩, ts, ds⟩ : Rc.Rec) = ⟨lsn, prev, txn, 9, page, next, nu, ⟨ok, os, oo, on⟩, how, root, ⟨ek, ep, es⟩, ts, ds⟩) = q at HSA HIF
  cases q with
  | false =>
    have HZ2 := Lib.hid (show z = false from HIF.out.trans (Bool.false_and _))
    go_wp2_with (first | (with_reducible refine listLoad (by kernel_rfl) 49 (.tmp 3) rfl gx rfl #[.int .i64 lsn, .int .i64 prev, .int .i64 txn, .int .i64 9, .int .i64 0, .int .i64 0, .int .i64 nu, .int .i64 0, .int .i64 0, .string ⟨#[]⟩, .string ⟨#[]⟩, .int .i64 0, .int .i64 0, .string ⟨#[]⟩, .int .i64 0, .int .i64 0, .slice A ts.length c, .slice B ds.length d] _ HG6.out _ Try.underlying49 (by kernel_rfl) (by kernel_rfl) ?_) | (with_reducible refine listLoad (by kernel_rfl) 49 (.tmp 1) rfl g rfl #[.int .i64 lsn, .int .i64 prev, .int .i64 txn, .int .i64 9, .int .i64 page, .int .i64 next, .int .i64 nu, .int .i64 ok, .int .i64 os, .string oo, .string on, .int .i64 how, .int .i64 root, .string ek, .int .i64 ep, .int .i64 es, .slice A ts.length c, .slice B ds.length d] _ HX6.out _ Try.underlying49 (by kernel_rfl) (by kernel_rfl) ?_) | (go_at_call 16; (with_reducible refine HSA.out.mono ?_); rintro e w7 ⟨rfl, hb7⟩; have hc7 := blkCell (blkOld HX6.out hb7); have B7 := joinB HB6.out hb7))
    go_ret
    exact ⟨by rw [HZ2.out]; rfl, B7⟩
  | true =>
    have HIF0 := Lib.hid (HIF.out.trans (Bool.true_and _))
    clear HIF
    have HNU := Lib.hid (fun W => rnumber_any nu W)
    (try dsimp only [recV, recA, opV] at HNU)
    generalize decide (Rc.num nu) = p0 at HNU HIF0
    cases p0 with
    | false =>
      have HZ2 := Lib.hid (show z = false from HIF0.out.trans (Bool.false_and _))
      go_wp2_with (first | (with_reducible refine listLoad (by kernel_rfl) 49 (.tmp 3) rfl gx rfl #[.int .i64 lsn, .int .i64 prev, .int .i64 txn, .int .i64 9, .int .i64 0, .int .i64 0, .int .i64 nu, .int .i64 0, .int .i64 0, .string ⟨#[]⟩, .string ⟨#[]⟩, .int .i64 0, .int .i64 0, .string ⟨#[]⟩, .int .i64 0, .int .i64 0, .slice A ts.length c, .slice B ds.length d] _ HG6.out _ Try.underlying49 (by kernel_rfl) (by kernel_rfl) ?_) | (with_reducible refine listLoad (by kernel_rfl) 49 (.tmp 1) rfl g rfl #[.int .i64 lsn, .int .i64 prev, .int .i64 txn, .int .i64 9, .int .i64 page, .int .i64 next, .int .i64 nu, .int .i64 ok, .int .i64 os, .string oo, .string on, .int .i64 how, .int .i64 root, .string ek, .int .i64 ep, .int .i64 es, .slice A ts.length c, .slice B ds.length d] _ HX6.out _ Try.underlying49 (by kernel_rfl) (by kernel_rfl) ?_) | (go_at_call 16; (with_reducible refine HSA.out.mono ?_); rintro e w7 ⟨rfl, hb7⟩; have hc7 := blkCell (blkOld HX6.out hb7); have B7 := joinB HB6.out hb7) | (go_at_call 77; (with_reducible refine (HNU.out _).mono ?_); rintro e w8 ⟨rfl, hb8⟩; have hc8 := blkCell (blkOld (blkOld HX6.out hb7) hb8); have B8 := joinB B7 hb8))
      go_ret
      exact ⟨by rw [HZ2.out]; rfl, B8⟩
    | true =>
    have HIF1 := Lib.hid (HIF0.out.trans (Bool.true_and _))
    have HLI := Lib.hid (fun W (hb : Below w.heap.size w W) => rlists_any ⟨lsn, prev, txn, 9, page, next, nu, ⟨ok, os, oo, on⟩, how, root, ⟨ek, ep, es⟩, ts, ds⟩ A B c d W (HRR.out W hb))
    (try dsimp only [recV, recA, opV] at HLI)
    generalize decide (Rc.listsR ⟨lsn, prev, txn, 9, page, next, nu, ⟨ok, os, oo, on⟩, how, root, ⟨ek, ep, es⟩, ts, ds⟩) = p1 at HLI HIF1
    go_wp2_with (first | (with_reducible refine listLoad (by kernel_rfl) 49 (.tmp 3) rfl gx rfl #[.int .i64 lsn, .int .i64 prev, .int .i64 txn, .int .i64 9, .int .i64 0, .int .i64 0, .int .i64 nu, .int .i64 0, .int .i64 0, .string ⟨#[]⟩, .string ⟨#[]⟩, .int .i64 0, .int .i64 0, .string ⟨#[]⟩, .int .i64 0, .int .i64 0, .slice A ts.length c, .slice B ds.length d] _ HG6.out _ Try.underlying49 (by kernel_rfl) (by kernel_rfl) ?_) | (with_reducible refine listLoad (by kernel_rfl) 49 (.tmp 1) rfl g rfl #[.int .i64 lsn, .int .i64 prev, .int .i64 txn, .int .i64 9, .int .i64 page, .int .i64 next, .int .i64 nu, .int .i64 ok, .int .i64 os, .string oo, .string on, .int .i64 how, .int .i64 root, .string ek, .int .i64 ep, .int .i64 es, .slice A ts.length c, .slice B ds.length d] _ HX6.out _ Try.underlying49 (by kernel_rfl) (by kernel_rfl) ?_) | (go_at_call 16; (with_reducible refine HSA.out.mono ?_); rintro e w7 ⟨rfl, hb7⟩; have hc7 := blkCell (blkOld HX6.out hb7); have B7 := joinB HB6.out hb7) | (go_at_call 77; (with_reducible refine (HNU.out _).mono ?_); rintro e w8 ⟨rfl, hb8⟩; have hc8 := blkCell (blkOld (blkOld HX6.out hb7) hb8); have B8 := joinB B7 hb8) | (with_reducible refine listLoad (by kernel_rfl) 49 (.tmp 1) rfl g rfl #[.int .i64 lsn, .int .i64 prev, .int .i64 txn, .int .i64 9, .int .i64 page, .int .i64 next, .int .i64 nu, .int .i64 ok, .int .i64 os, .string oo, .string on, .int .i64 how, .int .i64 root, .string ek, .int .i64 ep, .int .i64 es, .slice A ts.length c, .slice B ds.length d] _ (blkOld (blkOld HX6.out hb7) hb8) _ Try.underlying49 (by kernel_rfl) (by kernel_rfl) ?_) | (go_at_call 82; (with_reducible refine (HLI.out _ B8).mono ?_); rintro e w9 ⟨rfl, hb9⟩; have hc9 := blkCell (blkOld (blkOld (blkOld HX6.out hb7) hb8) hb9); have B9 := joinB B8 hb9))
    go_ret
    exact ⟨by rw [HIF1.out]; simp, B9⟩
end Go.Proofs.Ytojaagnfjenhoaa
/- The walk over the reference of records: Right, kind 1. -/
namespace Go.Proofs.Ytojaagnfjenhoaa
open Go.RowKit
set_option maxRecDepth 100000 in
set_option maxHeartbeats 8000000 in
theorem rright_1 (lsn prev txn page next nu ok os how root ep es : Int) (oo on ek : ByteArray) (ts : List Rc.TxnAt) (ds : List Rc.DirtyAt) (A B : Option Addr) (c d : Nat) (w : World) (hr : RecR w ⟨lsn, prev, txn, 1, page, next, nu, ⟨ok, os, oo, on⟩, how, root, ⟨ek, ep, es⟩, ts, ds⟩ A c B d) :
    Calls Try.prog 43 #[.agg #[.int .i64 lsn, .int .i64 prev, .int .i64 txn, .int .i64 1, .int .i64 page, .int .i64 next, .int .i64 nu, .int .i64 ok, .int .i64 os, .string oo, .string on, .int .i64 how, .int .i64 root, .string ek, .int .i64 ep, .int .i64 es, .slice A ts.length c, .slice B ds.length d]] w fun e w' => e = .returned (.bool (Rc.rightB ⟨lsn, prev, txn, 1, page, next, nu, ⟨ok, os, oo, on⟩, how, root, ⟨ek, ep, es⟩, ts, ds⟩)) ∧ Below w.heap.size w w' := by
  obtain ⟨z, hz⟩ : ∃ z, z = Rc.rightB ⟨lsn, prev, txn, 1, page, next, nu, ⟨ok, os, oo, on⟩, how, root, ⟨ek, ep, es⟩, ts, ds⟩ := ⟨_, rfl⟩
  rw [← hz]
  have HZ := Lib.hid hz
  clear hz
  obtain ⟨w0, hw0⟩ : ∃ W, W = w.alloc (.cells #[.int .i64 lsn, .int .i64 prev, .int .i64 txn, .int .i64 1, .int .i64 page, .int .i64 next, .int .i64 nu, .int .i64 ok, .int .i64 os, .string oo, .string on, .int .i64 how, .int .i64 root, .string ek, .int .i64 ep, .int .i64 es, .slice A ts.length c, .slice B ds.length d] 49) := ⟨_, rfl⟩
  have HB0 := Lib.hid (show Below w.heap.size w w0 from by rw [hw0]; exact allocB _ _)
  have HX0 := Lib.hid (show w0.heap[w.heap.size]? = some (.cells #[.int .i64 lsn, .int .i64 prev, .int .i64 txn, .int .i64 1, .int .i64 page, .int .i64 next, .int .i64 nu, .int .i64 ok, .int .i64 os, .string oo, .string on, .int .i64 how, .int .i64 root, .string ek, .int .i64 ep, .int .i64 es, .slice A ts.length c, .slice B ds.length d] 49 (0, 0)) from by rw [hw0]; exact heap_alloc_new _ _)
  have HRR := Lib.hid (fun W (hb : Below w.heap.size w W) => hr.below hb)
  clear hr
  go_enter Try.func43, Try.ntmps43
  go_upto_region 1 with fail
  rw [← hw0]
  clear hw0
  obtain ⟨g, hg⟩ : ∃ g, g = w.heap.size := ⟨_, rfl⟩
  rw [← hg] at HX0
  rw [← hg]
  clear hg
  have hcg := blkCell HX0.out
  have H1 := Lib.hid (fun W => rnumber_any lsn W)
  have H2 := Lib.hid (fun W => rnumber_any prev W)
  have H3 := Lib.hid (fun W => rnumber_any txn W)
  have HNO := Lib.hid (show ¬ (Rc.num lsn ∧ Rc.num prev ∧ Rc.num txn) → z = false from fun h => HZ.out.trans (Rc.rightB_no fun hr => h (Rc.r_nums hr)))
  by_cases h1 : Rc.num lsn
  rotate_left
  · rw [decide_eq_false h1] at H1
    have HZ2 := Lib.hid (HNO.out (fun h => h1 h.1))
    clear h1
    go_wp2_with (go_at_call 77; (with_reducible refine (H1.out _).mono ?_); rintro e w1 ⟨rfl, hb1⟩; have hc1 := blkCell (blkOld HX0.out hb1))
    go_ret
    exact ⟨by rw [HZ2.out]; rfl, joinB HB0.out hb1⟩
  by_cases h2 : Rc.num prev
  rotate_left
  · rw [decide_eq_true h1] at H1
    rw [decide_eq_false h2] at H2
    have HZ2 := Lib.hid (HNO.out (fun h => h2 h.2.1))
    clear h1 h2
    go_wp2_with (first | (go_at_call 77; (with_reducible refine (H1.out _).mono ?_); rintro e w1 ⟨rfl, hb1⟩; have hc1 := blkCell (blkOld HX0.out hb1)) | (go_at_call 77; (with_reducible refine (H2.out _).mono ?_); rintro e w2 ⟨rfl, hb2⟩; have hc2 := blkCell (blkOld (blkOld HX0.out hb1) hb2)))
    go_ret
    exact ⟨by rw [HZ2.out]; rfl, joinB HB0.out (joinB hb1 hb2)⟩
  by_cases h3 : Rc.num txn
  rotate_left
  · rw [decide_eq_true h1] at H1
    rw [decide_eq_true h2] at H2
    rw [decide_eq_false h3] at H3
    have HZ2 := Lib.hid (HNO.out (fun h => h3 h.2.2))
    clear h1 h2 h3
    go_wp2_with (first | (go_at_call 77; (with_reducible refine (H1.out _).mono ?_); rintro e w1 ⟨rfl, hb1⟩; have hc1 := blkCell (blkOld HX0.out hb1)) | (go_at_call 77; (with_reducible refine (H2.out _).mono ?_); rintro e w2 ⟨rfl, hb2⟩; have hc2 := blkCell (blkOld (blkOld HX0.out hb1) hb2)) | (go_at_call 77; (with_reducible refine (H3.out _).mono ?_); rintro e w3 ⟨rfl, hb3⟩))
    go_ret
    exact ⟨by rw [HZ2.out]; rfl, joinB HB0.out (joinB (joinB hb1 hb2) hb3)⟩
  rw [decide_eq_true h1] at H1
  rw [decide_eq_true h2] at H2
  rw [decide_eq_true h3] at H3
  have HIF := Lib.hid (show z = decide ((⟨lsn, prev, txn, 1, 0, 0, 0, ⟨0, 0, ⟨#[]⟩, ⟨#[]⟩⟩, 0, 0, ⟨⟨#[]⟩, 0, 0⟩, [], []⟩ : Rc.Rec) = ⟨lsn, prev, txn, 1, page, next, nu, ⟨ok, os, oo, on⟩, how, root, ⟨ek, ep, es⟩, ts, ds⟩) from HZ.out.trans (Rc.rightB_of ((Rc.r_small (by omega) ⟨h1, h2, h3⟩).trans decide_eq_true_iff.symm)))
  clear h1 h2 h3 HNO HZ
  have HBA := Lib.hid (fun W => rbare_any ⟨lsn, prev, txn, 1, page, next, nu, ⟨ok, os, oo, on⟩, how, root, ⟨ek, ep, es⟩, ts, ds⟩ (.slice A ts.length c) (.slice B ds.length d) W)
  dsimp only [recV, recA, Rc.bare, Rc.noOp, Rc.noKey] at HBA
  go_upto_region 4 with (first | (go_at_call 77; (with_reducible refine (H1.out _).mono ?_); rintro e w1 ⟨rfl, hb1⟩; have hc1 := blkCell (blkOld HX0.out hb1)) | (go_at_call 77; (with_reducible refine (H2.out _).mono ?_); rintro e w2 ⟨rfl, hb2⟩; have hc2 := blkCell (blkOld (blkOld HX0.out hb1) hb2)) | (go_at_call 77; (with_reducible refine (H3.out _).mono ?_); rintro e w3 ⟨rfl, hb3⟩) | (with_reducible refine listLoad (by kernel_rfl) 49 (.tmp 1) rfl g rfl #[.int .i64 lsn, .int .i64 prev, .int .i64 txn, .int .i64 1, .int .i64 page, .int .i64 next, .int .i64 nu, .int .i64 ok, .int .i64 os, .string oo, .string on, .int .i64 how, .int .i64 root, .string ek, .int .i64 ep, .int .i64 es, .slice A ts.length c, .slice B ds.length d] _ (blkOld HX0.out (joinB (joinB hb1 hb2) hb3)) _ Try.underlying49 (by kernel_rfl) (by kernel_rfl) ?_) | (go_at_call 78; (with_reducible refine (HBA.out _).mono ?_); rintro e w4 ⟨rfl, hb4⟩) | (with_reducible refine wpList_store_new rfl 49 (.tmp 3) (.tmp 21) rfl #[.int .i64 lsn, .int .i64 prev, .int .i64 txn, .int .i64 1, .int .i64 0, .int .i64 0, .int .i64 0, .int .i64 0, .int .i64 0, .string ⟨#[]⟩, .string ⟨#[]⟩, .int .i64 0, .int .i64 0, .string ⟨#[]⟩, .int .i64 0, .int .i64 0, .slice none 0 0, .slice none 0 0] _ _ rfl (by kernel_rfl) (by kernel_rfl) (by kernel_rfl) (by kernel_rfl) ?_))
  have HB5 := Lib.hid (joinB (joinB (joinB (joinB HB0.out hb1) hb2) hb3) (pastAlloc (o := .cells #[.int .i64 lsn, .int .i64 prev, .int .i64 txn, .int .i64 1, .int .i64 0, .int .i64 0, .int .i64 0, .int .i64 0, .int .i64 0, .string ⟨#[]⟩, .string ⟨#[]⟩, .int .i64 0, .int .i64 0, .string ⟨#[]⟩, .int .i64 0, .int .i64 0, .slice none 0 0, .slice none 0 0] 49) hb4))
  have HX5 := Lib.hid (blkOld HX0.out (joinB (joinB (joinB hb1 hb2) hb3) (pastAlloc (o := .cells #[.int .i64 lsn, .int .i64 prev, .int .i64 txn, .int .i64 1, .int .i64 0, .int .i64 0, .int .i64 0, .int .i64 0, .int .i64 0, .string ⟨#[]⟩, .string ⟨#[]⟩, .int .i64 0, .int .i64 0, .string ⟨#[]⟩, .int .i64 0, .int .i64 0, .slice none 0 0, .slice none 0 0] 49) hb4)))
  have HG5 := Lib.hid (heap_alloc_new w4 (.cells #[.int .i64 lsn, .int .i64 prev, .int .i64 txn, .int .i64 1, .int .i64 0, .int .i64 0, .int .i64 0, .int .i64 0, .int .i64 0, .string ⟨#[]⟩, .string ⟨#[]⟩, .int .i64 0, .int .i64 0, .string ⟨#[]⟩, .int .i64 0, .int .i64 0, .slice none 0 0, .slice none 0 0] 49))
  have hgx : g < w4.heap.size := Nat.lt_of_lt_of_le (heapLt HX0.out) (joinB (joinB (joinB hb1 hb2) hb3) hb4).size
  have hgw : w.heap.size ≤ w4.heap.size := (joinB (joinB (joinB (joinB HB0.out hb1) hb2) hb3) hb4).size
  obtain ⟨gx, hge⟩ : ∃ gx, gx = w4.heap.size := ⟨_, rfl⟩
  obtain ⟨W5, hW5⟩ : ∃ W, W = w4.alloc (.cells #[.int .i64 lsn, .int .i64 prev, .int .i64 txn, .int .i64 1, .int .i64 0, .int .i64 0, .int .i64 0, .int .i64 0, .int .i64 0, .string ⟨#[]⟩, .string ⟨#[]⟩, .int .i64 0, .int .i64 0, .string ⟨#[]⟩, .int .i64 0, .int .i64 0, .slice none 0 0, .slice none 0 0] 49) := ⟨_, rfl⟩
  rw [← hge, ← hW5] at HG5
  rw [← hW5] at HB5 HX5
  rw [← hge] at hgx hgw
  rw [← hge, ← hW5]
  clear hge hW5 hb1 hb2 hb3 hb4 hc1 hc2 hcg HBA H1 H2 H3 HX0
  have hcg := blkCell HX5.out
  have HX6 := HX5
  have HG6 := HG5
  have HB6 := HB5
  obtain ⟨W6, hW6⟩ : ∃ W, W = W5 := ⟨_, rfl⟩
  rw [← hW6] at HX6 HG6 HB6
  rw [← hW6]
  clear hW6 HX5 HG5 HB5 hcg
  have hcg := blkCell HX6.out
  have HSA := Lib.hid (rsame_any (⟨lsn, prev, txn, 1, 0, 0, 0, ⟨0, 0, ⟨#[]⟩, ⟨#[]⟩⟩, 0, 0, ⟨⟨#[]⟩, 0, 0⟩, [], []⟩ : Rc.Rec) ⟨lsn, prev, txn, 1, page, next, nu, ⟨ok, os, oo, on⟩, how, root, ⟨ek, ep, es⟩, ts, ds⟩ none A none B 0 c 0 d W6 (recR_nil _ _ rfl rfl) (HRR.out _ HB6.out))
  dsimp only [recV, recA, List.length_nil] at HSA
  generalize decide ((⟨lsn, prev, txn, 1, 0, 0, 0, ⟨0, 0, ⟨#[]⟩, ⟨#[]⟩⟩, 0, 0, ⟨⟨#[]⟩, 0, 0⟩, [], []⟩ : Rc.Rec) = ⟨lsn, prev, txn, 1, page, next, nu, ⟨ok, os, oo, on⟩, how, root, ⟨ek, ep, es⟩, ts, ds⟩) = q at HSA HIF
  go_wp2_with (first | (with_reducible refine listLoad (by kernel_rfl) 49 (.tmp 3) rfl gx rfl #[.int .i64 lsn, .int .i64 prev, .int .i64 txn, .int .i64 1, .int .i64 0, .int .i64 0, .int .i64 0, .int .i64 0, .int .i64 0, .string ⟨#[]⟩, .string ⟨#[]⟩, .int .i64 0, .int .i64 0, .string ⟨#[]⟩, .int .i64 0, .int .i64 0, .slice none 0 0, .slice none 0 0] _ HG6.out _ Try.underlying49 (by kernel_rfl) (by kernel_rfl) ?_) | (with_reducible refine listLoad (by kernel_rfl) 49 (.tmp 1) rfl g rfl #[.int .i64 lsn, .int .i64 prev, .int .i64 txn, .int .i64 1, .int .i64 page, .int .i64 next, .int .i64 nu, .int .i64 ok, .int .i64 os, .string oo, .string on, .int .i64 how, .int .i64 root, .string ek, .int .i64 ep, .int .i64 es, .slice A ts.length c, .slice B ds.length d] _ HX6.out _ Try.underlying49 (by kernel_rfl) (by kernel_rfl) ?_) | (go_at_call 16; (with_reducible refine HSA.out.mono ?_); rintro e w7 ⟨rfl, hb7⟩; have hc7 := blkCell (blkOld HX6.out hb7); have B7 := joinB HB6.out hb7))
  go_ret
  exact ⟨by rw [HIF.out]; rfl, B7⟩
end Go.Proofs.Ytojaagnfjenhoaa
/- The walk over the reference of records: Right, kind 5. -/
namespace Go.Proofs.Ytojaagnfjenhoaa
open Go.RowKit
set_option maxRecDepth 100000 in
set_option maxHeartbeats 8000000 in
theorem rright_5 (lsn prev txn page next nu ok os how root ep es : Int) (oo on ek : ByteArray) (ts : List Rc.TxnAt) (ds : List Rc.DirtyAt) (A B : Option Addr) (c d : Nat) (w : World) (hr : RecR w ⟨lsn, prev, txn, 5, page, next, nu, ⟨ok, os, oo, on⟩, how, root, ⟨ek, ep, es⟩, ts, ds⟩ A c B d) :
    Calls Try.prog 43 #[.agg #[.int .i64 lsn, .int .i64 prev, .int .i64 txn, .int .i64 5, .int .i64 page, .int .i64 next, .int .i64 nu, .int .i64 ok, .int .i64 os, .string oo, .string on, .int .i64 how, .int .i64 root, .string ek, .int .i64 ep, .int .i64 es, .slice A ts.length c, .slice B ds.length d]] w fun e w' => e = .returned (.bool (Rc.rightB ⟨lsn, prev, txn, 5, page, next, nu, ⟨ok, os, oo, on⟩, how, root, ⟨ek, ep, es⟩, ts, ds⟩)) ∧ Below w.heap.size w w' := by
  obtain ⟨z, hz⟩ : ∃ z, z = Rc.rightB ⟨lsn, prev, txn, 5, page, next, nu, ⟨ok, os, oo, on⟩, how, root, ⟨ek, ep, es⟩, ts, ds⟩ := ⟨_, rfl⟩
  rw [← hz]
  have HZ := Lib.hid hz
  clear hz
  obtain ⟨w0, hw0⟩ : ∃ W, W = w.alloc (.cells #[.int .i64 lsn, .int .i64 prev, .int .i64 txn, .int .i64 5, .int .i64 page, .int .i64 next, .int .i64 nu, .int .i64 ok, .int .i64 os, .string oo, .string on, .int .i64 how, .int .i64 root, .string ek, .int .i64 ep, .int .i64 es, .slice A ts.length c, .slice B ds.length d] 49) := ⟨_, rfl⟩
  have HB0 := Lib.hid (show Below w.heap.size w w0 from by rw [hw0]; exact allocB _ _)
  have HX0 := Lib.hid (show w0.heap[w.heap.size]? = some (.cells #[.int .i64 lsn, .int .i64 prev, .int .i64 txn, .int .i64 5, .int .i64 page, .int .i64 next, .int .i64 nu, .int .i64 ok, .int .i64 os, .string oo, .string on, .int .i64 how, .int .i64 root, .string ek, .int .i64 ep, .int .i64 es, .slice A ts.length c, .slice B ds.length d] 49 (0, 0)) from by rw [hw0]; exact heap_alloc_new _ _)
  have HRR := Lib.hid (fun W (hb : Below w.heap.size w W) => hr.below hb)
  clear hr
  go_enter Try.func43, Try.ntmps43
  go_upto_region 1 with fail
  rw [← hw0]
  clear hw0
  obtain ⟨g, hg⟩ : ∃ g, g = w.heap.size := ⟨_, rfl⟩
  rw [← hg] at HX0
  rw [← hg]
  clear hg
  have hcg := blkCell HX0.out
  have H1 := Lib.hid (fun W => rnumber_any lsn W)
  have H2 := Lib.hid (fun W => rnumber_any prev W)
  have H3 := Lib.hid (fun W => rnumber_any txn W)
  have HNO := Lib.hid (show ¬ (Rc.num lsn ∧ Rc.num prev ∧ Rc.num txn) → z = false from fun h => HZ.out.trans (Rc.rightB_no fun hr => h (Rc.r_nums hr)))
  by_cases h1 : Rc.num lsn
  rotate_left
  · rw [decide_eq_false h1] at H1
    have HZ2 := Lib.hid (HNO.out (fun h => h1 h.1))
    clear h1
    go_wp2_with (go_at_call 77; (with_reducible refine (H1.out _).mono ?_); rintro e w1 ⟨rfl, hb1⟩; have hc1 := blkCell (blkOld HX0.out hb1))
    go_ret
    exact ⟨by rw [HZ2.out]; rfl, joinB HB0.out hb1⟩
  by_cases h2 : Rc.num prev
  rotate_left
  · rw [decide_eq_true h1] at H1
    rw [decide_eq_false h2] at H2
    have HZ2 := Lib.hid (HNO.out (fun h => h2 h.2.1))
    clear h1 h2
    go_wp2_with (first | (go_at_call 77; (with_reducible refine (H1.out _).mono ?_); rintro e w1 ⟨rfl, hb1⟩; have hc1 := blkCell (blkOld HX0.out hb1)) | (go_at_call 77; (with_reducible refine (H2.out _).mono ?_); rintro e w2 ⟨rfl, hb2⟩; have hc2 := blkCell (blkOld (blkOld HX0.out hb1) hb2)))
    go_ret
    exact ⟨by rw [HZ2.out]; rfl, joinB HB0.out (joinB hb1 hb2)⟩
  by_cases h3 : Rc.num txn
  rotate_left
  · rw [decide_eq_true h1] at H1
    rw [decide_eq_true h2] at H2
    rw [decide_eq_false h3] at H3
    have HZ2 := Lib.hid (HNO.out (fun h => h3 h.2.2))
    clear h1 h2 h3
    go_wp2_with (first | (go_at_call 77; (with_reducible refine (H1.out _).mono ?_); rintro e w1 ⟨rfl, hb1⟩; have hc1 := blkCell (blkOld HX0.out hb1)) | (go_at_call 77; (with_reducible refine (H2.out _).mono ?_); rintro e w2 ⟨rfl, hb2⟩; have hc2 := blkCell (blkOld (blkOld HX0.out hb1) hb2)) | (go_at_call 77; (with_reducible refine (H3.out _).mono ?_); rintro e w3 ⟨rfl, hb3⟩))
    go_ret
    exact ⟨by rw [HZ2.out]; rfl, joinB HB0.out (joinB (joinB hb1 hb2) hb3)⟩
  rw [decide_eq_true h1] at H1
  rw [decide_eq_true h2] at H2
  rw [decide_eq_true h3] at H3
  have HIF := Lib.hid (show z = decide ((⟨lsn, prev, txn, 5, 0, 0, 0, ⟨0, 0, ⟨#[]⟩, ⟨#[]⟩⟩, 0, 0, ⟨⟨#[]⟩, 0, 0⟩, [], []⟩ : Rc.Rec) = ⟨lsn, prev, txn, 5, page, next, nu, ⟨ok, os, oo, on⟩, how, root, ⟨ek, ep, es⟩, ts, ds⟩) from HZ.out.trans (Rc.rightB_of ((Rc.r_small (by omega) ⟨h1, h2, h3⟩).trans decide_eq_true_iff.symm)))
  clear h1 h2 h3 HNO HZ
  have HBA := Lib.hid (fun W => rbare_any ⟨lsn, prev, txn, 5, page, next, nu, ⟨ok, os, oo, on⟩, how, root, ⟨ek, ep, es⟩, ts, ds⟩ (.slice A ts.length c) (.slice B ds.length d) W)
  dsimp only [recV, recA, Rc.bare, Rc.noOp, Rc.noKey] at HBA
  go_upto_region 4 with (first | (go_at_call 77; (with_reducible refine (H1.out _).mono ?_); rintro e w1 ⟨rfl, hb1⟩; have hc1 := blkCell (blkOld HX0.out hb1)) | (go_at_call 77; (with_reducible refine (H2.out _).mono ?_); rintro e w2 ⟨rfl, hb2⟩; have hc2 := blkCell (blkOld (blkOld HX0.out hb1) hb2)) | (go_at_call 77; (with_reducible refine (H3.out _).mono ?_); rintro e w3 ⟨rfl, hb3⟩) | (with_reducible refine listLoad (by kernel_rfl) 49 (.tmp 1) rfl g rfl #[.int .i64 lsn, .int .i64 prev, .int .i64 txn, .int .i64 5, .int .i64 page, .int .i64 next, .int .i64 nu, .int .i64 ok, .int .i64 os, .string oo, .string on, .int .i64 how, .int .i64 root, .string ek, .int .i64 ep, .int .i64 es, .slice A ts.length c, .slice B ds.length d] _ (blkOld HX0.out (joinB (joinB hb1 hb2) hb3)) _ Try.underlying49 (by kernel_rfl) (by kernel_rfl) ?_) | (go_at_call 78; (with_reducible refine (HBA.out _).mono ?_); rintro e w4 ⟨rfl, hb4⟩) | (with_reducible refine wpList_store_new rfl 49 (.tmp 3) (.tmp 21) rfl #[.int .i64 lsn, .int .i64 prev, .int .i64 txn, .int .i64 5, .int .i64 0, .int .i64 0, .int .i64 0, .int .i64 0, .int .i64 0, .string ⟨#[]⟩, .string ⟨#[]⟩, .int .i64 0, .int .i64 0, .string ⟨#[]⟩, .int .i64 0, .int .i64 0, .slice none 0 0, .slice none 0 0] _ _ rfl (by kernel_rfl) (by kernel_rfl) (by kernel_rfl) (by kernel_rfl) ?_))
  have HB5 := Lib.hid (joinB (joinB (joinB (joinB HB0.out hb1) hb2) hb3) (pastAlloc (o := .cells #[.int .i64 lsn, .int .i64 prev, .int .i64 txn, .int .i64 5, .int .i64 0, .int .i64 0, .int .i64 0, .int .i64 0, .int .i64 0, .string ⟨#[]⟩, .string ⟨#[]⟩, .int .i64 0, .int .i64 0, .string ⟨#[]⟩, .int .i64 0, .int .i64 0, .slice none 0 0, .slice none 0 0] 49) hb4))
  have HX5 := Lib.hid (blkOld HX0.out (joinB (joinB (joinB hb1 hb2) hb3) (pastAlloc (o := .cells #[.int .i64 lsn, .int .i64 prev, .int .i64 txn, .int .i64 5, .int .i64 0, .int .i64 0, .int .i64 0, .int .i64 0, .int .i64 0, .string ⟨#[]⟩, .string ⟨#[]⟩, .int .i64 0, .int .i64 0, .string ⟨#[]⟩, .int .i64 0, .int .i64 0, .slice none 0 0, .slice none 0 0] 49) hb4)))
  have HG5 := Lib.hid (heap_alloc_new w4 (.cells #[.int .i64 lsn, .int .i64 prev, .int .i64 txn, .int .i64 5, .int .i64 0, .int .i64 0, .int .i64 0, .int .i64 0, .int .i64 0, .string ⟨#[]⟩, .string ⟨#[]⟩, .int .i64 0, .int .i64 0, .string ⟨#[]⟩, .int .i64 0, .int .i64 0, .slice none 0 0, .slice none 0 0] 49))
  have hgx : g < w4.heap.size := Nat.lt_of_lt_of_le (heapLt HX0.out) (joinB (joinB (joinB hb1 hb2) hb3) hb4).size
  have hgw : w.heap.size ≤ w4.heap.size := (joinB (joinB (joinB (joinB HB0.out hb1) hb2) hb3) hb4).size
  obtain ⟨gx, hge⟩ : ∃ gx, gx = w4.heap.size := ⟨_, rfl⟩
  obtain ⟨W5, hW5⟩ : ∃ W, W = w4.alloc (.cells #[.int .i64 lsn, .int .i64 prev, .int .i64 txn, .int .i64 5, .int .i64 0, .int .i64 0, .int .i64 0, .int .i64 0, .int .i64 0, .string ⟨#[]⟩, .string ⟨#[]⟩, .int .i64 0, .int .i64 0, .string ⟨#[]⟩, .int .i64 0, .int .i64 0, .slice none 0 0, .slice none 0 0] 49) := ⟨_, rfl⟩
  rw [← hge, ← hW5] at HG5
  rw [← hW5] at HB5 HX5
  rw [← hge] at hgx hgw
  rw [← hge, ← hW5]
  clear hge hW5 hb1 hb2 hb3 hb4 hc1 hc2 hcg HBA H1 H2 H3 HX0
  have hcg := blkCell HX5.out
  have HX6 := HX5
  have HG6 := HG5
  have HB6 := HB5
  obtain ⟨W6, hW6⟩ : ∃ W, W = W5 := ⟨_, rfl⟩
  rw [← hW6] at HX6 HG6 HB6
  rw [← hW6]
  clear hW6 HX5 HG5 HB5 hcg
  have hcg := blkCell HX6.out
  have HSA := Lib.hid (rsame_any (⟨lsn, prev, txn, 5, 0, 0, 0, ⟨0, 0, ⟨#[]⟩, ⟨#[]⟩⟩, 0, 0, ⟨⟨#[]⟩, 0, 0⟩, [], []⟩ : Rc.Rec) ⟨lsn, prev, txn, 5, page, next, nu, ⟨ok, os, oo, on⟩, how, root, ⟨ek, ep, es⟩, ts, ds⟩ none A none B 0 c 0 d W6 (recR_nil _ _ rfl rfl) (HRR.out _ HB6.out))
  dsimp only [recV, recA, List.length_nil] at HSA
  generalize decide ((⟨lsn, prev, txn, 5, 0, 0, 0, ⟨0, 0, ⟨#[]⟩, ⟨#[]⟩⟩, 0, 0, ⟨⟨#[]⟩, 0, 0⟩, [], []⟩ : Rc.Rec) = ⟨lsn, prev, txn, 5, page, next, nu, ⟨ok, os, oo, on⟩, how, root, ⟨ek, ep, es⟩, ts, ds⟩) = q at HSA HIF
  go_wp2_with (first | (with_reducible refine listLoad (by kernel_rfl) 49 (.tmp 3) rfl gx rfl #[.int .i64 lsn, .int .i64 prev, .int .i64 txn, .int .i64 5, .int .i64 0, .int .i64 0, .int .i64 0, .int .i64 0, .int .i64 0, .string ⟨#[]⟩, .string ⟨#[]⟩, .int .i64 0, .int .i64 0, .string ⟨#[]⟩, .int .i64 0, .int .i64 0, .slice none 0 0, .slice none 0 0] _ HG6.out _ Try.underlying49 (by kernel_rfl) (by kernel_rfl) ?_) | (with_reducible refine listLoad (by kernel_rfl) 49 (.tmp 1) rfl g rfl #[.int .i64 lsn, .int .i64 prev, .int .i64 txn, .int .i64 5, .int .i64 page, .int .i64 next, .int .i64 nu, .int .i64 ok, .int .i64 os, .string oo, .string on, .int .i64 how, .int .i64 root, .string ek, .int .i64 ep, .int .i64 es, .slice A ts.length c, .slice B ds.length d] _ HX6.out _ Try.underlying49 (by kernel_rfl) (by kernel_rfl) ?_) | (go_at_call 16; (with_reducible refine HSA.out.mono ?_); rintro e w7 ⟨rfl, hb7⟩; have hc7 := blkCell (blkOld HX6.out hb7); have B7 := joinB HB6.out hb7))
  go_ret
  exact ⟨by rw [HIF.out]; rfl, B7⟩
end Go.Proofs.Ytojaagnfjenhoaa
/- The walk over the reference of records: Right, kind 6. -/
namespace Go.Proofs.Ytojaagnfjenhoaa
open Go.RowKit
set_option maxRecDepth 100000 in
set_option maxHeartbeats 8000000 in
theorem rright_6 (lsn prev txn page next nu ok os how root ep es : Int) (oo on ek : ByteArray) (ts : List Rc.TxnAt) (ds : List Rc.DirtyAt) (A B : Option Addr) (c d : Nat) (w : World) (hr : RecR w ⟨lsn, prev, txn, 6, page, next, nu, ⟨ok, os, oo, on⟩, how, root, ⟨ek, ep, es⟩, ts, ds⟩ A c B d) :
    Calls Try.prog 43 #[.agg #[.int .i64 lsn, .int .i64 prev, .int .i64 txn, .int .i64 6, .int .i64 page, .int .i64 next, .int .i64 nu, .int .i64 ok, .int .i64 os, .string oo, .string on, .int .i64 how, .int .i64 root, .string ek, .int .i64 ep, .int .i64 es, .slice A ts.length c, .slice B ds.length d]] w fun e w' => e = .returned (.bool (Rc.rightB ⟨lsn, prev, txn, 6, page, next, nu, ⟨ok, os, oo, on⟩, how, root, ⟨ek, ep, es⟩, ts, ds⟩)) ∧ Below w.heap.size w w' := by
  obtain ⟨z, hz⟩ : ∃ z, z = Rc.rightB ⟨lsn, prev, txn, 6, page, next, nu, ⟨ok, os, oo, on⟩, how, root, ⟨ek, ep, es⟩, ts, ds⟩ := ⟨_, rfl⟩
  rw [← hz]
  have HZ := Lib.hid hz
  clear hz
  obtain ⟨w0, hw0⟩ : ∃ W, W = w.alloc (.cells #[.int .i64 lsn, .int .i64 prev, .int .i64 txn, .int .i64 6, .int .i64 page, .int .i64 next, .int .i64 nu, .int .i64 ok, .int .i64 os, .string oo, .string on, .int .i64 how, .int .i64 root, .string ek, .int .i64 ep, .int .i64 es, .slice A ts.length c, .slice B ds.length d] 49) := ⟨_, rfl⟩
  have HB0 := Lib.hid (show Below w.heap.size w w0 from by rw [hw0]; exact allocB _ _)
  have HX0 := Lib.hid (show w0.heap[w.heap.size]? = some (.cells #[.int .i64 lsn, .int .i64 prev, .int .i64 txn, .int .i64 6, .int .i64 page, .int .i64 next, .int .i64 nu, .int .i64 ok, .int .i64 os, .string oo, .string on, .int .i64 how, .int .i64 root, .string ek, .int .i64 ep, .int .i64 es, .slice A ts.length c, .slice B ds.length d] 49 (0, 0)) from by rw [hw0]; exact heap_alloc_new _ _)
  have HRR := Lib.hid (fun W (hb : Below w.heap.size w W) => hr.below hb)
  clear hr
  go_enter Try.func43, Try.ntmps43
  go_upto_region 1 with fail
  rw [← hw0]
  clear hw0
  obtain ⟨g, hg⟩ : ∃ g, g = w.heap.size := ⟨_, rfl⟩
  rw [← hg] at HX0
  rw [← hg]
  clear hg
  have hcg := blkCell HX0.out
  have H1 := Lib.hid (fun W => rnumber_any lsn W)
  have H2 := Lib.hid (fun W => rnumber_any prev W)
  have H3 := Lib.hid (fun W => rnumber_any txn W)
  have HNO := Lib.hid (show ¬ (Rc.num lsn ∧ Rc.num prev ∧ Rc.num txn) → z = false from fun h => HZ.out.trans (Rc.rightB_no fun hr => h (Rc.r_nums hr)))
  by_cases h1 : Rc.num lsn
  rotate_left
  · rw [decide_eq_false h1] at H1
    have HZ2 := Lib.hid (HNO.out (fun h => h1 h.1))
    clear h1
    go_wp2_with (go_at_call 77; (with_reducible refine (H1.out _).mono ?_); rintro e w1 ⟨rfl, hb1⟩; have hc1 := blkCell (blkOld HX0.out hb1))
    go_ret
    exact ⟨by rw [HZ2.out]; rfl, joinB HB0.out hb1⟩
  by_cases h2 : Rc.num prev
  rotate_left
  · rw [decide_eq_true h1] at H1
    rw [decide_eq_false h2] at H2
    have HZ2 := Lib.hid (HNO.out (fun h => h2 h.2.1))
    clear h1 h2
    go_wp2_with (first | (go_at_call 77; (with_reducible refine (H1.out _).mono ?_); rintro e w1 ⟨rfl, hb1⟩; have hc1 := blkCell (blkOld HX0.out hb1)) | (go_at_call 77; (with_reducible refine (H2.out _).mono ?_); rintro e w2 ⟨rfl, hb2⟩; have hc2 := blkCell (blkOld (blkOld HX0.out hb1) hb2)))
    go_ret
    exact ⟨by rw [HZ2.out]; rfl, joinB HB0.out (joinB hb1 hb2)⟩
  by_cases h3 : Rc.num txn
  rotate_left
  · rw [decide_eq_true h1] at H1
    rw [decide_eq_true h2] at H2
    rw [decide_eq_false h3] at H3
    have HZ2 := Lib.hid (HNO.out (fun h => h3 h.2.2))
    clear h1 h2 h3
    go_wp2_with (first | (go_at_call 77; (with_reducible refine (H1.out _).mono ?_); rintro e w1 ⟨rfl, hb1⟩; have hc1 := blkCell (blkOld HX0.out hb1)) | (go_at_call 77; (with_reducible refine (H2.out _).mono ?_); rintro e w2 ⟨rfl, hb2⟩; have hc2 := blkCell (blkOld (blkOld HX0.out hb1) hb2)) | (go_at_call 77; (with_reducible refine (H3.out _).mono ?_); rintro e w3 ⟨rfl, hb3⟩))
    go_ret
    exact ⟨by rw [HZ2.out]; rfl, joinB HB0.out (joinB (joinB hb1 hb2) hb3)⟩
  rw [decide_eq_true h1] at H1
  rw [decide_eq_true h2] at H2
  rw [decide_eq_true h3] at H3
  have HIF := Lib.hid (show z = decide ((⟨lsn, prev, txn, 6, 0, 0, 0, ⟨0, 0, ⟨#[]⟩, ⟨#[]⟩⟩, 0, 0, ⟨⟨#[]⟩, 0, 0⟩, [], []⟩ : Rc.Rec) = ⟨lsn, prev, txn, 6, page, next, nu, ⟨ok, os, oo, on⟩, how, root, ⟨ek, ep, es⟩, ts, ds⟩) from HZ.out.trans (Rc.rightB_of ((Rc.r_small (by omega) ⟨h1, h2, h3⟩).trans decide_eq_true_iff.symm)))
  clear h1 h2 h3 HNO HZ
  have HBA := Lib.hid (fun W => rbare_any ⟨lsn, prev, txn, 6, page, next, nu, ⟨ok, os, oo, on⟩, how, root, ⟨ek, ep, es⟩, ts, ds⟩ (.slice A ts.length c) (.slice B ds.length d) W)
  dsimp only [recV, recA, Rc.bare, Rc.noOp, Rc.noKey] at HBA
  go_upto_region 4 with (first | (go_at_call 77; (with_reducible refine (H1.out _).mono ?_); rintro e w1 ⟨rfl, hb1⟩; have hc1 := blkCell (blkOld HX0.out hb1)) | (go_at_call 77; (with_reducible refine (H2.out _).mono ?_); rintro e w2 ⟨rfl, hb2⟩; have hc2 := blkCell (blkOld (blkOld HX0.out hb1) hb2)) | (go_at_call 77; (with_reducible refine (H3.out _).mono ?_); rintro e w3 ⟨rfl, hb3⟩) | (with_reducible refine listLoad (by kernel_rfl) 49 (.tmp 1) rfl g rfl #[.int .i64 lsn, .int .i64 prev, .int .i64 txn, .int .i64 6, .int .i64 page, .int .i64 next, .int .i64 nu, .int .i64 ok, .int .i64 os, .string oo, .string on, .int .i64 how, .int .i64 root, .string ek, .int .i64 ep, .int .i64 es, .slice A ts.length c, .slice B ds.length d] _ (blkOld HX0.out (joinB (joinB hb1 hb2) hb3)) _ Try.underlying49 (by kernel_rfl) (by kernel_rfl) ?_) | (go_at_call 78; (with_reducible refine (HBA.out _).mono ?_); rintro e w4 ⟨rfl, hb4⟩) | (with_reducible refine wpList_store_new rfl 49 (.tmp 3) (.tmp 21) rfl #[.int .i64 lsn, .int .i64 prev, .int .i64 txn, .int .i64 6, .int .i64 0, .int .i64 0, .int .i64 0, .int .i64 0, .int .i64 0, .string ⟨#[]⟩, .string ⟨#[]⟩, .int .i64 0, .int .i64 0, .string ⟨#[]⟩, .int .i64 0, .int .i64 0, .slice none 0 0, .slice none 0 0] _ _ rfl (by kernel_rfl) (by kernel_rfl) (by kernel_rfl) (by kernel_rfl) ?_))
  have HB5 := Lib.hid (joinB (joinB (joinB (joinB HB0.out hb1) hb2) hb3) (pastAlloc (o := .cells #[.int .i64 lsn, .int .i64 prev, .int .i64 txn, .int .i64 6, .int .i64 0, .int .i64 0, .int .i64 0, .int .i64 0, .int .i64 0, .string ⟨#[]⟩, .string ⟨#[]⟩, .int .i64 0, .int .i64 0, .string ⟨#[]⟩, .int .i64 0, .int .i64 0, .slice none 0 0, .slice none 0 0] 49) hb4))
  have HX5 := Lib.hid (blkOld HX0.out (joinB (joinB (joinB hb1 hb2) hb3) (pastAlloc (o := .cells #[.int .i64 lsn, .int .i64 prev, .int .i64 txn, .int .i64 6, .int .i64 0, .int .i64 0, .int .i64 0, .int .i64 0, .int .i64 0, .string ⟨#[]⟩, .string ⟨#[]⟩, .int .i64 0, .int .i64 0, .string ⟨#[]⟩, .int .i64 0, .int .i64 0, .slice none 0 0, .slice none 0 0] 49) hb4)))
  have HG5 := Lib.hid (heap_alloc_new w4 (.cells #[.int .i64 lsn, .int .i64 prev, .int .i64 txn, .int .i64 6, .int .i64 0, .int .i64 0, .int .i64 0, .int .i64 0, .int .i64 0, .string ⟨#[]⟩, .string ⟨#[]⟩, .int .i64 0, .int .i64 0, .string ⟨#[]⟩, .int .i64 0, .int .i64 0, .slice none 0 0, .slice none 0 0] 49))
  have hgx : g < w4.heap.size := Nat.lt_of_lt_of_le (heapLt HX0.out) (joinB (joinB (joinB hb1 hb2) hb3) hb4).size
  have hgw : w.heap.size ≤ w4.heap.size := (joinB (joinB (joinB (joinB HB0.out hb1) hb2) hb3) hb4).size
  obtain ⟨gx, hge⟩ : ∃ gx, gx = w4.heap.size := ⟨_, rfl⟩
  obtain ⟨W5, hW5⟩ : ∃ W, W = w4.alloc (.cells #[.int .i64 lsn, .int .i64 prev, .int .i64 txn, .int .i64 6, .int .i64 0, .int .i64 0, .int .i64 0, .int .i64 0, .int .i64 0, .string ⟨#[]⟩, .string ⟨#[]⟩, .int .i64 0, .int .i64 0, .string ⟨#[]⟩, .int .i64 0, .int .i64 0, .slice none 0 0, .slice none 0 0] 49) := ⟨_, rfl⟩
  rw [← hge, ← hW5] at HG5
  rw [← hW5] at HB5 HX5
  rw [← hge] at hgx hgw
  rw [← hge, ← hW5]
  clear hge hW5 hb1 hb2 hb3 hb4 hc1 hc2 hcg HBA H1 H2 H3 HX0
  have hcg := blkCell HX5.out
  have HX6 := HX5
  have HG6 := HG5
  have HB6 := HB5
  obtain ⟨W6, hW6⟩ : ∃ W, W = W5 := ⟨_, rfl⟩
  rw [← hW6] at HX6 HG6 HB6
  rw [← hW6]
  clear hW6 HX5 HG5 HB5 hcg
  have hcg := blkCell HX6.out
  have HSA := Lib.hid (rsame_any (⟨lsn, prev, txn, 6, 0, 0, 0, ⟨0, 0, ⟨#[]⟩, ⟨#[]⟩⟩, 0, 0, ⟨⟨#[]⟩, 0, 0⟩, [], []⟩ : Rc.Rec) ⟨lsn, prev, txn, 6, page, next, nu, ⟨ok, os, oo, on⟩, how, root, ⟨ek, ep, es⟩, ts, ds⟩ none A none B 0 c 0 d W6 (recR_nil _ _ rfl rfl) (HRR.out _ HB6.out))
  dsimp only [recV, recA, List.length_nil] at HSA
  generalize decide ((⟨lsn, prev, txn, 6, 0, 0, 0, ⟨0, 0, ⟨#[]⟩, ⟨#[]⟩⟩, 0, 0, ⟨⟨#[]⟩, 0, 0⟩, [], []⟩ : Rc.Rec) = ⟨lsn, prev, txn, 6, page, next, nu, ⟨ok, os, oo, on⟩, how, root, ⟨ek, ep, es⟩, ts, ds⟩) = q at HSA HIF
  go_wp2_with (first | (with_reducible refine listLoad (by kernel_rfl) 49 (.tmp 3) rfl gx rfl #[.int .i64 lsn, .int .i64 prev, .int .i64 txn, .int .i64 6, .int .i64 0, .int .i64 0, .int .i64 0, .int .i64 0, .int .i64 0, .string ⟨#[]⟩, .string ⟨#[]⟩, .int .i64 0, .int .i64 0, .string ⟨#[]⟩, .int .i64 0, .int .i64 0, .slice none 0 0, .slice none 0 0] _ HG6.out _ Try.underlying49 (by kernel_rfl) (by kernel_rfl) ?_) | (with_reducible refine listLoad (by kernel_rfl) 49 (.tmp 1) rfl g rfl #[.int .i64 lsn, .int .i64 prev, .int .i64 txn, .int .i64 6, .int .i64 page, .int .i64 next, .int .i64 nu, .int .i64 ok, .int .i64 os, .string oo, .string on, .int .i64 how, .int .i64 root, .string ek, .int .i64 ep, .int .i64 es, .slice A ts.length c, .slice B ds.length d] _ HX6.out _ Try.underlying49 (by kernel_rfl) (by kernel_rfl) ?_) | (go_at_call 16; (with_reducible refine HSA.out.mono ?_); rintro e w7 ⟨rfl, hb7⟩; have hc7 := blkCell (blkOld HX6.out hb7); have B7 := joinB HB6.out hb7))
  go_ret
  exact ⟨by rw [HIF.out]; rfl, B7⟩
end Go.Proofs.Ytojaagnfjenhoaa
/- The walk over the reference of records: Right, kind 7. -/
namespace Go.Proofs.Ytojaagnfjenhoaa
open Go.RowKit
set_option maxRecDepth 100000 in
set_option maxHeartbeats 8000000 in
theorem rright_7 (lsn prev txn page next nu ok os how root ep es : Int) (oo on ek : ByteArray) (ts : List Rc.TxnAt) (ds : List Rc.DirtyAt) (A B : Option Addr) (c d : Nat) (w : World) (hr : RecR w ⟨lsn, prev, txn, 7, page, next, nu, ⟨ok, os, oo, on⟩, how, root, ⟨ek, ep, es⟩, ts, ds⟩ A c B d) :
    Calls Try.prog 43 #[.agg #[.int .i64 lsn, .int .i64 prev, .int .i64 txn, .int .i64 7, .int .i64 page, .int .i64 next, .int .i64 nu, .int .i64 ok, .int .i64 os, .string oo, .string on, .int .i64 how, .int .i64 root, .string ek, .int .i64 ep, .int .i64 es, .slice A ts.length c, .slice B ds.length d]] w fun e w' => e = .returned (.bool (Rc.rightB ⟨lsn, prev, txn, 7, page, next, nu, ⟨ok, os, oo, on⟩, how, root, ⟨ek, ep, es⟩, ts, ds⟩)) ∧ Below w.heap.size w w' := by
  obtain ⟨z, hz⟩ : ∃ z, z = Rc.rightB ⟨lsn, prev, txn, 7, page, next, nu, ⟨ok, os, oo, on⟩, how, root, ⟨ek, ep, es⟩, ts, ds⟩ := ⟨_, rfl⟩
  rw [← hz]
  have HZ := Lib.hid hz
  clear hz
  obtain ⟨w0, hw0⟩ : ∃ W, W = w.alloc (.cells #[.int .i64 lsn, .int .i64 prev, .int .i64 txn, .int .i64 7, .int .i64 page, .int .i64 next, .int .i64 nu, .int .i64 ok, .int .i64 os, .string oo, .string on, .int .i64 how, .int .i64 root, .string ek, .int .i64 ep, .int .i64 es, .slice A ts.length c, .slice B ds.length d] 49) := ⟨_, rfl⟩
  have HB0 := Lib.hid (show Below w.heap.size w w0 from by rw [hw0]; exact allocB _ _)
  have HX0 := Lib.hid (show w0.heap[w.heap.size]? = some (.cells #[.int .i64 lsn, .int .i64 prev, .int .i64 txn, .int .i64 7, .int .i64 page, .int .i64 next, .int .i64 nu, .int .i64 ok, .int .i64 os, .string oo, .string on, .int .i64 how, .int .i64 root, .string ek, .int .i64 ep, .int .i64 es, .slice A ts.length c, .slice B ds.length d] 49 (0, 0)) from by rw [hw0]; exact heap_alloc_new _ _)
  have HRR := Lib.hid (fun W (hb : Below w.heap.size w W) => hr.below hb)
  clear hr
  go_enter Try.func43, Try.ntmps43
  go_upto_region 1 with fail
  rw [← hw0]
  clear hw0
  obtain ⟨g, hg⟩ : ∃ g, g = w.heap.size := ⟨_, rfl⟩
  rw [← hg] at HX0
  rw [← hg]
  clear hg
  have hcg := blkCell HX0.out
  have H1 := Lib.hid (fun W => rnumber_any lsn W)
  have H2 := Lib.hid (fun W => rnumber_any prev W)
  have H3 := Lib.hid (fun W => rnumber_any txn W)
  have HNO := Lib.hid (show ¬ (Rc.num lsn ∧ Rc.num prev ∧ Rc.num txn) → z = false from fun h => HZ.out.trans (Rc.rightB_no fun hr => h (Rc.r_nums hr)))
  by_cases h1 : Rc.num lsn
  rotate_left
  · rw [decide_eq_false h1] at H1
    have HZ2 := Lib.hid (HNO.out (fun h => h1 h.1))
    clear h1
    go_wp2_with (go_at_call 77; (with_reducible refine (H1.out _).mono ?_); rintro e w1 ⟨rfl, hb1⟩; have hc1 := blkCell (blkOld HX0.out hb1))
    go_ret
    exact ⟨by rw [HZ2.out]; rfl, joinB HB0.out hb1⟩
  by_cases h2 : Rc.num prev
  rotate_left
  · rw [decide_eq_true h1] at H1
    rw [decide_eq_false h2] at H2
    have HZ2 := Lib.hid (HNO.out (fun h => h2 h.2.1))
    clear h1 h2
    go_wp2_with (first | (go_at_call 77; (with_reducible refine (H1.out _).mono ?_); rintro e w1 ⟨rfl, hb1⟩; have hc1 := blkCell (blkOld HX0.out hb1)) | (go_at_call 77; (with_reducible refine (H2.out _).mono ?_); rintro e w2 ⟨rfl, hb2⟩; have hc2 := blkCell (blkOld (blkOld HX0.out hb1) hb2)))
    go_ret
    exact ⟨by rw [HZ2.out]; rfl, joinB HB0.out (joinB hb1 hb2)⟩
  by_cases h3 : Rc.num txn
  rotate_left
  · rw [decide_eq_true h1] at H1
    rw [decide_eq_true h2] at H2
    rw [decide_eq_false h3] at H3
    have HZ2 := Lib.hid (HNO.out (fun h => h3 h.2.2))
    clear h1 h2 h3
    go_wp2_with (first | (go_at_call 77; (with_reducible refine (H1.out _).mono ?_); rintro e w1 ⟨rfl, hb1⟩; have hc1 := blkCell (blkOld HX0.out hb1)) | (go_at_call 77; (with_reducible refine (H2.out _).mono ?_); rintro e w2 ⟨rfl, hb2⟩; have hc2 := blkCell (blkOld (blkOld HX0.out hb1) hb2)) | (go_at_call 77; (with_reducible refine (H3.out _).mono ?_); rintro e w3 ⟨rfl, hb3⟩))
    go_ret
    exact ⟨by rw [HZ2.out]; rfl, joinB HB0.out (joinB (joinB hb1 hb2) hb3)⟩
  rw [decide_eq_true h1] at H1
  rw [decide_eq_true h2] at H2
  rw [decide_eq_true h3] at H3
  have HIF := Lib.hid (show z = decide ((⟨lsn, prev, txn, 7, 0, 0, 0, ⟨0, 0, ⟨#[]⟩, ⟨#[]⟩⟩, 0, 0, ⟨⟨#[]⟩, 0, 0⟩, [], []⟩ : Rc.Rec) = ⟨lsn, prev, txn, 7, page, next, nu, ⟨ok, os, oo, on⟩, how, root, ⟨ek, ep, es⟩, ts, ds⟩) from HZ.out.trans (Rc.rightB_of ((Rc.r_small (by omega) ⟨h1, h2, h3⟩).trans decide_eq_true_iff.symm)))
  clear h1 h2 h3 HNO HZ
  have HBA := Lib.hid (fun W => rbare_any ⟨lsn, prev, txn, 7, page, next, nu, ⟨ok, os, oo, on⟩, how, root, ⟨ek, ep, es⟩, ts, ds⟩ (.slice A ts.length c) (.slice B ds.length d) W)
  dsimp only [recV, recA, Rc.bare, Rc.noOp, Rc.noKey] at HBA
  go_upto_region 4 with (first | (go_at_call 77; (with_reducible refine (H1.out _).mono ?_); rintro e w1 ⟨rfl, hb1⟩; have hc1 := blkCell (blkOld HX0.out hb1)) | (go_at_call 77; (with_reducible refine (H2.out _).mono ?_); rintro e w2 ⟨rfl, hb2⟩; have hc2 := blkCell (blkOld (blkOld HX0.out hb1) hb2)) | (go_at_call 77; (with_reducible refine (H3.out _).mono ?_); rintro e w3 ⟨rfl, hb3⟩) | (with_reducible refine listLoad (by kernel_rfl) 49 (.tmp 1) rfl g rfl #[.int .i64 lsn, .int .i64 prev, .int .i64 txn, .int .i64 7, .int .i64 page, .int .i64 next, .int .i64 nu, .int .i64 ok, .int .i64 os, .string oo, .string on, .int .i64 how, .int .i64 root, .string ek, .int .i64 ep, .int .i64 es, .slice A ts.length c, .slice B ds.length d] _ (blkOld HX0.out (joinB (joinB hb1 hb2) hb3)) _ Try.underlying49 (by kernel_rfl) (by kernel_rfl) ?_) | (go_at_call 78; (with_reducible refine (HBA.out _).mono ?_); rintro e w4 ⟨rfl, hb4⟩) | (with_reducible refine wpList_store_new rfl 49 (.tmp 3) (.tmp 21) rfl #[.int .i64 lsn, .int .i64 prev, .int .i64 txn, .int .i64 7, .int .i64 0, .int .i64 0, .int .i64 0, .int .i64 0, .int .i64 0, .string ⟨#[]⟩, .string ⟨#[]⟩, .int .i64 0, .int .i64 0, .string ⟨#[]⟩, .int .i64 0, .int .i64 0, .slice none 0 0, .slice none 0 0] _ _ rfl (by kernel_rfl) (by kernel_rfl) (by kernel_rfl) (by kernel_rfl) ?_))
  have HB5 := Lib.hid (joinB (joinB (joinB (joinB HB0.out hb1) hb2) hb3) (pastAlloc (o := .cells #[.int .i64 lsn, .int .i64 prev, .int .i64 txn, .int .i64 7, .int .i64 0, .int .i64 0, .int .i64 0, .int .i64 0, .int .i64 0, .string ⟨#[]⟩, .string ⟨#[]⟩, .int .i64 0, .int .i64 0, .string ⟨#[]⟩, .int .i64 0, .int .i64 0, .slice none 0 0, .slice none 0 0] 49) hb4))
  have HX5 := Lib.hid (blkOld HX0.out (joinB (joinB (joinB hb1 hb2) hb3) (pastAlloc (o := .cells #[.int .i64 lsn, .int .i64 prev, .int .i64 txn, .int .i64 7, .int .i64 0, .int .i64 0, .int .i64 0, .int .i64 0, .int .i64 0, .string ⟨#[]⟩, .string ⟨#[]⟩, .int .i64 0, .int .i64 0, .string ⟨#[]⟩, .int .i64 0, .int .i64 0, .slice none 0 0, .slice none 0 0] 49) hb4)))
  have HG5 := Lib.hid (heap_alloc_new w4 (.cells #[.int .i64 lsn, .int .i64 prev, .int .i64 txn, .int .i64 7, .int .i64 0, .int .i64 0, .int .i64 0, .int .i64 0, .int .i64 0, .string ⟨#[]⟩, .string ⟨#[]⟩, .int .i64 0, .int .i64 0, .string ⟨#[]⟩, .int .i64 0, .int .i64 0, .slice none 0 0, .slice none 0 0] 49))
  have hgx : g < w4.heap.size := Nat.lt_of_lt_of_le (heapLt HX0.out) (joinB (joinB (joinB hb1 hb2) hb3) hb4).size
  have hgw : w.heap.size ≤ w4.heap.size := (joinB (joinB (joinB (joinB HB0.out hb1) hb2) hb3) hb4).size
  obtain ⟨gx, hge⟩ : ∃ gx, gx = w4.heap.size := ⟨_, rfl⟩
  obtain ⟨W5, hW5⟩ : ∃ W, W = w4.alloc (.cells #[.int .i64 lsn, .int .i64 prev, .int .i64 txn, .int .i64 7, .int .i64 0, .int .i64 0, .int .i64 0, .int .i64 0, .int .i64 0, .string ⟨#[]⟩, .string ⟨#[]⟩, .int .i64 0, .int .i64 0, .string ⟨#[]⟩, .int .i64 0, .int .i64 0, .slice none 0 0, .slice none 0 0] 49) := ⟨_, rfl⟩
  rw [← hge, ← hW5] at HG5
  rw [← hW5] at HB5 HX5
  rw [← hge] at hgx hgw
  rw [← hge, ← hW5]
  clear hge hW5 hb1 hb2 hb3 hb4 hc1 hc2 hcg HBA H1 H2 H3 HX0
  have hcg := blkCell HX5.out
  have HX6 := HX5
  have HG6 := HG5
  have HB6 := HB5
  obtain ⟨W6, hW6⟩ : ∃ W, W = W5 := ⟨_, rfl⟩
  rw [← hW6] at HX6 HG6 HB6
  rw [← hW6]
  clear hW6 HX5 HG5 HB5 hcg
  have hcg := blkCell HX6.out
  have HSA := Lib.hid (rsame_any (⟨lsn, prev, txn, 7, 0, 0, 0, ⟨0, 0, ⟨#[]⟩, ⟨#[]⟩⟩, 0, 0, ⟨⟨#[]⟩, 0, 0⟩, [], []⟩ : Rc.Rec) ⟨lsn, prev, txn, 7, page, next, nu, ⟨ok, os, oo, on⟩, how, root, ⟨ek, ep, es⟩, ts, ds⟩ none A none B 0 c 0 d W6 (recR_nil _ _ rfl rfl) (HRR.out _ HB6.out))
  dsimp only [recV, recA, List.length_nil] at HSA
  generalize decide ((⟨lsn, prev, txn, 7, 0, 0, 0, ⟨0, 0, ⟨#[]⟩, ⟨#[]⟩⟩, 0, 0, ⟨⟨#[]⟩, 0, 0⟩, [], []⟩ : Rc.Rec) = ⟨lsn, prev, txn, 7, page, next, nu, ⟨ok, os, oo, on⟩, how, root, ⟨ek, ep, es⟩, ts, ds⟩) = q at HSA HIF
  go_wp2_with (first | (with_reducible refine listLoad (by kernel_rfl) 49 (.tmp 3) rfl gx rfl #[.int .i64 lsn, .int .i64 prev, .int .i64 txn, .int .i64 7, .int .i64 0, .int .i64 0, .int .i64 0, .int .i64 0, .int .i64 0, .string ⟨#[]⟩, .string ⟨#[]⟩, .int .i64 0, .int .i64 0, .string ⟨#[]⟩, .int .i64 0, .int .i64 0, .slice none 0 0, .slice none 0 0] _ HG6.out _ Try.underlying49 (by kernel_rfl) (by kernel_rfl) ?_) | (with_reducible refine listLoad (by kernel_rfl) 49 (.tmp 1) rfl g rfl #[.int .i64 lsn, .int .i64 prev, .int .i64 txn, .int .i64 7, .int .i64 page, .int .i64 next, .int .i64 nu, .int .i64 ok, .int .i64 os, .string oo, .string on, .int .i64 how, .int .i64 root, .string ek, .int .i64 ep, .int .i64 es, .slice A ts.length c, .slice B ds.length d] _ HX6.out _ Try.underlying49 (by kernel_rfl) (by kernel_rfl) ?_) | (go_at_call 16; (with_reducible refine HSA.out.mono ?_); rintro e w7 ⟨rfl, hb7⟩; have hc7 := blkCell (blkOld HX6.out hb7); have B7 := joinB HB6.out hb7))
  go_ret
  exact ⟨by rw [HIF.out]; rfl, B7⟩
end Go.Proofs.Ytojaagnfjenhoaa
/- The walk over the reference of records: Right of any record. -/
namespace Go.Proofs.Ytojaagnfjenhoaa
open Go.RowKit
set_option maxRecDepth 100000 in
set_option maxHeartbeats 4000000 in
theorem rright_other (lsn prev txn kind page next nu ok os how root ep es : Int) (oo on ek : ByteArray) (ts : List Rc.TxnAt) (ds : List Rc.DirtyAt) (A B : Option Addr) (c d : Nat) (hk : ¬ (1 ≤ kind ∧ kind ≤ 9)) (w : World) :
    Calls Try.prog 43 #[.agg #[.int .i64 lsn, .int .i64 prev, .int .i64 txn, .int .i64 kind, .int .i64 page, .int .i64 next, .int .i64 nu, .int .i64 ok, .int .i64 os, .string oo, .string on, .int .i64 how, .int .i64 root, .string ek, .int .i64 ep, .int .i64 es, .slice A ts.length c, .slice B ds.length d]] w fun e w' => e = .returned (.bool false) ∧ Below w.heap.size w w' := by
  obtain ⟨w0, hw0⟩ : ∃ W, W = w.alloc (.cells #[.int .i64 lsn, .int .i64 prev, .int .i64 txn, .int .i64 kind, .int .i64 page, .int .i64 next, .int .i64 nu, .int .i64 ok, .int .i64 os, .string oo, .string on, .int .i64 how, .int .i64 root, .string ek, .int .i64 ep, .int .i64 es, .slice A ts.length c, .slice B ds.length d] 49) := ⟨_, rfl⟩
  have HB0 := Lib.hid (show Below w.heap.size w w0 from by rw [hw0]; exact allocB _ _)
  have HX0 := Lib.hid (show w0.heap[w.heap.size]? = some (.cells #[.int .i64 lsn, .int .i64 prev, .int .i64 txn, .int .i64 kind, .int .i64 page, .int .i64 next, .int .i64 nu, .int .i64 ok, .int .i64 os, .string oo, .string on, .int .i64 how, .int .i64 root, .string ek, .int .i64 ep, .int .i64 es, .slice A ts.length c, .slice B ds.length d] 49 (0, 0)) from by rw [hw0]; exact heap_alloc_new _ _)
  have k1 : (kind == 1) = false := by simp; omega
  have k2 : (kind == 2) = false := by simp; omega
  have k3 : (kind == 3) = false := by simp; omega
  have k4 : (kind == 4) = false := by simp; omega
  have k5 : (kind == 5) = false := by simp; omega
  have k6 : (kind == 6) = false := by simp; omega
  have k7 : (kind == 7) = false := by simp; omega
  have k8 : (kind == 8) = false := by simp; omega
  have k9 : (kind == 9) = false := by simp; omega
  go_enter Try.func43, Try.ntmps43
  go_upto_region 1 with fail
  rw [← hw0]
  clear hw0 hk
  obtain ⟨g, hg⟩ : ∃ g, g = w.heap.size := ⟨_, rfl⟩
  rw [← hg] at HX0
  rw [← hg]
  clear hg
  have hcg := blkCell HX0.out
  have H1 := Lib.hid (fun W => rnumber_any lsn W)
  have H2 := Lib.hid (fun W => rnumber_any prev W)
  have H3 := Lib.hid (fun W => rnumber_any txn W)
  by_cases h1 : Rc.num lsn
  rotate_left
  · rw [decide_eq_false h1] at H1
    clear h1
    go_wp2_with (go_at_call 77; (with_reducible refine (H1.out _).mono ?_); rintro e w1 ⟨rfl, hb1⟩)
    go_ret
    exact ⟨rfl, joinB HB0.out hb1⟩
  by_cases h2 : Rc.num prev
  rotate_left
  · rw [decide_eq_true h1] at H1
    rw [decide_eq_false h2] at H2
    clear h1 h2
    go_wp2_with (first | (go_at_call 77; (with_reducible refine (H1.out _).mono ?_); rintro e w1 ⟨rfl, hb1⟩; have hc1 := blkCell (blkOld HX0.out hb1)) | (go_at_call 77; (with_reducible refine (H2.out _).mono ?_); rintro e w2 ⟨rfl, hb2⟩))
    go_ret
    exact ⟨rfl, joinB HB0.out (joinB hb1 hb2)⟩
  rw [decide_eq_true h1] at H1
  rw [decide_eq_true h2] at H2
  clear h1 h2
  generalize decide (Rc.num txn) = q at H3
  have HBA := Lib.hid (fun W => rbare_any ⟨lsn, prev, txn, kind, page, next, nu, ⟨ok, os, oo, on⟩, how, root, ⟨ek, ep, es⟩, ts, ds⟩ (.slice A ts.length c) (.slice B ds.length d) W)
  dsimp only [recV, recA, Rc.bare, Rc.noOp, Rc.noKey] at HBA
  cases q with
  | false =>
    go_wp2_with (first | (go_at_call 77; (with_reducible refine (H1.out _).mono ?_); rintro e w1 ⟨rfl, hb1⟩; have hc1 := blkCell (blkOld HX0.out hb1)) | (go_at_call 77; (with_reducible refine (H2.out _).mono ?_); rintro e w2 ⟨rfl, hb2⟩; have hc2 := blkCell (blkOld (blkOld HX0.out hb1) hb2)) | (go_at_call 77; (with_reducible refine (H3.out _).mono ?_); rintro e w3 ⟨rfl, hb3⟩))
    go_ret
    exact ⟨rfl, joinB HB0.out (joinB (joinB hb1 hb2) hb3)⟩
  | true =>
    go_upto_region 4 with (first | (go_at_call 77; (with_reducible refine (H1.out _).mono ?_); rintro e w1 ⟨rfl, hb1⟩; have hc1 := blkCell (blkOld HX0.out hb1)) | (go_at_call 77; (with_reducible refine (H2.out _).mono ?_); rintro e w2 ⟨rfl, hb2⟩; have hc2 := blkCell (blkOld (blkOld HX0.out hb1) hb2)) | (go_at_call 77; (with_reducible refine (H3.out _).mono ?_); rintro e w3 ⟨rfl, hb3⟩) | (with_reducible refine listLoad (by kernel_rfl) 49 (.tmp 1) rfl g rfl #[.int .i64 lsn, .int .i64 prev, .int .i64 txn, .int .i64 kind, .int .i64 page, .int .i64 next, .int .i64 nu, .int .i64 ok, .int .i64 os, .string oo, .string on, .int .i64 how, .int .i64 root, .string ek, .int .i64 ep, .int .i64 es, .slice A ts.length c, .slice B ds.length d] _ (blkOld HX0.out (joinB (joinB hb1 hb2) hb3)) _ Try.underlying49 (by kernel_rfl) (by kernel_rfl) ?_) | (go_at_call 78; (with_reducible refine (HBA.out _).mono ?_); rintro e w4 ⟨rfl, hb4⟩; have hc4 := blkCell (blkOld HX0.out (pastAlloc (o := .cells #[.int .i64 lsn, .int .i64 prev, .int .i64 txn, .int .i64 kind, .int .i64 0, .int .i64 0, .int .i64 0, .int .i64 0, .int .i64 0, .string ⟨#[]⟩, .string ⟨#[]⟩, .int .i64 0, .int .i64 0, .string ⟨#[]⟩, .int .i64 0, .int .i64 0, .slice none 0 0, .slice none 0 0] 49) (joinB (joinB (joinB hb1 hb2) hb3) hb4)))) | (with_reducible refine wpList_store_new rfl 49 (.tmp 3) (.tmp 21) rfl #[.int .i64 lsn, .int .i64 prev, .int .i64 txn, .int .i64 kind, .int .i64 0, .int .i64 0, .int .i64 0, .int .i64 0, .int .i64 0, .string ⟨#[]⟩, .string ⟨#[]⟩, .int .i64 0, .int .i64 0, .string ⟨#[]⟩, .int .i64 0, .int .i64 0, .slice none 0 0, .slice none 0 0] _ _ rfl (by kernel_rfl) (by kernel_rfl) (by kernel_rfl) (by kernel_rfl) ?_))
    go_wp2_with fail
    go_ret
    exact ⟨rfl, joinB HB0.out (pastAlloc (joinB (joinB (joinB hb1 hb2) hb3) hb4))⟩
/-- The reference's Right, of any record. -/
theorem rright_any (r : Rc.Rec) (A B : Option Addr) (c d : Nat) (w : World) (hr : RecR w r A c B d) :
    Calls Try.prog 43 #[recV r (.slice A r.txns.length c) (.slice B r.dirty.length d)] w fun e w' => e = .returned (.bool (Rc.rightB r)) ∧ Below w.heap.size w w' := by
  obtain ⟨lsn, prev, txn, kind, page, next, nu, ⟨ok, os, oo, on⟩, how, root, ⟨ek, ep, es⟩, ts, ds⟩ := r
  dsimp only [recV, recA]
  by_cases hk : 1 ≤ kind ∧ kind ≤ 9
  · have h9 : kind = 1 ∨ kind = 2 ∨ kind = 3 ∨ kind = 4 ∨ kind = 5 ∨ kind = 6 ∨ kind = 7 ∨ kind = 8 ∨ kind = 9 := by omega
    rcases h9 with rfl | rfl | rfl | rfl | rfl | rfl | rfl | rfl | rfl
    · exact rright_1 _ _ _ _ _ _ _ _ _ _ _ _ _ _ _ _ _ _ _ _ _ w hr
    · exact rright_2 _ _ _ _ _ _ _ _ _ _ _ _ _ _ _ _ _ _ _ _ _ w hr
    · exact rright_3 _ _ _ _ _ _ _ _ _ _ _ _ _ _ _ _ _ _ _ _ _ w hr
    · exact rright_4 _ _ _ _ _ _ _ _ _ _ _ _ _ _ _ _ _ _ _ _ _ w hr
    · exact rright_5 _ _ _ _ _ _ _ _ _ _ _ _ _ _ _ _ _ _ _ _ _ w hr
    · exact rright_6 _ _ _ _ _ _ _ _ _ _ _ _ _ _ _ _ _ _ _ _ _ w hr
    · exact rright_7 _ _ _ _ _ _ _ _ _ _ _ _ _ _ _ _ _ _ _ _ _ w hr
    · exact rright_8 _ _ _ _ _ _ _ _ _ _ _ _ _ _ _ _ _ _ _ _ _ w hr
    · exact rright_9 _ _ _ _ _ _ _ _ _ _ _ _ _ _ _ _ _ _ _ _ _ w hr
  · rw [Rc.rightB_no (Rc.r_other hk)]
    exact rright_other _ _ _ _ _ _ _ _ _ _ _ _ _ _ _ _ _ _ _ _ _ _ hk w
end Go.Proofs.Ytojaagnfjenhoaa
