/- The walk over the reference of records: Right, kind 1. -/
import Derived.Test.YthfglhafphfhiaaGreatGp13
import Derived.Test.YthfglhafphfhiaaGreatGp04
import Derived.Test.YthfglhafphfhiaaGreatGp01
import Derived.Test.YthfglhafphfhiaaGreatGp03
import Derived.Test.YthfglhafphfhiaaGreatGp05
import Derived.BigRegion
namespace Go.Proofs.YthfglhafphfhiaaGreat
open Go.RowKit
set_option maxRecDepth 100000 in
set_option maxHeartbeats 8000000 in
theorem rright_1 (lsn prev txn page next nu ok os how root ep es : Int) (oo on ek : ByteArray) (ts : List Rc.TxnAt) (ds : List Rc.DirtyAt) (A B : Option Addr) (c d : Nat) (w : World) (hr : RecR w ⟨lsn, prev, txn, 1, page, next, nu, ⟨ok, os, oo, on⟩, how, root, ⟨ek, ep, es⟩, ts, ds⟩ A c B d) :
    Calls Tryz.prog 110 #[.agg #[.int .i64 lsn, .int .i64 prev, .int .i64 txn, .int .i64 1, .int .i64 page, .int .i64 next, .int .i64 nu, .int .i64 ok, .int .i64 os, .string oo, .string on, .int .i64 how, .int .i64 root, .string ek, .int .i64 ep, .int .i64 es, .slice A ts.length c, .slice B ds.length d]] w fun e w' => e = .returned (.bool (Rc.rightB ⟨lsn, prev, txn, 1, page, next, nu, ⟨ok, os, oo, on⟩, how, root, ⟨ek, ep, es⟩, ts, ds⟩)) ∧ Below w.heap.size w w' := by
  obtain ⟨z, hz⟩ : ∃ z, z = Rc.rightB ⟨lsn, prev, txn, 1, page, next, nu, ⟨ok, os, oo, on⟩, how, root, ⟨ek, ep, es⟩, ts, ds⟩ := ⟨_, rfl⟩
  rw [← hz]
  have HZ := Lib.hid hz
  clear hz
  obtain ⟨w0, hw0⟩ : ∃ W, W = w.alloc (.cells #[.int .i64 lsn, .int .i64 prev, .int .i64 txn, .int .i64 1, .int .i64 page, .int .i64 next, .int .i64 nu, .int .i64 ok, .int .i64 os, .string oo, .string on, .int .i64 how, .int .i64 root, .string ek, .int .i64 ep, .int .i64 es, .slice A ts.length c, .slice B ds.length d] 85) := ⟨_, rfl⟩
  have HB0 := Lib.hid (show Below w.heap.size w w0 from by rw [hw0]; exact allocB _ _)
  have HX0 := Lib.hid (show w0.heap[w.heap.size]? = some (.cells #[.int .i64 lsn, .int .i64 prev, .int .i64 txn, .int .i64 1, .int .i64 page, .int .i64 next, .int .i64 nu, .int .i64 ok, .int .i64 os, .string oo, .string on, .int .i64 how, .int .i64 root, .string ek, .int .i64 ep, .int .i64 es, .slice A ts.length c, .slice B ds.length d] 85 (0, 0)) from by rw [hw0]; exact heap_alloc_new _ _)
  have HRR := Lib.hid (fun W (hb : Below w.heap.size w W) => hr.below hb)
  clear hr
  go_enter Tryz.func110, Tryz.ntmps110
  go_upto_region 1 with fail
  rw [← hw0]
  clear hw0
  obtain ⟨g, hg⟩ : ∃ g, g = w.heap.size := ⟨_, rfl⟩
  rw [← hg] at HX0
  rw [← hg]
  clear hg
  have hcg := blkCell HX0.out
  have H1 := Lib.hid (fun W => rnumber_any lsn W)
  have H2 := Lib.hid (fun W => rnumber_any prev W)
  have H3 := Lib.hid (fun W => rnumber_any txn W)
  have HNO := Lib.hid (show ¬ (Rc.num lsn ∧ Rc.num prev ∧ Rc.num txn) → z = false from fun h => HZ.out.trans (Rc.rightB_no fun hr => h (Rc.r_nums hr)))
  by_cases h1 : Rc.num lsn
  rotate_left
  · rw [decide_eq_false h1] at H1
    have HZ2 := Lib.hid (HNO.out (fun h => h1 h.1))
    clear h1
    go_wp2_with (go_at_call 135; (with_reducible refine (H1.out _).mono ?_); rintro e w1 ⟨rfl, hb1⟩; have hc1 := blkCell (blkOld HX0.out hb1))
    go_ret
    exact ⟨by rw [HZ2.out]; rfl, joinB HB0.out hb1⟩
  by_cases h2 : Rc.num prev
  rotate_left
  · rw [decide_eq_true h1] at H1
    rw [decide_eq_false h2] at H2
    have HZ2 := Lib.hid (HNO.out (fun h => h2 h.2.1))
    clear h1 h2
    go_wp2_with (first | (go_at_call 135; (with_reducible refine (H1.out _).mono ?_); rintro e w1 ⟨rfl, hb1⟩; have hc1 := blkCell (blkOld HX0.out hb1)) | (go_at_call 135; (with_reducible refine (H2.out _).mono ?_); rintro e w2 ⟨rfl, hb2⟩; have hc2 := blkCell (blkOld (blkOld HX0.out hb1) hb2)))
    go_ret
    exact ⟨by rw [HZ2.out]; rfl, joinB HB0.out (joinB hb1 hb2)⟩
  by_cases h3 : Rc.num txn
  rotate_left
  · rw [decide_eq_true h1] at H1
    rw [decide_eq_true h2] at H2
    rw [decide_eq_false h3] at H3
    have HZ2 := Lib.hid (HNO.out (fun h => h3 h.2.2))
    clear h1 h2 h3
    go_wp2_with (first | (go_at_call 135; (with_reducible refine (H1.out _).mono ?_); rintro e w1 ⟨rfl, hb1⟩; have hc1 := blkCell (blkOld HX0.out hb1)) | (go_at_call 135; (with_reducible refine (H2.out _).mono ?_); rintro e w2 ⟨rfl, hb2⟩; have hc2 := blkCell (blkOld (blkOld HX0.out hb1) hb2)) | (go_at_call 135; (with_reducible refine (H3.out _).mono ?_); rintro e w3 ⟨rfl, hb3⟩))
    go_ret
    exact ⟨by rw [HZ2.out]; rfl, joinB HB0.out (joinB (joinB hb1 hb2) hb3)⟩
  rw [decide_eq_true h1] at H1
  rw [decide_eq_true h2] at H2
  rw [decide_eq_true h3] at H3
  have HIF := Lib.hid (show z = decide ((⟨lsn, prev, txn, 1, 0, 0, 0, ⟨0, 0, ⟨#[]⟩, ⟨#[]⟩⟩, 0, 0, ⟨⟨#[]⟩, 0, 0⟩, [], []⟩ : Rc.Rec) = ⟨lsn, prev, txn, 1, page, next, nu, ⟨ok, os, oo, on⟩, how, root, ⟨ek, ep, es⟩, ts, ds⟩) from HZ.out.trans (Rc.rightB_of ((Rc.r_small (by omega) ⟨h1, h2, h3⟩).trans decide_eq_true_iff.symm)))
  clear h1 h2 h3 HNO HZ
  have HBA := Lib.hid (fun W => rbare_any ⟨lsn, prev, txn, 1, page, next, nu, ⟨ok, os, oo, on⟩, how, root, ⟨ek, ep, es⟩, ts, ds⟩ (.slice A ts.length c) (.slice B ds.length d) W)
  dsimp only [recV, recA, Rc.bare, Rc.noOp, Rc.noKey] at HBA
  go_upto_region 4 with (first | (go_at_call 135; (with_reducible refine (H1.out _).mono ?_); rintro e w1 ⟨rfl, hb1⟩; have hc1 := blkCell (blkOld HX0.out hb1)) | (go_at_call 135; (with_reducible refine (H2.out _).mono ?_); rintro e w2 ⟨rfl, hb2⟩; have hc2 := blkCell (blkOld (blkOld HX0.out hb1) hb2)) | (go_at_call 135; (with_reducible refine (H3.out _).mono ?_); rintro e w3 ⟨rfl, hb3⟩) | (with_reducible refine listLoad (by kernel_rfl) 85 (.tmp 1) rfl g rfl #[.int .i64 lsn, .int .i64 prev, .int .i64 txn, .int .i64 1, .int .i64 page, .int .i64 next, .int .i64 nu, .int .i64 ok, .int .i64 os, .string oo, .string on, .int .i64 how, .int .i64 root, .string ek, .int .i64 ep, .int .i64 es, .slice A ts.length c, .slice B ds.length d] _ (blkOld HX0.out (joinB (joinB hb1 hb2) hb3)) _ Tryz.underlying85 (by kernel_rfl) (by kernel_rfl) ?_) | (go_at_call 136; (with_reducible refine (HBA.out _).mono ?_); rintro e w4 ⟨rfl, hb4⟩) | (with_reducible refine wpList_store_new rfl 85 (.tmp 3) (.tmp 21) rfl #[.int .i64 lsn, .int .i64 prev, .int .i64 txn, .int .i64 1, .int .i64 0, .int .i64 0, .int .i64 0, .int .i64 0, .int .i64 0, .string ⟨#[]⟩, .string ⟨#[]⟩, .int .i64 0, .int .i64 0, .string ⟨#[]⟩, .int .i64 0, .int .i64 0, .slice none 0 0, .slice none 0 0] _ _ rfl (by kernel_rfl) (by kernel_rfl) (by kernel_rfl) (by kernel_rfl) ?_))
  have HB5 := Lib.hid (joinB (joinB (joinB (joinB HB0.out hb1) hb2) hb3) (pastAlloc (o := .cells #[.int .i64 lsn, .int .i64 prev, .int .i64 txn, .int .i64 1, .int .i64 0, .int .i64 0, .int .i64 0, .int .i64 0, .int .i64 0, .string ⟨#[]⟩, .string ⟨#[]⟩, .int .i64 0, .int .i64 0, .string ⟨#[]⟩, .int .i64 0, .int .i64 0, .slice none 0 0, .slice none 0 0] 85) hb4))
  have HX5 := Lib.hid (blkOld HX0.out (joinB (joinB (joinB hb1 hb2) hb3) (pastAlloc (o := .cells #[.int .i64 lsn, .int .i64 prev, .int .i64 txn, .int .i64 1, .int .i64 0, .int .i64 0, .int .i64 0, .int .i64 0, .int .i64 0, .string ⟨#[]⟩, .string ⟨#[]⟩, .int .i64 0, .int .i64 0, .string ⟨#[]⟩, .int .i64 0, .int .i64 0, .slice none 0 0, .slice none 0 0] 85) hb4)))
  have HG5 := Lib.hid (heap_alloc_new w4 (.cells #[.int .i64 lsn, .int .i64 prev, .int .i64 txn, .int .i64 1, .int .i64 0, .int .i64 0, .int .i64 0, .int .i64 0, .int .i64 0, .string ⟨#[]⟩, .string ⟨#[]⟩, .int .i64 0, .int .i64 0, .string ⟨#[]⟩, .int .i64 0, .int .i64 0, .slice none 0 0, .slice none 0 0] 85))
  have hgx : g < w4.heap.size := Nat.lt_of_lt_of_le (heapLt HX0.out) (joinB (joinB (joinB hb1 hb2) hb3) hb4).size
  have hgw : w.heap.size ≤ w4.heap.size := (joinB (joinB (joinB (joinB HB0.out hb1) hb2) hb3) hb4).size
  obtain ⟨gx, hge⟩ : ∃ gx, gx = w4.heap.size := ⟨_, rfl⟩
  obtain ⟨W5, hW5⟩ : ∃ W, W = w4.alloc (.cells #[.int .i64 lsn, .int .i64 prev, .int .i64 txn, .int .i64 1, .int .i64 0, .int .i64 0, .int .i64 0, .int .i64 0, .int .i64 0, .string ⟨#[]⟩, .string ⟨#[]⟩, .int .i64 0, .int .i64 0, .string ⟨#[]⟩, .int .i64 0, .int .i64 0, .slice none 0 0, .slice none 0 0] 85) := ⟨_, rfl⟩
  rw [← hge, ← hW5] at HG5
  rw [← hW5] at HB5 HX5
  rw [← hge] at hgx hgw
  rw [← hge, ← hW5]
  clear hge hW5 hb1 hb2 hb3 hb4 hc1 hc2 hcg HBA H1 H2 H3 HX0
  have hcg := blkCell HX5.out
  have HX6 := HX5
  have HG6 := HG5
  have HB6 := HB5
  obtain ⟨W6, hW6⟩ : ∃ W, W = W5 := ⟨_, rfl⟩
  rw [← hW6] at HX6 HG6 HB6
  rw [← hW6]
  clear hW6 HX5 HG5 HB5 hcg
  have hcg := blkCell HX6.out
  have HSA := Lib.hid (rsame_any (⟨lsn, prev, txn, 1, 0, 0, 0, ⟨0, 0, ⟨#[]⟩, ⟨#[]⟩⟩, 0, 0, ⟨⟨#[]⟩, 0, 0⟩, [], []⟩ : Rc.Rec) ⟨lsn, prev, txn, 1, page, next, nu, ⟨ok, os, oo, on⟩, how, root, ⟨ek, ep, es⟩, ts, ds⟩ none A none B 0 c 0 d W6 (recR_nil _ _ rfl rfl) (HRR.out _ HB6.out))
  dsimp only [recV, recA, List.length_nil] at HSA
  generalize decide ((⟨lsn, prev, txn, 1, 0, 0, 0, ⟨0, 0, ⟨#[]⟩, ⟨#[]⟩⟩, 0, 0, ⟨⟨#[]⟩, 0, 0⟩, [], []⟩ : Rc.Rec) = ⟨lsn, prev, txn, 1, page, next, nu, ⟨ok, os, oo, on⟩, how, root, ⟨ek, ep, es⟩, ts, ds⟩) = q at HSA HIF
  go_wp2_with (first | (with_reducible refine listLoad (by kernel_rfl) 85 (.tmp 3) rfl gx rfl #[.int .i64 lsn, .int .i64 prev, .int .i64 txn, .int .i64 1, .int .i64 0, .int .i64 0, .int .i64 0, .int .i64 0, .int .i64 0, .string ⟨#[]⟩, .string ⟨#[]⟩, .int .i64 0, .int .i64 0, .string ⟨#[]⟩, .int .i64 0, .int .i64 0, .slice none 0 0, .slice none 0 0] _ HG6.out _ Tryz.underlying85 (by kernel_rfl) (by kernel_rfl) ?_) | (with_reducible refine listLoad (by kernel_rfl) 85 (.tmp 1) rfl g rfl #[.int .i64 lsn, .int .i64 prev, .int .i64 txn, .int .i64 1, .int .i64 page, .int .i64 next, .int .i64 nu, .int .i64 ok, .int .i64 os, .string oo, .string on, .int .i64 how, .int .i64 root, .string ek, .int .i64 ep, .int .i64 es, .slice A ts.length c, .slice B ds.length d] _ HX6.out _ Tryz.underlying85 (by kernel_rfl) (by kernel_rfl) ?_) | (go_at_call 137; (with_reducible refine HSA.out.mono ?_); rintro e w7 ⟨rfl, hb7⟩; have hc7 := blkCell (blkOld HX6.out hb7); have B7 := joinB HB6.out hb7))
  go_ret
  exact ⟨by rw [HIF.out]; rfl, B7⟩
end Go.Proofs.YthfglhafphfhiaaGreat
/- The walk over the reference of records: Right, kind 5. -/
namespace Go.Proofs.YthfglhafphfhiaaGreat
open Go.RowKit
set_option maxRecDepth 100000 in
set_option maxHeartbeats 8000000 in
theorem rright_5 (lsn prev txn page next nu ok os how root ep es : Int) (oo on ek : ByteArray) (ts : List Rc.TxnAt) (ds : List Rc.DirtyAt) (A B : Option Addr) (c d : Nat) (w : World) (hr : RecR w ⟨lsn, prev, txn, 5, page, next, nu, ⟨ok, os, oo, on⟩, how, root, ⟨ek, ep, es⟩, ts, ds⟩ A c B d) :
    Calls Tryz.prog 110 #[.agg #[.int .i64 lsn, .int .i64 prev, .int .i64 txn, .int .i64 5, .int .i64 page, .int .i64 next, .int .i64 nu, .int .i64 ok, .int .i64 os, .string oo, .string on, .int .i64 how, .int .i64 root, .string ek, .int .i64 ep, .int .i64 es, .slice A ts.length c, .slice B ds.length d]] w fun e w' => e = .returned (.bool (Rc.rightB ⟨lsn, prev, txn, 5, page, next, nu, ⟨ok, os, oo, on⟩, how, root, ⟨ek, ep, es⟩, ts, ds⟩)) ∧ Below w.heap.size w w' := by
  obtain ⟨z, hz⟩ : ∃ z, z = Rc.rightB ⟨lsn, prev, txn, 5, page, next, nu, ⟨ok, os, oo, on⟩, how, root, ⟨ek, ep, es⟩, ts, ds⟩ := ⟨_, rfl⟩
  rw [← hz]
  have HZ := Lib.hid hz
  clear hz
  obtain ⟨w0, hw0⟩ : ∃ W, W = w.alloc (.cells #[.int .i64 lsn, .int .i64 prev, .int .i64 txn, .int .i64 5, .int .i64 page, .int .i64 next, .int .i64 nu, .int .i64 ok, .int .i64 os, .string oo, .string on, .int .i64 how, .int .i64 root, .string ek, .int .i64 ep, .int .i64 es, .slice A ts.length c, .slice B ds.length d] 85) := ⟨_, rfl⟩
  have HB0 := Lib.hid (show Below w.heap.size w w0 from by rw [hw0]; exact allocB _ _)
  have HX0 := Lib.hid (show w0.heap[w.heap.size]? = some (.cells #[.int .i64 lsn, .int .i64 prev, .int .i64 txn, .int .i64 5, .int .i64 page, .int .i64 next, .int .i64 nu, .int .i64 ok, .int .i64 os, .string oo, .string on, .int .i64 how, .int .i64 root, .string ek, .int .i64 ep, .int .i64 es, .slice A ts.length c, .slice B ds.length d] 85 (0, 0)) from by rw [hw0]; exact heap_alloc_new _ _)
  have HRR := Lib.hid (fun W (hb : Below w.heap.size w W) => hr.below hb)
  clear hr
  go_enter Tryz.func110, Tryz.ntmps110
  go_upto_region 1 with fail
  rw [← hw0]
  clear hw0
  obtain ⟨g, hg⟩ : ∃ g, g = w.heap.size := ⟨_, rfl⟩
  rw [← hg] at HX0
  rw [← hg]
  clear hg
  have hcg := blkCell HX0.out
  have H1 := Lib.hid (fun W => rnumber_any lsn W)
  have H2 := Lib.hid (fun W => rnumber_any prev W)
  have H3 := Lib.hid (fun W => rnumber_any txn W)
  have HNO := Lib.hid (show ¬ (Rc.num lsn ∧ Rc.num prev ∧ Rc.num txn) → z = false from fun h => HZ.out.trans (Rc.rightB_no fun hr => h (Rc.r_nums hr)))
  by_cases h1 : Rc.num lsn
  rotate_left
  · rw [decide_eq_false h1] at H1
    have HZ2 := Lib.hid (HNO.out (fun h => h1 h.1))
    clear h1
    go_wp2_with (go_at_call 135; (with_reducible refine (H1.out _).mono ?_); rintro e w1 ⟨rfl, hb1⟩; have hc1 := blkCell (blkOld HX0.out hb1))
    go_ret
    exact ⟨by rw [HZ2.out]; rfl, joinB HB0.out hb1⟩
  by_cases h2 : Rc.num prev
  rotate_left
  · rw [decide_eq_true h1] at H1
    rw [decide_eq_false h2] at H2
    have HZ2 := Lib.hid (HNO.out (fun h => h2 h.2.1))
    clear h1 h2
    go_wp2_with (first | (go_at_call 135; (with_reducible refine (H1.out _).mono ?_); rintro e w1 ⟨rfl, hb1⟩; have hc1 := blkCell (blkOld HX0.out hb1)) | (go_at_call 135; (with_reducible refine (H2.out _).mono ?_); rintro e w2 ⟨rfl, hb2⟩; have hc2 := blkCell (blkOld (blkOld HX0.out hb1) hb2)))
    go_ret
    exact ⟨by rw [HZ2.out]; rfl, joinB HB0.out (joinB hb1 hb2)⟩
  by_cases h3 : Rc.num txn
  rotate_left
  · rw [decide_eq_true h1] at H1
    rw [decide_eq_true h2] at H2
    rw [decide_eq_false h3] at H3
    have HZ2 := Lib.hid (HNO.out (fun h => h3 h.2.2))
    clear h1 h2 h3
    go_wp2_with (first | (go_at_call 135; (with_reducible refine (H1.out _).mono ?_); rintro e w1 ⟨rfl, hb1⟩; have hc1 := blkCell (blkOld HX0.out hb1)) | (go_at_call 135; (with_reducible refine (H2.out _).mono ?_); rintro e w2 ⟨rfl, hb2⟩; have hc2 := blkCell (blkOld (blkOld HX0.out hb1) hb2)) | (go_at_call 135; (with_reducible refine (H3.out _).mono ?_); rintro e w3 ⟨rfl, hb3⟩))
    go_ret
    exact ⟨by rw [HZ2.out]; rfl, joinB HB0.out (joinB (joinB hb1 hb2) hb3)⟩
  rw [decide_eq_true h1] at H1
  rw [decide_eq_true h2] at H2
  rw [decide_eq_true h3] at H3
  have HIF := Lib.hid (show z = decide ((⟨lsn, prev, txn, 5, 0, 0, 0, ⟨0, 0, ⟨#[]⟩, ⟨#[]⟩⟩, 0, 0, ⟨⟨#[]⟩, 0, 0⟩, [], []⟩ : Rc.Rec) = ⟨lsn, prev, txn, 5, page, next, nu, ⟨ok, os, oo, on⟩, how, root, ⟨ek, ep, es⟩, ts, ds⟩) from HZ.out.trans (Rc.rightB_of ((Rc.r_small (by omega) ⟨h1, h2, h3⟩).trans decide_eq_true_iff.symm)))
  clear h1 h2 h3 HNO HZ
  have HBA := Lib.hid (fun W => rbare_any ⟨lsn, prev, txn, 5, page, next, nu, ⟨ok, os, oo, on⟩, how, root, ⟨ek, ep, es⟩, ts, ds⟩ (.slice A ts.length c) (.slice B ds.length d) W)
  dsimp only [recV, recA, Rc.bare, Rc.noOp, Rc.noKey] at HBA
  go_upto_region 4 with (first | (go_at_call 135; (with_reducible refine (H1.out _).mono ?_); rintro e w1 ⟨rfl, hb1⟩; have hc1 := blkCell (blkOld HX0.out hb1)) | (go_at_call 135; (with_reducible refine (H2.out _).mono ?_); rintro e w2 ⟨rfl, hb2⟩; have hc2 := blkCell (blkOld (blkOld HX0.out hb1) hb2)) | (go_at_call 135; (with_reducible refine (H3.out _).mono ?_); rintro e w3 ⟨rfl, hb3⟩) | (with_reducible refine listLoad (by kernel_rfl) 85 (.tmp 1) rfl g rfl #[.int .i64 lsn, .int .i64 prev, .int .i64 txn, .int .i64 5, .int .i64 page, .int .i64 next, .int .i64 nu, .int .i64 ok, .int .i64 os, .string oo, .string on, .int .i64 how, .int .i64 root, .string ek, .int .i64 ep, .int .i64 es, .slice A ts.length c, .slice B ds.length d] _ (blkOld HX0.out (joinB (joinB hb1 hb2) hb3)) _ Tryz.underlying85 (by kernel_rfl) (by kernel_rfl) ?_) | (go_at_call 136; (with_reducible refine (HBA.out _).mono ?_); rintro e w4 ⟨rfl, hb4⟩) | (with_reducible refine wpList_store_new rfl 85 (.tmp 3) (.tmp 21) rfl #[.int .i64 lsn, .int .i64 prev, .int .i64 txn, .int .i64 5, .int .i64 0, .int .i64 0, .int .i64 0, .int .i64 0, .int .i64 0, .string ⟨#[]⟩, .string ⟨#[]⟩, .int .i64 0, .int .i64 0, .string ⟨#[]⟩, .int .i64 0, .int .i64 0, .slice none 0 0, .slice none 0 0] _ _ rfl (by kernel_rfl) (by kernel_rfl) (by kernel_rfl) (by kernel_rfl) ?_))
  have HB5 := Lib.hid (joinB (joinB (joinB (joinB HB0.out hb1) hb2) hb3) (pastAlloc (o := .cells #[.int .i64 lsn, .int .i64 prev, .int .i64 txn, .int .i64 5, .int .i64 0, .int .i64 0, .int .i64 0, .int .i64 0, .int .i64 0, .string ⟨#[]⟩, .string ⟨#[]⟩, .int .i64 0, .int .i64 0, .string ⟨#[]⟩, .int .i64 0, .int .i64 0, .slice none 0 0, .slice none 0 0] 85) hb4))
  have HX5 := Lib.hid (blkOld HX0.out (joinB (joinB (joinB hb1 hb2) hb3) (pastAlloc (o := .cells #[.int .i64 lsn, .int .i64 prev, .int .i64 txn, .int .i64 5, .int .i64 0, .int .i64 0, .int .i64 0, .int .i64 0, .int .i64 0, .string ⟨#[]⟩, .string ⟨#[]⟩, .int .i64 0, .int .i64 0, .string ⟨#[]⟩, .int .i64 0, .int .i64 0, .slice none 0 0, .slice none 0 0] 85) hb4)))
  have HG5 := Lib.hid (heap_alloc_new w4 (.cells #[.int .i64 lsn, .int .i64 prev, .int .i64 txn, .int .i64 5, .int .i64 0, .int .i64 0, .int .i64 0, .int .i64 0, .int .i64 0, .string ⟨#[]⟩, .string ⟨#[]⟩, .int .i64 0, .int .i64 0, .string ⟨#[]⟩, .int .i64 0, .int .i64 0, .slice none 0 0, .slice none 0 0] 85))
  have hgx : g < w4.heap.size := Nat.lt_of_lt_of_le (heapLt HX0.out) (joinB (joinB (joinB hb1 hb2) hb3) hb4).size
  have hgw : w.heap.size ≤ w4.heap.size := (joinB (joinB (joinB (joinB HB0.out hb1) hb2) hb3) hb4).size
  obtain ⟨gx, hge⟩ : ∃ gx, gx = w4.heap.size := ⟨_, rfl⟩
  obtain ⟨W5, hW5⟩ : ∃ W, W = w4.alloc (.cells #[.int .i64 lsn, .int .i64 prev, .int .i64 txn, .int .i64 5, .int .i64 0, .int .i64 0, .int .i64 0, .int .i64 0, .int .i64 0, .string ⟨#[]⟩, .string ⟨#[]⟩, .int .i64 0, .int .i64 0, .string ⟨#[]⟩, .int .i64 0, .int .i64 0, .slice none 0 0, .slice none 0 0] 85) := ⟨_, rfl⟩
  rw [← hge, ← hW5] at HG5
  rw [← hW5] at HB5 HX5
  rw [← hge] at hgx hgw
  rw [← hge, ← hW5]
  clear hge hW5 hb1 hb2 hb3 hb4 hc1 hc2 hcg HBA H1 H2 H3 HX0
  have hcg := blkCell HX5.out
  have HX6 := HX5
  have HG6 := HG5
  have HB6 := HB5
  obtain ⟨W6, hW6⟩ : ∃ W, W = W5 := ⟨_, rfl⟩
  rw [← hW6] at HX6 HG6 HB6
  rw [← hW6]
  clear hW6 HX5 HG5 HB5 hcg
  have hcg := blkCell HX6.out
  have HSA := Lib.hid (rsame_any (⟨lsn, prev, txn, 5, 0, 0, 0, ⟨0, 0, ⟨#[]⟩, ⟨#[]⟩⟩, 0, 0, ⟨⟨#[]⟩, 0, 0⟩, [], []⟩ : Rc.Rec) ⟨lsn, prev, txn, 5, page, next, nu, ⟨ok, os, oo, on⟩, how, root, ⟨ek, ep, es⟩, ts, ds⟩ none A none B 0 c 0 d W6 (recR_nil _ _ rfl rfl) (HRR.out _ HB6.out))
  dsimp only [recV, recA, List.length_nil] at HSA
  generalize decide ((⟨lsn, prev, txn, 5, 0, 0, 0, ⟨0, 0, ⟨#[]⟩, ⟨#[]⟩⟩, 0, 0, ⟨⟨#[]⟩, 0, 0⟩, [], []⟩ : Rc.Rec) = ⟨lsn, prev, txn, 5, page, next, nu, ⟨ok, os, oo, on⟩, how, root, ⟨ek, ep, es⟩, ts, ds⟩) = q at HSA HIF
  go_wp2_with (first | (with_reducible refine listLoad (by kernel_rfl) 85 (.tmp 3) rfl gx rfl #[.int .i64 lsn, .int .i64 prev, .int .i64 txn, .int .i64 5, .int .i64 0, .int .i64 0, .int .i64 0, .int .i64 0, .int .i64 0, .string ⟨#[]⟩, .string ⟨#[]⟩, .int .i64 0, .int .i64 0, .string ⟨#[]⟩, .int .i64 0, .int .i64 0, .slice none 0 0, .slice none 0 0] _ HG6.out _ Tryz.underlying85 (by kernel_rfl) (by kernel_rfl) ?_) | (with_reducible refine listLoad (by kernel_rfl) 85 (.tmp 1) rfl g rfl #[.int .i64 lsn, .int .i64 prev, .int .i64 txn, .int .i64 5, .int .i64 page, .int .i64 next, .int .i64 nu, .int .i64 ok, .int .i64 os, .string oo, .string on, .int .i64 how, .int .i64 root, .string ek, .int .i64 ep, .int .i64 es, .slice A ts.length c, .slice B ds.length d] _ HX6.out _ Tryz.underlying85 (by kernel_rfl) (by kernel_rfl) ?_) | (go_at_call 137; (with_reducible refine HSA.out.mono ?_); rintro e w7 ⟨rfl, hb7⟩; have hc7 := blkCell (blkOld HX6.out hb7); have B7 := joinB HB6.out hb7))
  go_ret
  exact ⟨by rw [HIF.out]; rfl, B7⟩
end Go.Proofs.YthfglhafphfhiaaGreat
/- The walk over the reference of records: Right, kind 6. -/
namespace Go.Proofs.YthfglhafphfhiaaGreat
open Go.RowKit
set_option maxRecDepth 100000 in
set_option maxHeartbeats 8000000 in
theorem rright_6 (lsn prev txn page next nu ok os how root ep es : Int) (oo on ek : ByteArray) (ts : List Rc.TxnAt) (ds : List Rc.DirtyAt) (A B : Option Addr) (c d : Nat) (w : World) (hr : RecR w ⟨lsn, prev, txn, 6, page, next, nu, ⟨ok, os, oo, on⟩, how, root, ⟨ek, ep, es⟩, ts, ds⟩ A c B d) :
    Calls Tryz.prog 110 #[.agg #[.int .i64 lsn, .int .i64 prev, .int .i64 txn, .int .i64 6, .int .i64 page, .int .i64 next, .int .i64 nu, .int .i64 ok, .int .i64 os, .string oo, .string on, .int .i64 how, .int .i64 root, .string ek, .int .i64 ep, .int .i64 es, .slice A ts.length c, .slice B ds.length d]] w fun e w' => e = .returned (.bool (Rc.rightB ⟨lsn, prev, txn, 6, page, next, nu, ⟨ok, os, oo, on⟩, how, root, ⟨ek, ep, es⟩, ts, ds⟩)) ∧ Below w.heap.size w w' := by
  obtain ⟨z, hz⟩ : ∃ z, z = Rc.rightB ⟨lsn, prev, txn, 6, page, next, nu, ⟨ok, os, oo, on⟩, how, root, ⟨ek, ep, es⟩, ts, ds⟩ := ⟨_, rfl⟩
  rw [← hz]
  have HZ := Lib.hid hz
  clear hz
  obtain ⟨w0, hw0⟩ : ∃ W, W = w.alloc (.cells #[.int .i64 lsn, .int .i64 prev, .int .i64 txn, .int .i64 6, .int .i64 page, .int .i64 next, .int .i64 nu, .int .i64 ok, .int .i64 os, .string oo, .string on, .int .i64 how, .int .i64 root, .string ek, .int .i64 ep, .int .i64 es, .slice A ts.length c, .slice B ds.length d] 85) := ⟨_, rfl⟩
  have HB0 := Lib.hid (show Below w.heap.size w w0 from by rw [hw0]; exact allocB _ _)
  have HX0 := Lib.hid (show w0.heap[w.heap.size]? = some (.cells #[.int .i64 lsn, .int .i64 prev, .int .i64 txn, .int .i64 6, .int .i64 page, .int .i64 next, .int .i64 nu, .int .i64 ok, .int .i64 os, .string oo, .string on, .int .i64 how, .int .i64 root, .string ek, .int .i64 ep, .int .i64 es, .slice A ts.length c, .slice B ds.length d] 85 (0, 0)) from by rw [hw0]; exact heap_alloc_new _ _)
  have HRR := Lib.hid (fun W (hb : Below w.heap.size w W) => hr.below hb)
  clear hr
  go_enter Tryz.func110, Tryz.ntmps110
  go_upto_region 1 with fail
  rw [← hw0]
  clear hw0
  obtain ⟨g, hg⟩ : ∃ g, g = w.heap.size := ⟨_, rfl⟩
  rw [← hg] at HX0
  rw [← hg]
  clear hg
  have hcg := blkCell HX0.out
  have H1 := Lib.hid (fun W => rnumber_any lsn W)
  have H2 := Lib.hid (fun W => rnumber_any prev W)
  have H3 := Lib.hid (fun W => rnumber_any txn W)
  have HNO := Lib.hid (show ¬ (Rc.num lsn ∧ Rc.num prev ∧ Rc.num txn) → z = false from fun h => HZ.out.trans (Rc.rightB_no fun hr => h (Rc.r_nums hr)))
  by_cases h1 : Rc.num lsn
  rotate_left
  · rw [decide_eq_false h1] at H1
    have HZ2 := Lib.hid (HNO.out (fun h => h1 h.1))
    clear h1
    go_wp2_with (go_at_call 135; (with_reducible refine (H1.out _).mono ?_); rintro e w1 ⟨rfl, hb1⟩; have hc1 := blkCell (blkOld HX0.out hb1))
    go_ret
    exact ⟨by rw [HZ2.out]; rfl, joinB HB0.out hb1⟩
  by_cases h2 : Rc.num prev
  rotate_left
  · rw [decide_eq_true h1] at H1
    rw [decide_eq_false h2] at H2
    have HZ2 := Lib.hid (HNO.out (fun h => h2 h.2.1))
    clear h1 h2
    go_wp2_with (first | (go_at_call 135; (with_reducible refine (H1.out _).mono ?_); rintro e w1 ⟨rfl, hb1⟩; have hc1 := blkCell (blkOld HX0.out hb1)) | (go_at_call 135; (with_reducible refine (H2.out _).mono ?_); rintro e w2 ⟨rfl, hb2⟩; have hc2 := blkCell (blkOld (blkOld HX0.out hb1) hb2)))
    go_ret
    exact ⟨by rw [HZ2.out]; rfl, joinB HB0.out (joinB hb1 hb2)⟩
  by_cases h3 : Rc.num txn
  rotate_left
  · rw [decide_eq_true h1] at H1
    rw [decide_eq_true h2] at H2
    rw [decide_eq_false h3] at H3
    have HZ2 := Lib.hid (HNO.out (fun h => h3 h.2.2))
    clear h1 h2 h3
    go_wp2_with (first | (go_at_call 135; (with_reducible refine (H1.out _).mono ?_); rintro e w1 ⟨rfl, hb1⟩; have hc1 := blkCell (blkOld HX0.out hb1)) | (go_at_call 135; (with_reducible refine (H2.out _).mono ?_); rintro e w2 ⟨rfl, hb2⟩; have hc2 := blkCell (blkOld (blkOld HX0.out hb1) hb2)) | (go_at_call 135; (with_reducible refine (H3.out _).mono ?_); rintro e w3 ⟨rfl, hb3⟩))
    go_ret
    exact ⟨by rw [HZ2.out]; rfl, joinB HB0.out (joinB (joinB hb1 hb2) hb3)⟩
  rw [decide_eq_true h1] at H1
  rw [decide_eq_true h2] at H2
  rw [decide_eq_true h3] at H3
  have HIF := Lib.hid (show z = decide ((⟨lsn, prev, txn, 6, 0, 0, 0, ⟨0, 0, ⟨#[]⟩, ⟨#[]⟩⟩, 0, 0, ⟨⟨#[]⟩, 0, 0⟩, [], []⟩ : Rc.Rec) = ⟨lsn, prev, txn, 6, page, next, nu, ⟨ok, os, oo, on⟩, how, root, ⟨ek, ep, es⟩, ts, ds⟩) from HZ.out.trans (Rc.rightB_of ((Rc.r_small (by omega) ⟨h1, h2, h3⟩).trans decide_eq_true_iff.symm)))
  clear h1 h2 h3 HNO HZ
  have HBA := Lib.hid (fun W => rbare_any ⟨lsn, prev, txn, 6, page, next, nu, ⟨ok, os, oo, on⟩, how, root, ⟨ek, ep, es⟩, ts, ds⟩ (.slice A ts.length c) (.slice B ds.length d) W)
  dsimp only [recV, recA, Rc.bare, Rc.noOp, Rc.noKey] at HBA
  go_upto_region 4 with (first | (go_at_call 135; (with_reducible refine (H1.out _).mono ?_); rintro e w1 ⟨rfl, hb1⟩; have hc1 := blkCell (blkOld HX0.out hb1)) | (go_at_call 135; (with_reducible refine (H2.out _).mono ?_); rintro e w2 ⟨rfl, hb2⟩; have hc2 := blkCell (blkOld (blkOld HX0.out hb1) hb2)) | (go_at_call 135; (with_reducible refine (H3.out _).mono ?_); rintro e w3 ⟨rfl, hb3⟩) | (with_reducible refine listLoad (by kernel_rfl) 85 (.tmp 1) rfl g rfl #[.int .i64 lsn, .int .i64 prev, .int .i64 txn, .int .i64 6, .int .i64 page, .int .i64 next, .int .i64 nu, .int .i64 ok, .int .i64 os, .string oo, .string on, .int .i64 how, .int .i64 root, .string ek, .int .i64 ep, .int .i64 es, .slice A ts.length c, .slice B ds.length d] _ (blkOld HX0.out (joinB (joinB hb1 hb2) hb3)) _ Tryz.underlying85 (by kernel_rfl) (by kernel_rfl) ?_) | (go_at_call 136; (with_reducible refine (HBA.out _).mono ?_); rintro e w4 ⟨rfl, hb4⟩) | (with_reducible refine wpList_store_new rfl 85 (.tmp 3) (.tmp 21) rfl #[.int .i64 lsn, .int .i64 prev, .int .i64 txn, .int .i64 6, .int .i64 0, .int .i64 0, .int .i64 0, .int .i64 0, .int .i64 0, .string ⟨#[]⟩, .string ⟨#[]⟩, .int .i64 0, .int .i64 0, .string ⟨#[]⟩, .int .i64 0, .int .i64 0, .slice none 0 0, .slice none 0 0] _ _ rfl (by kernel_rfl) (by kernel_rfl) (by kernel_rfl) (by kernel_rfl) ?_))
  have HB5 := Lib.hid (joinB (joinB (joinB (joinB HB0.out hb1) hb2) hb3) (pastAlloc (o := .cells #[.int .i64 lsn, .int .i64 prev, .int .i64 txn, .int .i64 6, .int .i64 0, .int .i64 0, .int .i64 0, .int .i64 0, .int .i64 0, .string ⟨#[]⟩, .string ⟨#[]⟩, .int .i64 0, .int .i64 0, .string ⟨#[]⟩, .int .i64 0, .int .i64 0, .slice none 0 0, .slice none 0 0] 85) hb4))
  have HX5 := Lib.hid (blkOld HX0.out (joinB (joinB (joinB hb1 hb2) hb3) (pastAlloc (o := .cells #[.int .i64 lsn, .int .i64 prev, .int .i64 txn, .int .i64 6, .int .i64 0, .int .i64 0, .int .i64 0, .int .i64 0, .int .i64 0, .string ⟨#[]⟩, .string ⟨#[]⟩, .int .i64 0, .int .i64 0, .string ⟨#[]⟩, .int .i64 0, .int .i64 0, .slice none 0 0, .slice none 0 0] 85) hb4)))
  have HG5 := Lib.hid (heap_alloc_new w4 (.cells #[.int .i64 lsn, .int .i64 prev, .int .i64 txn, .int .i64 6, .int .i64 0, .int .i64 0, .int .i64 0, .int .i64 0, .int .i64 0, .string ⟨#[]⟩, .string ⟨#[]⟩, .int .i64 0, .int .i64 0, .string ⟨#[]⟩, .int .i64 0, .int .i64 0, .slice none 0 0, .slice none 0 0] 85))
  have hgx : g < w4.heap.size := Nat.lt_of_lt_of_le (heapLt HX0.out) (joinB (joinB (joinB hb1 hb2) hb3) hb4).size
  have hgw : w.heap.size ≤ w4.heap.size := (joinB (joinB (joinB (joinB HB0.out hb1) hb2) hb3) hb4).size
  obtain ⟨gx, hge⟩ : ∃ gx, gx = w4.heap.size := ⟨_, rfl⟩
  obtain ⟨W5, hW5⟩ : ∃ W, W = w4.alloc (.cells #[.int .i64 lsn, .int .i64 prev, .int .i64 txn, .int .i64 6, .int .i64 0, .int .i64 0, .int .i64 0, .int .i64 0, .int .i64 0, .string ⟨#[]⟩, .string ⟨#[]⟩, .int .i64 0, .int .i64 0, .string ⟨#[]⟩, .int .i64 0, .int .i64 0, .slice none 0 0, .slice none 0 0] 85) := ⟨_, rfl⟩
  rw [← hge, ← hW5] at HG5
  rw [← hW5] at HB5 HX5
  rw [← hge] at hgx hgw
  rw [← hge, ← hW5]
  clear hge hW5 hb1 hb2 hb3 hb4 hc1 hc2 hcg HBA H1 H2 H3 HX0
  have hcg := blkCell HX5.out
  have HX6 := HX5
  have HG6 := HG5
  have HB6 := HB5
  obtain ⟨W6, hW6⟩ : ∃ W, W = W5 := ⟨_, rfl⟩
  rw [← hW6] at HX6 HG6 HB6
  rw [← hW6]
  clear hW6 HX5 HG5 HB5 hcg
  have hcg := blkCell HX6.out
  have HSA := Lib.hid (rsame_any (⟨lsn, prev, txn, 6, 0, 0, 0, ⟨0, 0, ⟨#[]⟩, ⟨#[]⟩⟩, 0, 0, ⟨⟨#[]⟩, 0, 0⟩, [], []⟩ : Rc.Rec) ⟨lsn, prev, txn, 6, page, next, nu, ⟨ok, os, oo, on⟩, how, root, ⟨ek, ep, es⟩, ts, ds⟩ none A none B 0 c 0 d W6 (recR_nil _ _ rfl rfl) (HRR.out _ HB6.out))
  dsimp only [recV, recA, List.length_nil] at HSA
  generalize decide ((⟨lsn, prev, txn, 6, 0, 0, 0, ⟨0, 0, ⟨#[]⟩, ⟨#[]⟩⟩, 0, 0, ⟨⟨#[]⟩, 0, 0⟩, [], []⟩ : Rc.Rec) = ⟨lsn, prev, txn, 6, page, next, nu, ⟨ok, os, oo, on⟩, how, root, ⟨ek, ep, es⟩, ts, ds⟩) = q at HSA HIF
  go_wp2_with (first | (with_reducible refine listLoad (by kernel_rfl) 85 (.tmp 3) rfl gx rfl #[.int .i64 lsn, .int .i64 prev, .int .i64 txn, .int .i64 6, .int .i64 0, .int .i64 0, .int .i64 0, .int .i64 0, .int .i64 0, .string ⟨#[]⟩, .string ⟨#[]⟩, .int .i64 0, .int .i64 0, .string ⟨#[]⟩, .int .i64 0, .int .i64 0, .slice none 0 0, .slice none 0 0] _ HG6.out _ Tryz.underlying85 (by kernel_rfl) (by kernel_rfl) ?_) | (with_reducible refine listLoad (by kernel_rfl) 85 (.tmp 1) rfl g rfl #[.int .i64 lsn, .int .i64 prev, .int .i64 txn, .int .i64 6, .int .i64 page, .int .i64 next, .int .i64 nu, .int .i64 ok, .int .i64 os, .string oo, .string on, .int .i64 how, .int .i64 root, .string ek, .int .i64 ep, .int .i64 es, .slice A ts.length c, .slice B ds.length d] _ HX6.out _ Tryz.underlying85 (by kernel_rfl) (by kernel_rfl) ?_) | (go_at_call 137; (with_reducible refine HSA.out.mono ?_); rintro e w7 ⟨rfl, hb7⟩; have hc7 := blkCell (blkOld HX6.out hb7); have B7 := joinB HB6.out hb7))
  go_ret
  exact ⟨by rw [HIF.out]; rfl, B7⟩
end Go.Proofs.YthfglhafphfhiaaGreat
/- The walk over the reference of records: Right, kind 7. -/
namespace Go.Proofs.YthfglhafphfhiaaGreat
open Go.RowKit
set_option maxRecDepth 100000 in
set_option maxHeartbeats 8000000 in
theorem rright_7 (lsn prev txn page next nu ok os how root ep es : Int) (oo on ek : ByteArray) (ts : List Rc.TxnAt) (ds : List Rc.DirtyAt) (A B : Option Addr) (c d : Nat) (w : World) (hr : RecR w ⟨lsn, prev, txn, 7, page, next, nu, ⟨ok, os, oo, on⟩, how, root, ⟨ek, ep, es⟩, ts, ds⟩ A c B d) :
    Calls Tryz.prog 110 #[.agg #[.int .i64 lsn, .int .i64 prev, .int .i64 txn, .int .i64 7, .int .i64 page, .int .i64 next, .int .i64 nu, .int .i64 ok, .int .i64 os, .string oo, .string on, .int .i64 how, .int .i64 root, .string ek, .int .i64 ep, .int .i64 es, .slice A ts.length c, .slice B ds.length d]] w fun e w' => e = .returned (.bool (Rc.rightB ⟨lsn, prev, txn, 7, page, next, nu, ⟨ok, os, oo, on⟩, how, root, ⟨ek, ep, es⟩, ts, ds⟩)) ∧ Below w.heap.size w w' := by
  obtain ⟨z, hz⟩ : ∃ z, z = Rc.rightB ⟨lsn, prev, txn, 7, page, next, nu, ⟨ok, os, oo, on⟩, how, root, ⟨ek, ep, es⟩, ts, ds⟩ := ⟨_, rfl⟩
  rw [← hz]
  have HZ := Lib.hid hz
  clear hz
  obtain ⟨w0, hw0⟩ : ∃ W, W = w.alloc (.cells #[.int .i64 lsn, .int .i64 prev, .int .i64 txn, .int .i64 7, .int .i64 page, .int .i64 next, .int .i64 nu, .int .i64 ok, .int .i64 os, .string oo, .string on, .int .i64 how, .int .i64 root, .string ek, .int .i64 ep, .int .i64 es, .slice A ts.length c, .slice B ds.length d] 85) := ⟨_, rfl⟩
  have HB0 := Lib.hid (show Below w.heap.size w w0 from by rw [hw0]; exact allocB _ _)
  have HX0 := Lib.hid (show w0.heap[w.heap.size]? = some (.cells #[.int .i64 lsn, .int .i64 prev, .int .i64 txn, .int .i64 7, .int .i64 page, .int .i64 next, .int .i64 nu, .int .i64 ok, .int .i64 os, .string oo, .string on, .int .i64 how, .int .i64 root, .string ek, .int .i64 ep, .int .i64 es, .slice A ts.length c, .slice B ds.length d] 85 (0, 0)) from by rw [hw0]; exact heap_alloc_new _ _)
  have HRR := Lib.hid (fun W (hb : Below w.heap.size w W) => hr.below hb)
  clear hr
  go_enter Tryz.func110, Tryz.ntmps110
  go_upto_region 1 with fail
  rw [← hw0]
  clear hw0
  obtain ⟨g, hg⟩ : ∃ g, g = w.heap.size := ⟨_, rfl⟩
  rw [← hg] at HX0
  rw [← hg]
  clear hg
  have hcg := blkCell HX0.out
  have H1 := Lib.hid (fun W => rnumber_any lsn W)
  have H2 := Lib.hid (fun W => rnumber_any prev W)
  have H3 := Lib.hid (fun W => rnumber_any txn W)
  have HNO := Lib.hid (show ¬ (Rc.num lsn ∧ Rc.num prev ∧ Rc.num txn) → z = false from fun h => HZ.out.trans (Rc.rightB_no fun hr => h (Rc.r_nums hr)))
  by_cases h1 : Rc.num lsn
  rotate_left
  · rw [decide_eq_false h1] at H1
    have HZ2 := Lib.hid (HNO.out (fun h => h1 h.1))
    clear h1
    go_wp2_with (go_at_call 135; (with_reducible refine (H1.out _).mono ?_); rintro e w1 ⟨rfl, hb1⟩; have hc1 := blkCell (blkOld HX0.out hb1))
    go_ret
    exact ⟨by rw [HZ2.out]; rfl, joinB HB0.out hb1⟩
  by_cases h2 : Rc.num prev
  rotate_left
  · rw [decide_eq_true h1] at H1
    rw [decide_eq_false h2] at H2
    have HZ2 := Lib.hid (HNO.out (fun h => h2 h.2.1))
    clear h1 h2
    go_wp2_with (first | (go_at_call 135; (with_reducible refine (H1.out _).mono ?_); rintro e w1 ⟨rfl, hb1⟩; have hc1 := blkCell (blkOld HX0.out hb1)) | (go_at_call 135; (with_reducible refine (H2.out _).mono ?_); rintro e w2 ⟨rfl, hb2⟩; have hc2 := blkCell (blkOld (blkOld HX0.out hb1) hb2)))
    go_ret
    exact ⟨by rw [HZ2.out]; rfl, joinB HB0.out (joinB hb1 hb2)⟩
  by_cases h3 : Rc.num txn
  rotate_left
  · rw [decide_eq_true h1] at H1
    rw [decide_eq_true h2] at H2
    rw [decide_eq_false h3] at H3
    have HZ2 := Lib.hid (HNO.out (fun h => h3 h.2.2))
    clear h1 h2 h3
    go_wp2_with (first | (go_at_call 135; (with_reducible refine (H1.out _).mono ?_); rintro e w1 ⟨rfl, hb1⟩; have hc1 := blkCell (blkOld HX0.out hb1)) | (go_at_call 135; (with_reducible refine (H2.out _).mono ?_); rintro e w2 ⟨rfl, hb2⟩; have hc2 := blkCell (blkOld (blkOld HX0.out hb1) hb2)) | (go_at_call 135; (with_reducible refine (H3.out _).mono ?_); rintro e w3 ⟨rfl, hb3⟩))
    go_ret
    exact ⟨by rw [HZ2.out]; rfl, joinB HB0.out (joinB (joinB hb1 hb2) hb3)⟩
  rw [decide_eq_true h1] at H1
  rw [decide_eq_true h2] at H2
  rw [decide_eq_true h3] at H3
  have HIF := Lib.hid (show z = decide ((⟨lsn, prev, txn, 7, 0, 0, 0, ⟨0, 0, ⟨#[]⟩, ⟨#[]⟩⟩, 0, 0, ⟨⟨#[]⟩, 0, 0⟩, [], []⟩ : Rc.Rec) = ⟨lsn, prev, txn, 7, page, next, nu, ⟨ok, os, oo, on⟩, how, root, ⟨ek, ep, es⟩, ts, ds⟩) from HZ.out.trans (Rc.rightB_of ((Rc.r_small (by omega) ⟨h1, h2, h3⟩).trans decide_eq_true_iff.symm)))
  clear h1 h2 h3 HNO HZ
  have HBA := Lib.hid (fun W => rbare_any ⟨lsn, prev, txn, 7, page, next, nu, ⟨ok, os, oo, on⟩, how, root, ⟨ek, ep, es⟩, ts, ds⟩ (.slice A ts.length c) (.slice B ds.length d) W)
  dsimp only [recV, recA, Rc.bare, Rc.noOp, Rc.noKey] at HBA
  go_upto_region 4 with (first | (go_at_call 135; (with_reducible refine (H1.out _).mono ?_); rintro e w1 ⟨rfl, hb1⟩; have hc1 := blkCell (blkOld HX0.out hb1)) | (go_at_call 135; (with_reducible refine (H2.out _).mono ?_); rintro e w2 ⟨rfl, hb2⟩; have hc2 := blkCell (blkOld (blkOld HX0.out hb1) hb2)) | (go_at_call 135; (with_reducible refine (H3.out _).mono ?_); rintro e w3 ⟨rfl, hb3⟩) | (with_reducible refine listLoad (by kernel_rfl) 85 (.tmp 1) rfl g rfl #[.int .i64 lsn, .int .i64 prev, .int .i64 txn, .int .i64 7, .int .i64 page, .int .i64 next, .int .i64 nu, .int .i64 ok, .int .i64 os, .string oo, .string on, .int .i64 how, .int .i64 root, .string ek, .int .i64 ep, .int .i64 es, .slice A ts.length c, .slice B ds.length d] _ (blkOld HX0.out (joinB (joinB hb1 hb2) hb3)) _ Tryz.underlying85 (by kernel_rfl) (by kernel_rfl) ?_) | (go_at_call 136; (with_reducible refine (HBA.out _).mono ?_); rintro e w4 ⟨rfl, hb4⟩) | (with_reducible refine wpList_store_new rfl 85 (.tmp 3) (.tmp 21) rfl #[.int .i64 lsn, .int .i64 prev, .int .i64 txn, .int .i64 7, .int .i64 0, .int .i64 0, .int .i64 0, .int .i64 0, .int .i64 0, .string ⟨#[]⟩, .string ⟨#[]⟩, .int .i64 0, .int .i64 0, .string ⟨#[]⟩, .int .i64 0, .int .i64 0, .slice none 0 0, .slice none 0 0] _ _ rfl (by kernel_rfl) (by kernel_rfl) (by kernel_rfl) (by kernel_rfl) ?_))
  have HB5 := Lib.hid (joinB (joinB (joinB (joinB HB0.out hb1) hb2) hb3) (pastAlloc (o := .cells #[.int .i64 lsn, .int .i64 prev, .int .i64 txn, .int .i64 7, .int .i64 0, .int .i64 0, .int .i64 0, .int .i64 0, .int .i64 0, .string ⟨#[]⟩, .string ⟨#[]⟩, .int .i64 0, .int .i64 0, .string ⟨#[]⟩, .int .i64 0, .int .i64 0, .slice none 0 0, .slice none 0 0] 85) hb4))
  have HX5 := Lib.hid (blkOld HX0.out (joinB (joinB (joinB hb1 hb2) hb3) (pastAlloc (o := .cells #[.int .i64 lsn, .int .i64 prev, .int .i64 txn, .int .i64 7, .int .i64 0, .int .i64 0, .int .i64 0, .int .i64 0, .int .i64 0, .string ⟨#[]⟩, .string ⟨#[]⟩, .int .i64 0, .int .i64 0, .string ⟨#[]⟩, .int .i64 0, .int .i64 0, .slice none 0 0, .slice none 0 0] 85) hb4)))
  have HG5 := Lib.hid (heap_alloc_new w4 (.cells #[.int .i64 lsn, .int .i64 prev, .int .i64 txn, .int .i64 7, .int .i64 0, .int .i64 0, .int .i64 0, .int .i64 0, .int .i64 0, .string ⟨#[]⟩, .string ⟨#[]⟩, .int .i64 0, .int .i64 0, .string ⟨#[]⟩, .int .i64 0, .int .i64 0, .slice none 0 0, .slice none 0 0] 85))
  have hgx : g < w4.heap.size := Nat.lt_of_lt_of_le (heapLt HX0.out) (joinB (joinB (joinB hb1 hb2) hb3) hb4).size
  have hgw : w.heap.size ≤ w4.heap.size := (joinB (joinB (joinB (joinB HB0.out hb1) hb2) hb3) hb4).size
  obtain ⟨gx, hge⟩ : ∃ gx, gx = w4.heap.size := ⟨_, rfl⟩
  obtain ⟨W5, hW5⟩ : ∃ W, W = w4.alloc (.cells #[.int .i64 lsn, .int .i64 prev, .int .i64 txn, .int .i64 7, .int .i64 0, .int .i64 0, .int .i64 0, .int .i64 0, .int .i64 0, .string ⟨#[]⟩, .string ⟨#[]⟩, .int .i64 0, .int .i64 0, .string ⟨#[]⟩, .int .i64 0, .int .i64 0, .slice none 0 0, .slice none 0 0] 85) := ⟨_, rfl⟩
  rw [← hge, ← hW5] at HG5
  rw [← hW5] at HB5 HX5
  rw [← hge] at hgx hgw
  rw [← hge, ← hW5]
  clear hge hW5 hb1 hb2 hb3 hb4 hc1 hc2 hcg HBA H1 H2 H3 HX0
  have hcg := blkCell HX5.out
  have HX6 := HX5
  have HG6 := HG5
  have HB6 := HB5
  obtain ⟨W6, hW6⟩ : ∃ W, W = W5 := ⟨_, rfl⟩
  rw [← hW6] at HX6 HG6 HB6
  rw [← hW6]
  clear hW6 HX5 HG5 HB5 hcg
  have hcg := blkCell HX6.out
  have HSA := Lib.hid (rsame_any (⟨lsn, prev, txn, 7, 0, 0, 0, ⟨0, 0, ⟨#[]⟩, ⟨#[]⟩⟩, 0, 0, ⟨⟨#[]⟩, 0, 0⟩, [], []⟩ : Rc.Rec) ⟨lsn, prev, txn, 7, page, next, nu, ⟨ok, os, oo, on⟩, how, root, ⟨ek, ep, es⟩, ts, ds⟩ none A none B 0 c 0 d W6 (recR_nil _ _ rfl rfl) (HRR.out _ HB6.out))
  dsimp only [recV, recA, List.length_nil] at HSA
  generalize decide ((⟨lsn, prev, txn, 7, 0, 0, 0, ⟨0, 0, ⟨#[]⟩, ⟨#[]⟩⟩, 0, 0, ⟨⟨#[]⟩, 0, 0⟩, [], []⟩ : Rc.Rec) = ⟨lsn, prev, txn, 7, page, next, nu, ⟨ok, os, oo, on⟩, how, root, ⟨ek, ep, es⟩, ts, ds⟩) = q at HSA HIF
  go_wp2_with (first | (with_reducible refine listLoad (by kernel_rfl) 85 (.tmp 3) rfl gx rfl #[.int .i64 lsn, .int .i64 prev, .int .i64 txn, .int .i64 7, .int .i64 0, .int .i64 0, .int .i64 0, .int .i64 0, .int .i64 0, .string ⟨#[]⟩, .string ⟨#[]⟩, .int .i64 0, .int .i64 0, .string ⟨#[]⟩, .int .i64 0, .int .i64 0, .slice none 0 0, .slice none 0 0] _ HG6.out _ Tryz.underlying85 (by kernel_rfl) (by kernel_rfl) ?_) | (with_reducible refine listLoad (by kernel_rfl) 85 (.tmp 1) rfl g rfl #[.int .i64 lsn, .int .i64 prev, .int .i64 txn, .int .i64 7, .int .i64 page, .int .i64 next, .int .i64 nu, .int .i64 ok, .int .i64 os, .string oo, .string on, .int .i64 how, .int .i64 root, .string ek, .int .i64 ep, .int .i64 es, .slice A ts.length c, .slice B ds.length d] _ HX6.out _ Tryz.underlying85 (by kernel_rfl) (by kernel_rfl) ?_) | (go_at_call 137; (with_reducible refine HSA.out.mono ?_); rintro e w7 ⟨rfl, hb7⟩; have hc7 := blkCell (blkOld HX6.out hb7); have B7 := joinB HB6.out hb7))
  go_ret
  exact ⟨by rw [HIF.out]; rfl, B7⟩
end Go.Proofs.YthfglhafphfhiaaGreat
/- The walk over the reference of records: Right of any record. -/
namespace Go.Proofs.YthfglhafphfhiaaGreat
open Go.RowKit
/-- The reference's Right, of any record. -/
theorem rright_any (r : Rc.Rec) (A B : Option Addr) (c d : Nat) (w : World) (hr : RecR w r A c B d) :
    Calls Tryz.prog 110 #[recV r (.slice A r.txns.length c) (.slice B r.dirty.length d)] w fun e w' => e = .returned (.bool (Rc.rightB r)) ∧ Below w.heap.size w w' := by
  obtain ⟨lsn, prev, txn, kind, page, next, nu, ⟨ok, os, oo, on⟩, how, root, ⟨ek, ep, es⟩, ts, ds⟩ := r
  dsimp only [recV, recA]
  have h9 : kind = 1 ∨ kind = 4 ∨ kind = 5 ∨ kind = 6 ∨ kind = 7 := hr.kd
  rcases h9 with rfl | rfl | rfl | rfl | rfl
  · exact rright_1 _ _ _ _ _ _ _ _ _ _ _ _ _ _ _ _ _ _ _ _ _ w hr
  · exact rright_4 _ _ _ _ _ _ _ _ _ _ _ _ _ _ _ _ _ _ _ _ _ w hr
  · exact rright_5 _ _ _ _ _ _ _ _ _ _ _ _ _ _ _ _ _ _ _ _ _ w hr
  · exact rright_6 _ _ _ _ _ _ _ _ _ _ _ _ _ _ _ _ _ _ _ _ _ w hr
  · exact rright_7 _ _ _ _ _ _ _ _ _ _ _ _ _ _ _ _ _ _ _ _ _ w hr
end Go.Proofs.YthfglhafphfhiaaGreat
/- The walks over the reference of records: a checkpoint's bytes in its record; the bytes of any record that may be. -/
namespace Go.Proofs.YthfglhafphfhiaaGreat
open Go.RowKit
/-- The reference's body, of any record that may be. -/
theorem rbody_any (r : Rc.Rec) (_hR : Rc.Right r) (A B : Option Addr) (c d : Nat) (w : World) (hr : RecR w r A c B d) :
    Calls Tryz.prog 111 #[recV r (.slice A r.txns.length c) (.slice B r.dirty.length d)] w fun e w' => e = .returned (.string (Rc.mk (Rc.bodyB r))) ∧ Below w.heap.size w w' := by
  obtain ⟨lsn, prev, txn, kind, page, next, nu, ⟨ok, os, oo, on⟩, how, root, ⟨ek, ep, es⟩, ts, ds⟩ := r
  have h9 : kind = 1 ∨ kind = 4 ∨ kind = 5 ∨ kind = 6 ∨ kind = 7 := hr.kd
  dsimp only [recV, recA]
  rcases h9 with rfl | rfl | rfl | rfl | rfl
  · exact rbody_1 lsn prev txn page next nu ok os root ep es how oo on ek ts ds A B c d w
  · exact rbody_4 lsn prev txn page next nu ok os root ep es how oo on ek ts ds A B c d w
  · exact rbody_5 lsn prev txn page next nu ok os root ep es how oo on ek ts ds A B c d w
  · exact rbody_6 lsn prev txn page next nu ok os root ep es how oo on ek ts ds A B c d w
  · exact rbody_7 lsn prev txn page next nu ok os root ep es how oo on ek ts ds A B c d w
end Go.Proofs.YthfglhafphfhiaaGreat
/- The walks over the references of records and of the log: Put, New, room, filled, piece. -/
namespace Go.Proofs.YthfglhafphfhiaaGreat
open Go.RowKit
set_option maxRecDepth 100000 in
set_option maxHeartbeats 4000000 in
theorem refput_no (r : Rc.Rec) (hR : ¬ Rc.Right r) (A D : Option Addr) (c d : Nat) (w : World) (hr : RecR w r A c D d) :
    Calls Tryz.prog 101 #[recV r (.slice A r.txns.length c) (.slice D r.dirty.length d)] w fun e w' => e = .returned (.tuple #[.string ⟨#[]⟩, .int .i64 1]) ∧ Below w.heap.size w w' := by
  have HR := Lib.hid (fun W (h : Below w.heap.size w W) => rright_any r A D c d W (hr.below h))
  have hb : Rc.rightB r = false := by
    cases h : Rc.rightB r with
    | false => rfl
    | true => exact absurd (Rc.rightB_iff.1 h) hR
  rw [hb] at HR
  have HA := Lib.hid (heap_alloc_new w (.cells (recA r (.slice A r.txns.length c) (.slice D r.dirty.length d)) 85))
  clear hR hb hr
  obtain ⟨lsn, prev, txn, kind, page, next, nu, ⟨ok, os, oo, on⟩, how, root, ⟨ek, ep, es⟩, ts, ds⟩ := r
  dsimp only [recV, recA] at HR HA ⊢
  go_enter Tryz.func101, Tryz.ntmps101
  go_wp2_with (first
    | (with_reducible refine listLoad (by kernel_rfl) 85 (.tmp 1) rfl w.heap.size rfl #[.int .i64 lsn, .int .i64 prev, .int .i64 txn, .int .i64 kind, .int .i64 page, .int .i64 next, .int .i64 nu, .int .i64 ok, .int .i64 os, .string oo, .string on, .int .i64 how, .int .i64 root, .string ek, .int .i64 ep, .int .i64 es, .slice A ts.length c, .slice D ds.length d] _ HA.out _ Tryz.underlying85 (by kernel_rfl) (by kernel_rfl) ?_)
    | (go_at_call 110; (with_reducible refine (HR.out _ (allocB _ _)).mono ?_); rintro e w1 ⟨rfl, hb1⟩))
  go_ret2
  exact ⟨rfl, joinB (allocB _ _) hb1⟩
set_option maxRecDepth 100000 in
set_option maxHeartbeats 4000000 in
theorem refput_yes (r : Rc.Rec) (hR : Rc.Right r) (A D : Option Addr) (c d : Nat) (w : World) (hr : RecR w r A c D d) :
    Calls Tryz.prog 101 #[recV r (.slice A r.txns.length c) (.slice D r.dirty.length d)] w fun e w' => e = .returned (.tuple #[.string ⟨(Lg.putR r).toArray⟩, .int .i64 0]) ∧ Below w.heap.size w w' := by
  have HR := Lib.hid (fun W (h : Below w.heap.size w W) => rright_any r A D c d W (hr.below h))
  rw [Rc.rightB_yes hR] at HR
  have HB := Lib.hid (fun W (h : Below w.heap.size w W) => rbody_any r hR A D c d W (hr.below h))
  have hlen := Rc.bodyB_len hR
  obtain ⟨L, hL⟩ : ∃ L, L = Rc.bodyB r := ⟨_, rfl⟩
  have hfin : (⟨(Lg.putR r).toArray⟩ : ByteArray) = Rc.mk (Rc.p (L.length : Int) 4 ++ Rc.p ((Oct.sumN L : Nat) : Int) 4 ++ L) := by
    have h9 : L.length ≤ 40000 := by rw [hL]; exact hlen.2
    have e1 : Oct.word (L.length : Int) = L.length := Oct.word_nat _ (by omega)
    have e2 : Oct.word ((Oct.sumN L : Nat) : Int) = Oct.sumN L := Oct.word_nat _ (by have := Oct.sumN_lt L; omega)
    unfold Lg.putR Rc.mk Rc.p
    rw [e1, e2, ← hL, List.append_assoc]
  rw [hfin]
  rw [← hL] at HB hlen
  clear hfin
  have hll : L.length ≤ 40000 := by omega
  have HS := Lib.hid (fun W => rsum_any (Rc.mk L) (by rw [Rc.mk_size]; omega) W)
  rw [show (Rc.mk L).data.toList = L from rfl] at HS
  have HP1 := Lib.hid (fun W => show Calls Tryz.prog 78 #[.int .i64 (L.length : Int), .int .i64 4] W fun e w' => e = .returned (.string (Rc.mk (Rc.p (L.length : Int) 4))) ∧ Below W.heap.size W w' from rput_mk (L.length : Int) 4 (by omega) W)
  have HP2 := Lib.hid (fun W => show Calls Tryz.prog 78 #[.int .i64 ((Oct.sumN L : Nat) : Int), .int .i64 4] W fun e w' => e = .returned (.string (Rc.mk (Rc.p ((Oct.sumN L : Nat) : Int) 4))) ∧ Below W.heap.size W w' from rput_mk ((Oct.sumN L : Nat) : Int) 4 (by omega) W)
  have h4 : ∀ n, (Rc.p n 4).length = 4 := fun n => Oct.putL_length _ _
  have HA1 := fun W => add_mk (Rc.p (L.length : Int) 4) (Rc.p ((Oct.sumN L : Nat) : Int) 4) (by rw [h4, h4]; omega) W
  have HA2 := fun W => add_mk (Rc.p (L.length : Int) 4 ++ Rc.p ((Oct.sumN L : Nat) : Int) 4) L (by rw [List.length_append, h4, h4]; omega) W
  have hys : (Rc.mk L).size = L.length := Rc.mk_size L
  generalize ((Oct.sumN L : Nat) : Int) = q at HS HP2 HA1 HA2 ⊢
  obtain ⟨z3, hz3⟩ : ∃ z, z = Rc.mk (Rc.p (L.length : Int) 4 ++ Rc.p q 4 ++ L) := ⟨_, rfl⟩
  rw [← hz3] at HA2 ⊢
  obtain ⟨z2, hz2⟩ : ∃ z, z = Rc.mk (Rc.p (L.length : Int) 4 ++ Rc.p q 4) := ⟨_, rfl⟩
  rw [← hz2] at HA1 HA2
  clear hz2 hz3
  generalize Rc.mk (Rc.p (L.length : Int) 4) = x1 at HP1 HA1
  generalize Rc.mk (Rc.p q 4) = x2 at HP2 HA1
  generalize Rc.mk L = y at HB HS HA2 hys
  rw [← hys] at HP1
  clear hL hR hlen hll hys h4
  have HA := Lib.hid (heap_alloc_new w (.cells (recA r (.slice A r.txns.length c) (.slice D r.dirty.length d)) 85))
  clear hr
  obtain ⟨lsn, prev, txn, kind, page, next, nu, ⟨ok, os, oo, on⟩, how, root, ⟨ek, ep, es⟩, ts, ds⟩ := r
  dsimp only [recV, recA] at HR HA HB ⊢
  go_enter Tryz.func101, Tryz.ntmps101
  go_upto_region 3 with (first
    | (with_reducible refine listLoad (by kernel_rfl) 85 (.tmp 1) rfl w.heap.size rfl #[.int .i64 lsn, .int .i64 prev, .int .i64 txn, .int .i64 kind, .int .i64 page, .int .i64 next, .int .i64 nu, .int .i64 ok, .int .i64 os, .string oo, .string on, .int .i64 how, .int .i64 root, .string ek, .int .i64 ep, .int .i64 es, .slice A ts.length c, .slice D ds.length d] _ HA.out _ Tryz.underlying85 (by kernel_rfl) (by kernel_rfl) ?_)
    | (go_at_call 110; (with_reducible refine (HR.out _ (allocB _ _)).mono ?_); rintro e w1 ⟨rfl, hb1⟩))
  have HB1 := Lib.hid (joinB (allocB w _) hb1)
  have HX1 := Lib.hid (blkOld HA.out hb1)
  clear hb1 HA HR
  go_wp2_with (first
    | (with_reducible refine listLoad (by kernel_rfl) 85 (.tmp 1) rfl w.heap.size rfl #[.int .i64 lsn, .int .i64 prev, .int .i64 txn, .int .i64 kind, .int .i64 page, .int .i64 next, .int .i64 nu, .int .i64 ok, .int .i64 os, .string oo, .string on, .int .i64 how, .int .i64 root, .string ek, .int .i64 ep, .int .i64 es, .slice A ts.length c, .slice D ds.length d] _ HX1.out _ Tryz.underlying85 (by kernel_rfl) (by kernel_rfl) ?_)
    | (go_at_call 111; (with_reducible refine (HB.out _ HB1.out).mono ?_); rintro e w2 ⟨rfl, hb2⟩)
    | (go_at_call 78; (with_reducible refine (HP1.out _).mono ?_); rintro e w3 ⟨rfl, hb3⟩)
    | (go_at_call 80; (with_reducible refine (HS.out _).mono ?_); rintro e w4 ⟨rfl, rfl⟩)
    | (go_at_call 78; (with_reducible refine (HP2.out _).mono ?_); rintro e w5 ⟨rfl, hb5⟩))
  go_ret2
  exact ⟨rfl, joinB (joinB (joinB HB1.out hb2) hb3) hb5⟩
/-- How many bytes a log can have, by the reference. -/
def Lg.roomR (n : Int) : Int := if n < 0 ∨ 1099511627776 < n then 0 else n * 128
set_option maxRecDepth 100000 in
theorem rroom_any (f n e s : Int) (t : ByteArray) (w : World) :
    Calls Tryz.prog 102 #[.agg #[.int .i64 f, .int .i64 n, .int .i64 e, .int .i64 s, .string t]] w fun x w' => x = .returned (.int .i64 (Lg.roomR n)) ∧ Below w.heap.size w w' := by
  by_cases h1 : n < 0
  · rw [show Lg.roomR n = 0 by unfold Lg.roomR; rw [if_pos (.inl h1)]]
    go_enter Tryz.func102, Tryz.ntmps102
    go_wp2_with fail
    go_ret
    exact ⟨by simp, allocB _ _⟩
  · by_cases h2 : 1099511627776 < n
    · rw [show Lg.roomR n = 0 by unfold Lg.roomR; rw [if_pos (.inr h2)]]
      go_enter Tryz.func102, Tryz.ntmps102
      go_wp2_with fail
      go_ret
      exact ⟨by simp, allocB _ _⟩
    · rw [show Lg.roomR n = n * 128 by unfold Lg.roomR; rw [if_neg (by omega)]]
      have hw : IntKind.i64.wrap (n * 128) = n * 128 := IntWalk.i64_in _ (by omega)
      go_enter Tryz.func102, Tryz.ntmps102
      go_wp2_with fail
      go_ret
      exact ⟨by simp, allocB _ _⟩
end Go.Proofs.YthfglhafphfhiaaGreat
/- The walk over the reference of the log: Append. -/
namespace Go.Proofs.YthfglhafphfhiaaGreat
open Go.RowKit
set_option maxRecDepth 100000 in
set_option maxHeartbeats 8000000 in
theorem rappend_any (l : Lg.Lo) (he0 : 0 ≤ l.end_) (he1 : l.end_ ≤ 1000000000) (hn0 : 0 ≤ l.n) (hn1 : l.n ≤ 1000000000) (ht : l.tail.size ≤ 1000000000) (r : Rc.Rec) (A D : Option Addr) (c d : Nat) (w : World) (hr : RecR w r A c D d) :
    Calls Tryz.prog 85 #[logV l, recV r (.slice A r.txns.length c) (.slice D r.dirty.length d)] w (AppOut (Lg.appendD l r) w) := by
  have HPY := Lib.hid (fun hR W (hb : Below w.heap.size w W) => refput_yes { r with lsn := l.end_ + 1 } hR A D c d W ⟨hr.txns.below hb, hr.dirty.below hb, hr.small, hr.kd⟩)
  have HPN := Lib.hid (fun hR W (hb : Below w.heap.size w W) => refput_no { r with lsn := l.end_ + 1 } hR A D c d W ⟨hr.txns.below hb, hr.dirty.below hb, hr.small, hr.kd⟩)
  have HN := Lib.hid (@Lg.append_wrong l r)
  have HFU := Lib.hid (@Lg.append_full l r)
  have HOK := Lib.hid (@Lg.append_ok l r)
  generalize Lg.appendD l r = o at HN HFU HOK ⊢
  clear hr
  obtain ⟨fr, n, en, sf, tl⟩ := l
  obtain ⟨lsn, prev, txn, kind, page, next, nu, ⟨ok, os, oo, on⟩, how, root, ⟨ek, ep, es⟩, ts, ds⟩ := r
  dsimp only [recV, recA, logV] at HPY HPN HN HFU HOK he0 he1 hn0 hn1 ht ⊢
  have hw1 : IntKind.i64.wrap (en + 1) = en + 1 := IntWalk.i64_in _ (by omega)
  by_cases hR : Rc.Right ⟨en + 1, prev, txn, kind, page, next, nu, ⟨ok, os, oo, on⟩, how, root, ⟨ek, ep, es⟩, ts, ds⟩
  · have HP := Lib.hid (HPY.out hR)
    have HFU2 := Lib.hid (HFU.out hR)
    have HOK2 := Lib.hid (HOK.out hR)
    have hpl0 : (Lg.putR ⟨en + 1, prev, txn, kind, page, next, nu, ⟨ok, os, oo, on⟩, how, root, ⟨ek, ep, es⟩, ts, ds⟩).length ≤ 40008 := by rw [Lg.putR_len]; have := (Rc.bodyB_len hR).2; omega
    obtain ⟨x, hx⟩ : ∃ x : ByteArray, x = ⟨(Lg.putR ⟨en + 1, prev, txn, kind, page, next, nu, ⟨ok, os, oo, on⟩, how, root, ⟨ek, ep, es⟩, ts, ds⟩).toArray⟩ := ⟨_, rfl⟩
    have hxs : (Lg.putR ⟨en + 1, prev, txn, kind, page, next, nu, ⟨ok, os, oo, on⟩, how, root, ⟨ek, ep, es⟩, ts, ds⟩).length = x.size := by rw [hx]; show _ = ((Lg.putR ⟨en + 1, prev, txn, kind, page, next, nu, ⟨ok, os, oo, on⟩, how, root, ⟨ek, ep, es⟩, ts, ds⟩).toArray).size; simp
    rw [hxs] at HFU2 HOK2 hpl0
    rw [← hx] at HP HOK2
    have hpl := hpl0
    clear HPY HPN HN HFU HOK hR hx hxs hpl0
    go_enter Tryz.func85, Tryz.ntmps85
    go_upto_region 1 with fail
    have H0 := Lib.hid (show BxL w.heap.size w [(#[.int .i64 fr, .int .i64 n, .int .i64 en, .int .i64 sf, .string tl], 31), (#[.int .i64 lsn, .int .i64 prev, .int .i64 txn, .int .i64 kind, .int .i64 page, .int .i64 next, .int .i64 nu, .int .i64 ok, .int .i64 os, .string oo, .string on, .int .i64 how, .int .i64 root, .string ek, .int .i64 ep, .int .i64 es, .slice A ts.length c, .slice D ds.length d], 85), (#[.int .i64 0, .int .i64 0, .int .i64 0, .int .i64 0, .string ⟨#[]⟩], 31)] (((w.alloc (.cells #[.int .i64 fr, .int .i64 n, .int .i64 en, .int .i64 sf, .string tl] 31)).alloc (.cells #[.int .i64 lsn, .int .i64 prev, .int .i64 txn, .int .i64 kind, .int .i64 page, .int .i64 next, .int .i64 nu, .int .i64 ok, .int .i64 os, .string oo, .string on, .int .i64 how, .int .i64 root, .string ek, .int .i64 ep, .int .i64 es, .slice A ts.length c, .slice D ds.length d] 85)).alloc (.cells #[.int .i64 0, .int .i64 0, .int .i64 0, .int .i64 0, .string ⟨#[]⟩] 31)) from (((BxL.nil (Below.refl w.heap.size w)).new (by simp) #[.int .i64 fr, .int .i64 n, .int .i64 en, .int .i64 sf, .string tl] 31).new (by simp) #[.int .i64 lsn, .int .i64 prev, .int .i64 txn, .int .i64 kind, .int .i64 page, .int .i64 next, .int .i64 nu, .int .i64 ok, .int .i64 os, .string oo, .string on, .int .i64 how, .int .i64 root, .string ek, .int .i64 ep, .int .i64 es, .slice A ts.length c, .slice D ds.length d] 85).new (by simp) #[.int .i64 0, .int .i64 0, .int .i64 0, .int .i64 0, .string ⟨#[]⟩] 31)
    obtain ⟨W0, hW0⟩ : ∃ W, W = (((w.alloc (.cells #[.int .i64 fr, .int .i64 n, .int .i64 en, .int .i64 sf, .string tl] 31)).alloc (.cells #[.int .i64 lsn, .int .i64 prev, .int .i64 txn, .int .i64 kind, .int .i64 page, .int .i64 next, .int .i64 nu, .int .i64 ok, .int .i64 os, .string oo, .string on, .int .i64 how, .int .i64 root, .string ek, .int .i64 ep, .int .i64 es, .slice A ts.length c, .slice D ds.length d] 85)).alloc (.cells #[.int .i64 0, .int .i64 0, .int .i64 0, .int .i64 0, .string ⟨#[]⟩] 31)) := ⟨_, rfl⟩
    have hs0 : W0.heap.size = w.heap.size + 3 := by rw [hW0]; simp
    rw [← hW0] at H0 ⊢
    have hc0 := blkCell (H0.out.get 0 _ rfl)
    have hc1 := blkCell (H0.out.get 1 _ rfl)
    have hz1 := blkFrozen (H0.out.get 1 _ rfl)
    simp only [Nat.add_zero] at hc0
    clear hW0
    go_upto_region 2 with fail
    have H1 := Lib.hid (show BxL w.heap.size w [(#[.int .i64 fr, .int .i64 n, .int .i64 en, .int .i64 sf, .string tl], 31), (#[.int .i64 (en + 1), .int .i64 prev, .int .i64 txn, .int .i64 kind, .int .i64 page, .int .i64 next, .int .i64 nu, .int .i64 ok, .int .i64 os, .string oo, .string on, .int .i64 how, .int .i64 root, .string ek, .int .i64 ep, .int .i64 es, .slice A ts.length c, .slice D ds.length d], 85), (#[.int .i64 0, .int .i64 0, .int .i64 0, .int .i64 0, .string ⟨#[]⟩], 31)] (W0.setCell ⟨w.heap.size + 1, 0, none⟩ (.int .i64 (en + 1))) from by have h := H0.out.set 1 0 (.int .i64 (en + 1)) _ rfl; simpa using h)
    obtain ⟨W1, hW1⟩ : ∃ W, W = W0.setCell ⟨w.heap.size + 1, 0, none⟩ (.int .i64 (en + 1)) := ⟨_, rfl⟩
    rw [← hW1] at H1 ⊢
    clear hW1 hc0 hc1 hz1 H0 hs0
    have HX1 := Lib.hid (H1.out.get 1 _ rfl)
    go_upto_region 3 with (first
      | (with_reducible refine listLoad (by kernel_rfl) 85 (.tmp 3) rfl (w.heap.size + 1) rfl #[.int .i64 (en + 1), .int .i64 prev, .int .i64 txn, .int .i64 kind, .int .i64 page, .int .i64 next, .int .i64 nu, .int .i64 ok, .int .i64 os, .string oo, .string on, .int .i64 how, .int .i64 root, .string ek, .int .i64 ep, .int .i64 es, .slice A ts.length c, .slice D ds.length d] _ HX1.out _ Tryz.underlying85 (by kernel_rfl) (by kernel_rfl) ?_)
      | (go_at_call 101; (with_reducible refine (HP.out _ H1.out.below).mono ?_); rintro e w2 ⟨rfl, hb2⟩))
    have H2 := Lib.hid (H1.out.step hb2)
    clear hb2 H1 HX1 HP
    have HXA := Lib.hid (show w2.drew.heap[w.heap.size]? = some (.cells #[.int .i64 fr, .int .i64 n, .int .i64 en, .int .i64 sf, .string tl] 31 (0, 0)) from by have h := H2.out.drew.get 0 _ rfl; simpa using h)
    have HRM := Lib.hid (fun W => show Calls Tryz.prog 102 #[.agg #[.int .i64 fr, .int .i64 n, .int .i64 en, .int .i64 sf, .string tl]] W fun e w' => e = .returned (.int .i64 (n * 128)) ∧ Below W.heap.size W w' from by
      have h9 := rroom_any fr n en sf tl W
      rw [show Lg.roomR n = n * 128 from by unfold Lg.roomR; rw [if_neg (by omega)]] at h9
      exact h9)
    go_upto_region 5 with fail
    refine wp_region_held_drew (S := (fun u => u.heap[w.heap.size]? = some (.cells #[.int .i64 fr, .int .i64 n, .int .i64 en, .int .i64 sf, .string tl] 31 (0, 0)))) (by kernel_rfl) ?_ (fun hHeld => ?_)
    · first | exact hSn | exact HXA.out
    refine tkW 0 (some 22) (v := ?_) rfl ?_ ?_
    rotate_left
    · intro u hSu; have hSv := blkCell hSu; clear hSu; go_simp; (try with_reducible rfl)
    try simp only [Act.put, List.setIfInBounds_toArray, List.set_cons_zero, List.set_cons_succ]
    refine tkW 1 (some 23) (v := ?_) rfl ?_ ?_
    rotate_left
    · intro u hSu; have hSv := blkCell hSu; clear hSu; go_simp; (try with_reducible rfl)
    try simp only [Act.put, List.setIfInBounds_toArray, List.set_cons_zero, List.set_cons_succ]
    refine tkV 2 (some 24) (v := .agg #[.int .i64 fr, .int .i64 n, .int .i64 en, .int .i64 sf, .string tl]) rfl (yieldsIf_load_mid (by rfl) 31 (.tmp 2) rfl w.heap.size 0 (by rfl) #[.int .i64 fr, .int .i64 n, .int .i64 en, .int .i64 sf, .string tl].toList _ (fun u hu => (by intro j v hj; rw [Nat.zero_add, blkCell hu]; simpa using hj)) Tryz.underlying31 (by kernel_rfl) (by kernel_rfl)) ?_
    try simp only [Act.put, List.setIfInBounds_toArray, List.set_cons_zero, List.set_cons_succ]
    refine tkW 4 (some 26) (v := ?_) rfl ?_ ?_
    rotate_left
    · intro u hSu; have hSv := blkCell hSu; clear hSu; go_simp; (try with_reducible rfl)
    try simp only [Act.put, List.setIfInBounds_toArray, List.set_cons_zero, List.set_cons_succ]
    refine tkW 5 (some 27) (v := ?_) rfl ?_ ?_
    rotate_left
    · intro u hSu; have hSv := blkCell hSu; clear hSu; go_simp; (try with_reducible rfl)
    try simp only [Act.put, List.setIfInBounds_toArray, List.set_cons_zero, List.set_cons_succ]
    refine rdH 3 (some 25) rfl (fun K hK => ?_)
    go_simp
    refine (HRM.out _).mono ?_; rintro e w3 ⟨rfl, hb3⟩
    have hSn := blkOld HXA.out hb3
    refine hK.out _ _ ?_ (fun hHeld => ?_)
    · first | exact hSn | exact HXA.out
    clear hK K
    try simp only [Act.put, List.setIfInBounds_toArray, List.set_cons_zero, List.set_cons_succ]
    refine tkW 6 (some 28) (v := ?_) rfl ?_ ?_
    rotate_left
    · intro u hSu; have hSv := blkCell hSu; clear hSu; go_simp; (try with_reducible rfl)
    try simp only [Act.put, List.setIfInBounds_toArray, List.set_cons_zero, List.set_cons_succ]
    refine tkW 7 (some 29) (v := ?_) rfl ?_ ?_
    rotate_left
    · intro u hSu; have hSv := blkCell hSu; clear hSu; go_simp; (try with_reducible rfl)
    try simp only [Act.put, List.setIfInBounds_toArray, List.set_cons_zero, List.set_cons_succ]
    refine wpAnyH_done (by kernel_rfl) ?_ _
    clear hHeld hSn HRM HXA
    have H2' := Lib.hid (H2.out.drew.step hb3)
    clear hb3 H2
    have H2 := H2'
    clear H2'
    have hm : IntKind.i64.wrap (n * 128) = n * 128 := IntWalk.i64_in _ (by omega)
    have hm2 : IntKind.i64.wrap (n * 128 - en) = n * 128 - en := IntWalk.i64_in _ (by omega)
    have hm3 : IntKind.i64.wrap (en + (x.size : Int)) = en + (x.size : Int) := IntWalk.i64_in _ (by omega)
    have hfq : n * 128 - en < (x.size : Int) ↔ n * 128 - (x.size : Int) < en := by omega
    by_cases hfull : n * 128 - en < (x.size : Int)
    · have HO := Lib.hid (HFU2.out (by omega))
      have HX2 := Lib.hid (show w3.heap[w.heap.size]? = some (.cells #[.int .i64 fr, .int .i64 n, .int .i64 en, .int .i64 sf, .string tl] 31 (0, 0)) from by have h := H2.out.get 0 _ rfl; simpa using h)
      have hc2 := blkCell HX2.out
      clear HFU2 HOK2
      go_wp2_with (first
        | (with_reducible refine listLoad (by kernel_rfl) 31 (.tmp 2) rfl w.heap.size rfl #[.int .i64 fr, .int .i64 n, .int .i64 en, .int .i64 sf, .string tl] _ HX2.out _ Tryz.underlying31 (by kernel_rfl) (by kernel_rfl) ?_)
        | (with_reducible refine listStore (by kernel_rfl) 31 (.tmp 4) (.tmp 30) rfl (w.heap.size + 2) #[.int .i64 fr, .int .i64 n, .int .i64 en, .int .i64 sf, .string tl] _ _ rfl rfl (H2.out.get 2 _ rfl) (by kernel_rfl) (by kernel_rfl) (by kernel_rfl) ?_))
      refine bodyPost_ret (v := .tuple #[.agg #[.int .i64 fr, .int .i64 n, .int .i64 en, .int .i64 sf, .string tl], .int .i64 0, .int .i64 18]) (results_cell3 rfl _ _ rfl (load_whole (setRow_heap _ _ _ _ _ _ (H2.out.get 2 _ rfl)) Tryz.underlying31 (by kernel_rfl) (by kernel_rfl)) rfl rfl) rfl ?_
      rw [HO.out]
      exact ⟨rfl, (H2.out.row 2 _ _ rfl).below⟩
    · have HO := Lib.hid (HOK2.out (by omega))
      have hadd : ∀ W : World, (Op.stringOp .add tl x).run Tryz.prog W = .ok (.string (tl ++ x)) W := fun W => run_string_add_sum W _ _ (by omega)
      have HX2 := Lib.hid (show w3.heap[w.heap.size]? = some (.cells #[.int .i64 fr, .int .i64 n, .int .i64 en, .int .i64 sf, .string tl] 31 (0, 0)) from by have h := H2.out.get 0 _ rfl; simpa using h)
      have hc2 := blkCell HX2.out
      have hz2 := blkFrozen HX2.out
      clear HFU2 HOK2
      go_upto_region 8 with fail
      have H3 := Lib.hid (show BxL w.heap.size w [(#[.int .i64 fr, .int .i64 n, .int .i64 en, .int .i64 sf, .string (tl ++ x)], 31), (#[.int .i64 (en + 1), .int .i64 prev, .int .i64 txn, .int .i64 kind, .int .i64 page, .int .i64 next, .int .i64 nu, .int .i64 ok, .int .i64 os, .string oo, .string on, .int .i64 how, .int .i64 root, .string ek, .int .i64 ep, .int .i64 es, .slice A ts.length c, .slice D ds.length d], 85), (#[.int .i64 0, .int .i64 0, .int .i64 0, .int .i64 0, .string ⟨#[]⟩], 31)] (w3.setCell ⟨w.heap.size, 4, none⟩ (.string (tl ++ x))) from by have h := H2.out.set 0 4 (.string (tl ++ x)) _ rfl; simpa using h)
      obtain ⟨W3, hW3⟩ : ∃ W, W = w3.setCell ⟨w.heap.size, 4, none⟩ (.string (tl ++ x)) := ⟨_, rfl⟩
      rw [← hW3] at H3 ⊢
      clear hW3 hc2 hz2 HX2 H2
      have hc3 := blkCell (H3.out.get 0 _ rfl)
      have hz3 := blkFrozen (H3.out.get 0 _ rfl)
      simp only [Nat.add_zero] at hc3 hz3
      go_upto_region 9 with fail
      have H4 := Lib.hid (show BxL w.heap.size w [(#[.int .i64 fr, .int .i64 n, .int .i64 (en + (x.size : Int)), .int .i64 sf, .string (tl ++ x)], 31), (#[.int .i64 (en + 1), .int .i64 prev, .int .i64 txn, .int .i64 kind, .int .i64 page, .int .i64 next, .int .i64 nu, .int .i64 ok, .int .i64 os, .string oo, .string on, .int .i64 how, .int .i64 root, .string ek, .int .i64 ep, .int .i64 es, .slice A ts.length c, .slice D ds.length d], 85), (#[.int .i64 0, .int .i64 0, .int .i64 0, .int .i64 0, .string ⟨#[]⟩], 31)] (W3.setCell ⟨w.heap.size, 2, none⟩ (.int .i64 (en + (x.size : Int)))) from by have h := H3.out.set 0 2 (.int .i64 (en + (x.size : Int))) _ rfl; simpa using h)
      obtain ⟨W4, hW4⟩ : ∃ W, W = W3.setCell ⟨w.heap.size, 2, none⟩ (.int .i64 (en + (x.size : Int))) := ⟨_, rfl⟩
      rw [← hW4] at H4 ⊢
      clear hW4 hc3 hz3 H3 hadd
      have HD4 := Lib.hid H4.out.drew
      refine wp_region_held_drew (S := (fun u => u.heap[w.heap.size]? = some (.cells #[.int .i64 fr, .int .i64 n, .int .i64 (en + (x.size : Int)), .int .i64 sf, .string (tl ++ x)] 31 (0, 0)) ∧ u.heap[w.heap.size + 1]? = some (.cells #[.int .i64 (en + 1), .int .i64 prev, .int .i64 txn, .int .i64 kind, .int .i64 page, .int .i64 next, .int .i64 nu, .int .i64 ok, .int .i64 os, .string oo, .string on, .int .i64 how, .int .i64 root, .string ek, .int .i64 ep, .int .i64 es, .slice A ts.length c, .slice D ds.length d] 85 (0, 0)))) (by kernel_rfl) ?_ (fun hHeld => ?_)
      · first | exact hSn | exact ⟨(by have h := HD4.out.get 0 _ rfl; simpa using h), HD4.out.get 1 _ rfl⟩
      refine tkW 0 (some 42) (v := ?_) rfl ?_ ?_
      rotate_left
      · intro u hSu; have hSa := blkCell hSu.1; have hSb := blkCell hSu.2; clear hSu; go_simp; (try with_reducible rfl)
      try simp only [Act.put, List.setIfInBounds_toArray, List.set_cons_zero, List.set_cons_succ]
      refine tkW 1 (some 43) (v := ?_) rfl ?_ ?_
      rotate_left
      · intro u hSu; have hSa := blkCell hSu.1; have hSb := blkCell hSu.2; clear hSu; go_simp; (try with_reducible rfl)
      try simp only [Act.put, List.setIfInBounds_toArray, List.set_cons_zero, List.set_cons_succ]
      refine tkW 2 (some 44) (v := ?_) rfl ?_ ?_
      rotate_left
      · intro u hSu; have hSa := blkCell hSu.1; have hSb := blkCell hSu.2; clear hSu; go_simp; (try with_reducible rfl)
      try simp only [Act.put, List.setIfInBounds_toArray, List.set_cons_zero, List.set_cons_succ]
      refine rdH 3 none rfl (fun K hK => ?_)
      refine wantedIf (by rfl) ?_
      refine wp_store_whole 31 (.tmp 4) (.tmp 42) rfl (w.heap.size + 2) #[.int .i64 fr, .int .i64 n, .int .i64 (en + (x.size : Int)), .int .i64 sf, .string (tl ++ x)] _ _ rfl rfl (HD4.out.get 2 _ rfl) (by kernel_rfl) (by kernel_rfl) (by kernel_rfl) ?_
      have hB5 := HD4.out.row 2 #[.int .i64 fr, .int .i64 n, .int .i64 (en + (x.size : Int)), .int .i64 sf, .string (tl ++ x)] _ rfl
      have hSn := And.intro (show _ = some (Obj.cells #[.int .i64 fr, .int .i64 n, .int .i64 (en + (x.size : Int)), .int .i64 sf, .string (tl ++ x)] 31 (0, 0)) from by have h := hB5.get 0 _ rfl; simpa using h) (hB5.get 1 _ rfl)
      refine hK.out _ _ ?_ (fun hHeld => ?_)
      · first | exact hSn | exact ⟨(by have h := HD4.out.get 0 _ rfl; simpa using h), HD4.out.get 1 _ rfl⟩
      clear hK K
      try simp only [Act.put]
      refine tkW 4 (some 5) (v := ?_) rfl ?_ ?_
      rotate_left
      · intro u hSu; have hSa := blkCell hSu.1; have hSb := blkCell hSu.2; clear hSu; go_simp; (try with_reducible rfl)
      try simp only [Act.put, List.setIfInBounds_toArray, List.set_cons_zero, List.set_cons_succ]
      refine tkW 5 (some 6) (v := ?_) rfl ?_ ?_
      rotate_left
      · intro u hSu; have hSa := blkCell hSu.1; have hSb := blkCell hSu.2; clear hSu; go_simp; (try with_reducible rfl)
      try simp only [Act.put, List.setIfInBounds_toArray, List.set_cons_zero, List.set_cons_succ]
      refine wpAnyH_done (by kernel_rfl) ?_ _
      clear hHeld
      go_wp2_with fail
      refine bodyPost_ret (v := .tuple #[.agg #[.int .i64 fr, .int .i64 n, .int .i64 (en + (x.size : Int)), .int .i64 sf, .string (tl ++ x)], .int .i64 (en + 1), .int .i64 0]) (results_cell3 rfl _ _ rfl (load_whole (setRow_heap _ _ _ _ _ _ (HD4.out.get 2 _ rfl)) Tryz.underlying31 (by kernel_rfl) (by kernel_rfl)) rfl rfl) rfl ?_
      rw [HO.out]
      exact ⟨rfl, hB5.below⟩
  · have HO := Lib.hid (HN.out hR)
    have HP := Lib.hid (HPN.out hR)
    clear HPY HPN HN HFU HOK hR
    go_enter Tryz.func85, Tryz.ntmps85
    go_upto_region 1 with fail
    have H0 := Lib.hid (show BxL w.heap.size w [(#[.int .i64 fr, .int .i64 n, .int .i64 en, .int .i64 sf, .string tl], 31), (#[.int .i64 lsn, .int .i64 prev, .int .i64 txn, .int .i64 kind, .int .i64 page, .int .i64 next, .int .i64 nu, .int .i64 ok, .int .i64 os, .string oo, .string on, .int .i64 how, .int .i64 root, .string ek, .int .i64 ep, .int .i64 es, .slice A ts.length c, .slice D ds.length d], 85), (#[.int .i64 0, .int .i64 0, .int .i64 0, .int .i64 0, .string ⟨#[]⟩], 31)] (((w.alloc (.cells #[.int .i64 fr, .int .i64 n, .int .i64 en, .int .i64 sf, .string tl] 31)).alloc (.cells #[.int .i64 lsn, .int .i64 prev, .int .i64 txn, .int .i64 kind, .int .i64 page, .int .i64 next, .int .i64 nu, .int .i64 ok, .int .i64 os, .string oo, .string on, .int .i64 how, .int .i64 root, .string ek, .int .i64 ep, .int .i64 es, .slice A ts.length c, .slice D ds.length d] 85)).alloc (.cells #[.int .i64 0, .int .i64 0, .int .i64 0, .int .i64 0, .string ⟨#[]⟩] 31)) from (((BxL.nil (Below.refl w.heap.size w)).new (by simp) #[.int .i64 fr, .int .i64 n, .int .i64 en, .int .i64 sf, .string tl] 31).new (by simp) #[.int .i64 lsn, .int .i64 prev, .int .i64 txn, .int .i64 kind, .int .i64 page, .int .i64 next, .int .i64 nu, .int .i64 ok, .int .i64 os, .string oo, .string on, .int .i64 how, .int .i64 root, .string ek, .int .i64 ep, .int .i64 es, .slice A ts.length c, .slice D ds.length d] 85).new (by simp) #[.int .i64 0, .int .i64 0, .int .i64 0, .int .i64 0, .string ⟨#[]⟩] 31)
    obtain ⟨W0, hW0⟩ : ∃ W, W = (((w.alloc (.cells #[.int .i64 fr, .int .i64 n, .int .i64 en, .int .i64 sf, .string tl] 31)).alloc (.cells #[.int .i64 lsn, .int .i64 prev, .int .i64 txn, .int .i64 kind, .int .i64 page, .int .i64 next, .int .i64 nu, .int .i64 ok, .int .i64 os, .string oo, .string on, .int .i64 how, .int .i64 root, .string ek, .int .i64 ep, .int .i64 es, .slice A ts.length c, .slice D ds.length d] 85)).alloc (.cells #[.int .i64 0, .int .i64 0, .int .i64 0, .int .i64 0, .string ⟨#[]⟩] 31)) := ⟨_, rfl⟩
    have hs0 : W0.heap.size = w.heap.size + 3 := by rw [hW0]; simp
    rw [← hW0] at H0 ⊢
    have hc0 := blkCell (H0.out.get 0 _ rfl)
    have hc1 := blkCell (H0.out.get 1 _ rfl)
    have hz1 := blkFrozen (H0.out.get 1 _ rfl)
    simp only [Nat.add_zero] at hc0
    clear hW0
    go_upto_region 2 with fail
    have H1 := Lib.hid (show BxL w.heap.size w [(#[.int .i64 fr, .int .i64 n, .int .i64 en, .int .i64 sf, .string tl], 31), (#[.int .i64 (en + 1), .int .i64 prev, .int .i64 txn, .int .i64 kind, .int .i64 page, .int .i64 next, .int .i64 nu, .int .i64 ok, .int .i64 os, .string oo, .string on, .int .i64 how, .int .i64 root, .string ek, .int .i64 ep, .int .i64 es, .slice A ts.length c, .slice D ds.length d], 85), (#[.int .i64 0, .int .i64 0, .int .i64 0, .int .i64 0, .string ⟨#[]⟩], 31)] (W0.setCell ⟨w.heap.size + 1, 0, none⟩ (.int .i64 (en + 1))) from by have h := H0.out.set 1 0 (.int .i64 (en + 1)) _ rfl; simpa using h)
    obtain ⟨W1, hW1⟩ : ∃ W, W = W0.setCell ⟨w.heap.size + 1, 0, none⟩ (.int .i64 (en + 1)) := ⟨_, rfl⟩
    rw [← hW1] at H1 ⊢
    clear hW1 hc0 hc1 hz1 H0 hs0
    have HX1 := Lib.hid (H1.out.get 1 _ rfl)
    go_upto_region 3 with (first
      | (with_reducible refine listLoad (by kernel_rfl) 85 (.tmp 3) rfl (w.heap.size + 1) rfl #[.int .i64 (en + 1), .int .i64 prev, .int .i64 txn, .int .i64 kind, .int .i64 page, .int .i64 next, .int .i64 nu, .int .i64 ok, .int .i64 os, .string oo, .string on, .int .i64 how, .int .i64 root, .string ek, .int .i64 ep, .int .i64 es, .slice A ts.length c, .slice D ds.length d] _ HX1.out _ Tryz.underlying85 (by kernel_rfl) (by kernel_rfl) ?_)
      | (go_at_call 101; (with_reducible refine (HP.out _ H1.out.below).mono ?_); rintro e w3 ⟨rfl, hb2⟩))
    have H2 := Lib.hid (H1.out.step hb2)
    clear hb2 H1 HX1 HP
    have HX2 := Lib.hid (show w3.heap[w.heap.size]? = some (.cells #[.int .i64 fr, .int .i64 n, .int .i64 en, .int .i64 sf, .string tl] 31 (0, 0)) from by have h := H2.out.get 0 _ rfl; simpa using h)
    go_wp2_with (first
      | (with_reducible refine listLoad (by kernel_rfl) 31 (.tmp 2) rfl w.heap.size rfl #[.int .i64 fr, .int .i64 n, .int .i64 en, .int .i64 sf, .string tl] _ HX2.out _ Tryz.underlying31 (by kernel_rfl) (by kernel_rfl) ?_)
      | (with_reducible refine listStore (by kernel_rfl) 31 (.tmp 4) (.tmp 20) rfl (w.heap.size + 2) #[.int .i64 fr, .int .i64 n, .int .i64 en, .int .i64 sf, .string tl] _ _ rfl rfl (H2.out.get 2 _ rfl) (by kernel_rfl) (by kernel_rfl) (by kernel_rfl) ?_))
    refine bodyPost_ret (v := .tuple #[.agg #[.int .i64 fr, .int .i64 n, .int .i64 en, .int .i64 sf, .string tl], .int .i64 0, .int .i64 1]) (results_cell3 rfl _ _ rfl (load_whole (setRow_heap _ _ _ _ _ _ (H2.out.get 2 _ rfl)) Tryz.underlying31 (by kernel_rfl) (by kernel_rfl)) rfl rfl) rfl ?_
    rw [HO.out]
    exact ⟨rfl, (H2.out.row 2 _ _ rfl).below⟩
end Go.Proofs.YthfglhafphfhiaaGreat
