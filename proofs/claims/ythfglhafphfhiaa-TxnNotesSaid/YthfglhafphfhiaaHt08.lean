/- The walk over package rec: body, of every kind but the checkpoint's. -/
import Derived.Test.YthfglhafphfhiaaHt07
import Derived.Test.YthfglhafphfhiaaHt04
import Derived.Test.YthfglhafphfhiaaHt05
import Derived.Test.YthfglhafphfhiaaHt03
import Derived.Test.YthfglhafphfhiaaHt01
namespace Go.Proofs.Ythfglhafphfhiaa
open Go.RowKit
set_option maxRecDepth 100000 in
set_option maxHeartbeats 2000000 in
theorem body_bare (kind : Int) (hk : kind = 1 ∨ kind = 5 ∨ kind = 6 ∨ kind = 7) (lsn prev txn page next nu ok os how root ep es : Int) (oo on ek : ByteArray) (ts : List Rc.TxnAt) (ds : List Rc.DirtyAt) (T D : Value) (_zo : oo.size ≤ 65535) (_zn : on.size ≤ 65535) (_ze : ek.size ≤ 65535) (w : World) :
    Calls Try.prog 55 #[.agg #[.int .i64 lsn, .int .i64 prev, .int .i64 txn, .int .i64 kind, .int .i64 page, .int .i64 next, .int .i64 nu, .int .i64 ok, .int .i64 os, .string oo, .string on, .int .i64 how, .int .i64 root, .string ek, .int .i64 ep, .int .i64 es, T, D]] w fun e w' => e = .returned (.string ⟨(Rc.bodyB ⟨lsn, prev, txn, kind, page, next, nu, ⟨ok, os, oo, on⟩, how, root, ⟨ek, ep, es⟩, ts, ds⟩).toArray⟩) ∧ Below w.heap.size w w' := by
  have HOF := Lib.hid (fun W => of_any kind W)
  rw [show ofV kind = .tuple #[formV false false false false true, .bool true] from by rcases hk with rfl | rfl | rfl | rfl <;> rfl] at HOF
  have HBB := Lib.hid (show Rc.bodyB ⟨lsn, prev, txn, kind, page, next, nu, ⟨ok, os, oo, on⟩, how, root, ⟨ek, ep, es⟩, ts, ds⟩ = Rc.headB ⟨lsn, prev, txn, kind, page, next, nu, ⟨ok, os, oo, on⟩, how, root, ⟨ek, ep, es⟩, ts, ds⟩ ++ [] from by unfold Rc.bodyB; congr 1; unfold Rc.restB; simp only; rw [if_neg (by omega), if_neg (by omega), if_neg (by omega), if_neg (by omega), if_neg (by omega)])
  clear hk
  generalize Rc.bodyB ⟨lsn, prev, txn, kind, page, next, nu, ⟨ok, os, oo, on⟩, how, root, ⟨ek, ep, es⟩, ts, ds⟩ = bb at HBB ⊢
  go_enter Try.func55, Try.ntmps55
  go_upto_region 3 with ((go_at_call 64; (with_reducible refine (HOF.out _).mono ?_); rintro e w1 ⟨rfl, hb1⟩))
  have H0 := Lib.hid (wr_new (R := #[.int .i64 lsn, .int .i64 prev, .int .i64 txn, .int .i64 kind, .int .i64 page, .int .i64 next, .int .i64 nu, .int .i64 ok, .int .i64 os, .string oo, .string on, .int .i64 how, .int .i64 root, .string ek, .int .i64 ep, .int .i64 es, T, D]) (F := #[.bool false, .bool false, .bool false, .bool false, .bool true]) hb1)
  obtain ⟨V, hV⟩ : ∃ V, V = (w1.alloc (.cells #[.bool false, .bool false, .bool false, .bool false, .bool true] 134)).alloc (.cells #[.pointer none, .slice none 0 0] 147) := ⟨_, rfl⟩
  rw [← hV] at H0 ⊢
  clear hV
  have hR0 := blkCell H0.out.br
  have hF0 := blkCell H0.out.bf
  clear hb1 HOF
  go_upto_region 4 with ((go_at_call 75; refine (H0.out.put1 1 (by omega) kind (by simp only [List.length_nil]; omega)).mono ?_; rintro e v1 ⟨rfl, hx⟩; have H1 := Lib.hid hx; clear hx; have hR1 := blkCell H1.out.br; have hF1 := blkCell H1.out.bf))
  clear hR0 hF0 H0
  go_upto_region 20 with ((go_at_call 75; refine (H1.out.put3 6 (by omega) lsn prev txn (by simp only [List.length_append, p_size, List.length_nil]; omega)).mono ?_; rintro e v2 ⟨rfl, hx⟩; have H2 := Lib.hid hx; clear hx; have hR2 := blkCell H2.out.br; have hF2 := blkCell H2.out.bf))
  clear hR1 hF1 H1
  go_wp2_with ((go_at_call 47; refine (H2.out.done (by intro h; have := congrArg List.length h; simp only [List.length_append, p_size, List.length_nil] at this; omega)).mono ?_; rintro e w9 ⟨rfl, hb9⟩))
  go_ret
  refine ⟨?_, hb9⟩
  rw [HBB.out]
  simp [Rc.headB]
set_option maxRecDepth 100000 in
set_option maxHeartbeats 2000000 in
theorem body_nest (lsn prev txn page next nu ok os how root ep es : Int) (oo on ek : ByteArray) (ts : List Rc.TxnAt) (ds : List Rc.DirtyAt) (T D : Value) (_zo : oo.size ≤ 65535) (_zn : on.size ≤ 65535) (_ze : ek.size ≤ 65535) (w : World) :
    Calls Try.prog 55 #[.agg #[.int .i64 lsn, .int .i64 prev, .int .i64 txn, .int .i64 4, .int .i64 page, .int .i64 next, .int .i64 nu, .int .i64 ok, .int .i64 os, .string oo, .string on, .int .i64 how, .int .i64 root, .string ek, .int .i64 ep, .int .i64 es, T, D]] w fun e w' => e = .returned (.string ⟨(Rc.bodyB ⟨lsn, prev, txn, 4, page, next, nu, ⟨ok, os, oo, on⟩, how, root, ⟨ek, ep, es⟩, ts, ds⟩).toArray⟩) ∧ Below w.heap.size w w' := by
  have HOF := Lib.hid (fun W => of_any 4 W)
  rw [show ofV 4 = .tuple #[formV false false true false true, .bool true] from rfl] at HOF
  have HBB := Lib.hid (show Rc.bodyB ⟨lsn, prev, txn, 4, page, next, nu, ⟨ok, os, oo, on⟩, how, root, ⟨ek, ep, es⟩, ts, ds⟩ = Rc.headB ⟨lsn, prev, txn, 4, page, next, nu, ⟨ok, os, oo, on⟩, how, root, ⟨ek, ep, es⟩, ts, ds⟩ ++ Rc.restB ⟨lsn, prev, txn, 4, page, next, nu, ⟨ok, os, oo, on⟩, how, root, ⟨ek, ep, es⟩, ts, ds⟩ from rfl)
  rw [Rc.restB_4 rfl] at HBB
  generalize Rc.bodyB ⟨lsn, prev, txn, 4, page, next, nu, ⟨ok, os, oo, on⟩, how, root, ⟨ek, ep, es⟩, ts, ds⟩ = bb at HBB ⊢
  go_enter Try.func55, Try.ntmps55
  go_upto_region 3 with ((go_at_call 64; (with_reducible refine (HOF.out _).mono ?_); rintro e w1 ⟨rfl, hb1⟩))
  have H0 := Lib.hid (wr_new (R := #[.int .i64 lsn, .int .i64 prev, .int .i64 txn, .int .i64 4, .int .i64 page, .int .i64 next, .int .i64 nu, .int .i64 ok, .int .i64 os, .string oo, .string on, .int .i64 how, .int .i64 root, .string ek, .int .i64 ep, .int .i64 es, T, D]) (F := #[.bool false, .bool false, .bool true, .bool false, .bool true]) hb1)
  obtain ⟨V, hV⟩ : ∃ V, V = (w1.alloc (.cells #[.bool false, .bool false, .bool true, .bool false, .bool true] 134)).alloc (.cells #[.pointer none, .slice none 0 0] 147) := ⟨_, rfl⟩
  rw [← hV] at H0 ⊢
  clear hV
  have hR0 := blkCell H0.out.br
  have hF0 := blkCell H0.out.bf
  clear hb1 HOF
  go_upto_region 4 with ((go_at_call 75; refine (H0.out.put1 1 (by omega) 4 (by simp only [List.length_nil]; omega)).mono ?_; rintro e v1 ⟨rfl, hx⟩; have H1 := Lib.hid hx; clear hx; have hR1 := blkCell H1.out.br; have hF1 := blkCell H1.out.bf))
  clear hR0 hF0 H0
  go_upto_region 17 with ((go_at_call 75; refine (H1.out.put3 6 (by omega) lsn prev txn (by simp only [List.length_append, p_size, List.length_nil]; omega)).mono ?_; rintro e v2 ⟨rfl, hx⟩; have H2 := Lib.hid hx; clear hx; have hR2 := blkCell H2.out.br; have hF2 := blkCell H2.out.bf))
  clear hR1 hF1 H1
  go_upto_region 20 with ((go_at_call 75; refine (H2.out.put1 6 (by omega) next (by simp only [List.length_append, p_size, List.length_nil]; omega)).mono ?_; rintro e v3 ⟨rfl, hx⟩; have H3 := Lib.hid hx; clear hx; have hR3 := blkCell H3.out.br; have hF3 := blkCell H3.out.bf))
  clear hR2 hF2 H2
  go_wp2_with ((go_at_call 47; refine (H3.out.done (by intro h; have := congrArg List.length h; simp only [List.length_append, p_size, List.length_nil] at this; omega)).mono ?_; rintro e w9 ⟨rfl, hb9⟩))
  go_ret
  refine ⟨?_, hb9⟩
  rw [HBB.out]
  simp [Rc.headB, List.append_assoc]
set_option maxRecDepth 100000 in
set_option maxHeartbeats 2000000 in
theorem body_image (lsn prev txn page next nu ok os how root ep es : Int) (oo on ek : ByteArray) (ts : List Rc.TxnAt) (ds : List Rc.DirtyAt) (T D : Value) (zo : oo.size ≤ 65535) (zn : on.size ≤ 65535) (_ze : ek.size ≤ 65535) (w : World) :
    Calls Try.prog 55 #[.agg #[.int .i64 lsn, .int .i64 prev, .int .i64 txn, .int .i64 8, .int .i64 page, .int .i64 next, .int .i64 nu, .int .i64 ok, .int .i64 os, .string oo, .string on, .int .i64 how, .int .i64 root, .string ek, .int .i64 ep, .int .i64 es, T, D]] w fun e w' => e = .returned (.string ⟨(Rc.bodyB ⟨lsn, prev, txn, 8, page, next, nu, ⟨ok, os, oo, on⟩, how, root, ⟨ek, ep, es⟩, ts, ds⟩).toArray⟩) ∧ Below w.heap.size w w' := by
  have HOF := Lib.hid (fun W => of_any 8 W)
  rw [show ofV 8 = .tuple #[formV true false false false true, .bool true] from rfl] at HOF
  have HBB := Lib.hid (show Rc.bodyB ⟨lsn, prev, txn, 8, page, next, nu, ⟨ok, os, oo, on⟩, how, root, ⟨ek, ep, es⟩, ts, ds⟩ = Rc.headB ⟨lsn, prev, txn, 8, page, next, nu, ⟨ok, os, oo, on⟩, how, root, ⟨ek, ep, es⟩, ts, ds⟩ ++ Rc.restB ⟨lsn, prev, txn, 8, page, next, nu, ⟨ok, os, oo, on⟩, how, root, ⟨ek, ep, es⟩, ts, ds⟩ from rfl)
  rw [Rc.restB_8 rfl] at HBB
  generalize Rc.bodyB ⟨lsn, prev, txn, 8, page, next, nu, ⟨ok, os, oo, on⟩, how, root, ⟨ek, ep, es⟩, ts, ds⟩ = bb at HBB ⊢
  go_enter Try.func55, Try.ntmps55
  go_upto_region 3 with ((go_at_call 64; (with_reducible refine (HOF.out _).mono ?_); rintro e w1 ⟨rfl, hb1⟩))
  have H0 := Lib.hid (wr_new (R := #[.int .i64 lsn, .int .i64 prev, .int .i64 txn, .int .i64 8, .int .i64 page, .int .i64 next, .int .i64 nu, .int .i64 ok, .int .i64 os, .string oo, .string on, .int .i64 how, .int .i64 root, .string ek, .int .i64 ep, .int .i64 es, T, D]) (F := #[.bool true, .bool false, .bool false, .bool false, .bool true]) hb1)
  obtain ⟨V, hV⟩ : ∃ V, V = (w1.alloc (.cells #[.bool true, .bool false, .bool false, .bool false, .bool true] 134)).alloc (.cells #[.pointer none, .slice none 0 0] 147) := ⟨_, rfl⟩
  rw [← hV] at H0 ⊢
  clear hV
  have hR0 := blkCell H0.out.br
  have hF0 := blkCell H0.out.bf
  clear hb1 HOF
  go_upto_region 4 with ((go_at_call 75; refine (H0.out.put1 1 (by omega) 8 (by simp only [List.length_nil]; omega)).mono ?_; rintro e v1 ⟨rfl, hx⟩; have H1 := Lib.hid hx; clear hx; have hR1 := blkCell H1.out.br; have hF1 := blkCell H1.out.bf))
  clear hR0 hF0 H0
  go_upto_region 6 with ((go_at_call 75; refine (H1.out.put3 6 (by omega) lsn prev txn (by simp only [List.length_append, p_size, List.length_nil]; omega)).mono ?_; rintro e v2 ⟨rfl, hx⟩; have H2 := Lib.hid hx; clear hx; have hR2 := blkCell H2.out.br; have hF2 := blkCell H2.out.bf))
  clear hR1 hF1 H1
  go_upto_region 7 with ((go_at_call 75; refine (H2.out.put1 3 (by omega) page (by simp only [List.length_append, p_size, List.length_nil]; omega)).mono ?_; rintro e v3 ⟨rfl, hx⟩; have H3 := Lib.hid hx; clear hx; have hR3 := blkCell H3.out.br; have hF3 := blkCell H3.out.bf))
  clear hR2 hF2 H2
  go_upto_region 8 with ((go_at_call 75; refine (H3.out.put1 1 (by omega) ok (by simp only [List.length_append, p_size, List.length_nil]; omega)).mono ?_; rintro e v4 ⟨rfl, hx⟩; have H4 := Lib.hid hx; clear hx; have hR4 := blkCell H4.out.br; have hF4 := blkCell H4.out.bf))
  clear hR3 hF3 H3
  go_upto_region 9 with ((go_at_call 75; refine (H4.out.put1 2 (by omega) os (by simp only [List.length_append, p_size, List.length_nil]; omega)).mono ?_; rintro e v5 ⟨rfl, hx⟩; have H5 := Lib.hid hx; clear hx; have hR5 := blkCell H5.out.br; have hF5 := blkCell H5.out.bf))
  clear hR4 hF4 H4
  go_upto_region 20 with ((go_at_call 76; refine (H5.out.text2 oo on zo zn (by simp only [List.length_append, p_size, List.length_nil]; omega)).mono ?_; rintro e v6 ⟨rfl, hx⟩; have H6 := Lib.hid hx; clear hx; have hR6 := blkCell H6.out.br; have hF6 := blkCell H6.out.bf))
  clear hR5 hF5 H5
  go_wp2_with ((go_at_call 47; refine (H6.out.done (by intro h; have := congrArg List.length h; simp only [List.length_append, p_size, List.length_nil] at this; omega)).mono ?_; rintro e w9 ⟨rfl, hb9⟩))
  go_ret
  refine ⟨?_, hb9⟩
  rw [HBB.out]
  simp [Rc.headB, Rc.opB, List.append_assoc]
set_option maxRecDepth 100000 in
set_option maxHeartbeats 2000000 in
theorem body_clr (lsn prev txn page next nu ok os how root ep es : Int) (oo on ek : ByteArray) (ts : List Rc.TxnAt) (ds : List Rc.DirtyAt) (T D : Value) (zo : oo.size ≤ 65535) (zn : on.size ≤ 65535) (_ze : ek.size ≤ 65535) (w : World) :
    Calls Try.prog 55 #[.agg #[.int .i64 lsn, .int .i64 prev, .int .i64 txn, .int .i64 3, .int .i64 page, .int .i64 next, .int .i64 nu, .int .i64 ok, .int .i64 os, .string oo, .string on, .int .i64 how, .int .i64 root, .string ek, .int .i64 ep, .int .i64 es, T, D]] w fun e w' => e = .returned (.string ⟨(Rc.bodyB ⟨lsn, prev, txn, 3, page, next, nu, ⟨ok, os, oo, on⟩, how, root, ⟨ek, ep, es⟩, ts, ds⟩).toArray⟩) ∧ Below w.heap.size w w' := by
  have HOF := Lib.hid (fun W => of_any 3 W)
  rw [show ofV 3 = .tuple #[formV true false true false true, .bool true] from rfl] at HOF
  have HBB := Lib.hid (show Rc.bodyB ⟨lsn, prev, txn, 3, page, next, nu, ⟨ok, os, oo, on⟩, how, root, ⟨ek, ep, es⟩, ts, ds⟩ = Rc.headB ⟨lsn, prev, txn, 3, page, next, nu, ⟨ok, os, oo, on⟩, how, root, ⟨ek, ep, es⟩, ts, ds⟩ ++ Rc.restB ⟨lsn, prev, txn, 3, page, next, nu, ⟨ok, os, oo, on⟩, how, root, ⟨ek, ep, es⟩, ts, ds⟩ from rfl)
  rw [Rc.restB_3 rfl] at HBB
  generalize Rc.bodyB ⟨lsn, prev, txn, 3, page, next, nu, ⟨ok, os, oo, on⟩, how, root, ⟨ek, ep, es⟩, ts, ds⟩ = bb at HBB ⊢
  go_enter Try.func55, Try.ntmps55
  go_upto_region 3 with ((go_at_call 64; (with_reducible refine (HOF.out _).mono ?_); rintro e w1 ⟨rfl, hb1⟩))
  have H0 := Lib.hid (wr_new (R := #[.int .i64 lsn, .int .i64 prev, .int .i64 txn, .int .i64 3, .int .i64 page, .int .i64 next, .int .i64 nu, .int .i64 ok, .int .i64 os, .string oo, .string on, .int .i64 how, .int .i64 root, .string ek, .int .i64 ep, .int .i64 es, T, D]) (F := #[.bool true, .bool false, .bool true, .bool false, .bool true]) hb1)
  obtain ⟨V, hV⟩ : ∃ V, V = (w1.alloc (.cells #[.bool true, .bool false, .bool true, .bool false, .bool true] 134)).alloc (.cells #[.pointer none, .slice none 0 0] 147) := ⟨_, rfl⟩
  rw [← hV] at H0 ⊢
  clear hV
  have hR0 := blkCell H0.out.br
  have hF0 := blkCell H0.out.bf
  clear hb1 HOF
  go_upto_region 4 with ((go_at_call 75; refine (H0.out.put1 1 (by omega) 3 (by simp only [List.length_nil]; omega)).mono ?_; rintro e v1 ⟨rfl, hx⟩; have H1 := Lib.hid hx; clear hx; have hR1 := blkCell H1.out.br; have hF1 := blkCell H1.out.bf))
  clear hR0 hF0 H0
  go_upto_region 6 with ((go_at_call 75; refine (H1.out.put3 6 (by omega) lsn prev txn (by simp only [List.length_append, p_size, List.length_nil]; omega)).mono ?_; rintro e v2 ⟨rfl, hx⟩; have H2 := Lib.hid hx; clear hx; have hR2 := blkCell H2.out.br; have hF2 := blkCell H2.out.bf))
  clear hR1 hF1 H1
  go_upto_region 7 with ((go_at_call 75; refine (H2.out.put1 3 (by omega) page (by simp only [List.length_append, p_size, List.length_nil]; omega)).mono ?_; rintro e v3 ⟨rfl, hx⟩; have H3 := Lib.hid hx; clear hx; have hR3 := blkCell H3.out.br; have hF3 := blkCell H3.out.bf))
  clear hR2 hF2 H2
  go_upto_region 8 with ((go_at_call 75; refine (H3.out.put1 1 (by omega) ok (by simp only [List.length_append, p_size, List.length_nil]; omega)).mono ?_; rintro e v4 ⟨rfl, hx⟩; have H4 := Lib.hid hx; clear hx; have hR4 := blkCell H4.out.br; have hF4 := blkCell H4.out.bf))
  clear hR3 hF3 H3
  go_upto_region 9 with ((go_at_call 75; refine (H4.out.put1 2 (by omega) os (by simp only [List.length_append, p_size, List.length_nil]; omega)).mono ?_; rintro e v5 ⟨rfl, hx⟩; have H5 := Lib.hid hx; clear hx; have hR5 := blkCell H5.out.br; have hF5 := blkCell H5.out.bf))
  clear hR4 hF4 H4
  go_upto_region 17 with ((go_at_call 76; refine (H5.out.text2 oo on zo zn (by simp only [List.length_append, p_size, List.length_nil]; omega)).mono ?_; rintro e v6 ⟨rfl, hx⟩; have H6 := Lib.hid hx; clear hx; have hR6 := blkCell H6.out.br; have hF6 := blkCell H6.out.bf))
  clear hR5 hF5 H5
  go_upto_region 20 with ((go_at_call 75; refine (H6.out.put1 6 (by omega) next (by simp only [List.length_append, p_size, t_size, List.length_nil]; omega)).mono ?_; rintro e v7 ⟨rfl, hx⟩; have H7 := Lib.hid hx; clear hx; have hR7 := blkCell H7.out.br; have hF7 := blkCell H7.out.bf))
  clear hR6 hF6 H6
  go_wp2_with ((go_at_call 47; refine (H7.out.done (by intro h; have := congrArg List.length h; simp only [List.length_append, p_size, List.length_nil] at this; omega)).mono ?_; rintro e w9 ⟨rfl, hb9⟩))
  go_ret
  refine ⟨?_, hb9⟩
  rw [HBB.out]
  simp [Rc.headB, Rc.opB, List.append_assoc]
set_option maxRecDepth 100000 in
set_option maxHeartbeats 2000000 in
theorem body_change (lsn prev txn page next nu ok os how root ep es : Int) (oo on ek : ByteArray) (ts : List Rc.TxnAt) (ds : List Rc.DirtyAt) (T D : Value) (zo : oo.size ≤ 65535) (zn : on.size ≤ 65535) (ze : ek.size ≤ 65535) (w : World) :
    Calls Try.prog 55 #[.agg #[.int .i64 lsn, .int .i64 prev, .int .i64 txn, .int .i64 2, .int .i64 page, .int .i64 next, .int .i64 nu, .int .i64 ok, .int .i64 os, .string oo, .string on, .int .i64 how, .int .i64 root, .string ek, .int .i64 ep, .int .i64 es, T, D]] w fun e w' => e = .returned (.string ⟨(Rc.bodyB ⟨lsn, prev, txn, 2, page, next, nu, ⟨ok, os, oo, on⟩, how, root, ⟨ek, ep, es⟩, ts, ds⟩).toArray⟩) ∧ Below w.heap.size w w' := by
  have HOF := Lib.hid (fun W => of_any 2 W)
  rw [show ofV 2 = .tuple #[formV true true false false true, .bool true] from rfl] at HOF
  have HBB := Lib.hid (show Rc.bodyB ⟨lsn, prev, txn, 2, page, next, nu, ⟨ok, os, oo, on⟩, how, root, ⟨ek, ep, es⟩, ts, ds⟩ = Rc.headB ⟨lsn, prev, txn, 2, page, next, nu, ⟨ok, os, oo, on⟩, how, root, ⟨ek, ep, es⟩, ts, ds⟩ ++ Rc.restB ⟨lsn, prev, txn, 2, page, next, nu, ⟨ok, os, oo, on⟩, how, root, ⟨ek, ep, es⟩, ts, ds⟩ from rfl)
  rw [Rc.restB_2 rfl] at HBB
  generalize Rc.bodyB ⟨lsn, prev, txn, 2, page, next, nu, ⟨ok, os, oo, on⟩, how, root, ⟨ek, ep, es⟩, ts, ds⟩ = bb at HBB ⊢
  go_enter Try.func55, Try.ntmps55
  go_upto_region 3 with ((go_at_call 64; (with_reducible refine (HOF.out _).mono ?_); rintro e w1 ⟨rfl, hb1⟩))
  have H0 := Lib.hid (wr_new (R := #[.int .i64 lsn, .int .i64 prev, .int .i64 txn, .int .i64 2, .int .i64 page, .int .i64 next, .int .i64 nu, .int .i64 ok, .int .i64 os, .string oo, .string on, .int .i64 how, .int .i64 root, .string ek, .int .i64 ep, .int .i64 es, T, D]) (F := #[.bool true, .bool true, .bool false, .bool false, .bool true]) hb1)
  obtain ⟨V, hV⟩ : ∃ V, V = (w1.alloc (.cells #[.bool true, .bool true, .bool false, .bool false, .bool true] 134)).alloc (.cells #[.pointer none, .slice none 0 0] 147) := ⟨_, rfl⟩
  rw [← hV] at H0 ⊢
  clear hV
  have hR0 := blkCell H0.out.br
  have hF0 := blkCell H0.out.bf
  clear hb1 HOF
  go_upto_region 4 with ((go_at_call 75; refine (H0.out.put1 1 (by omega) 2 (by simp only [List.length_nil]; omega)).mono ?_; rintro e v1 ⟨rfl, hx⟩; have H1 := Lib.hid hx; clear hx; have hR1 := blkCell H1.out.br; have hF1 := blkCell H1.out.bf))
  clear hR0 hF0 H0
  go_upto_region 6 with ((go_at_call 75; refine (H1.out.put3 6 (by omega) lsn prev txn (by simp only [List.length_append, p_size, List.length_nil]; omega)).mono ?_; rintro e v2 ⟨rfl, hx⟩; have H2 := Lib.hid hx; clear hx; have hR2 := blkCell H2.out.br; have hF2 := blkCell H2.out.bf))
  clear hR1 hF1 H1
  go_upto_region 7 with ((go_at_call 75; refine (H2.out.put1 3 (by omega) page (by simp only [List.length_append, p_size, List.length_nil]; omega)).mono ?_; rintro e v3 ⟨rfl, hx⟩; have H3 := Lib.hid hx; clear hx; have hR3 := blkCell H3.out.br; have hF3 := blkCell H3.out.bf))
  clear hR2 hF2 H2
  go_upto_region 8 with ((go_at_call 75; refine (H3.out.put1 1 (by omega) ok (by simp only [List.length_append, p_size, List.length_nil]; omega)).mono ?_; rintro e v4 ⟨rfl, hx⟩; have H4 := Lib.hid hx; clear hx; have hR4 := blkCell H4.out.br; have hF4 := blkCell H4.out.bf))
  clear hR3 hF3 H3
  go_upto_region 9 with ((go_at_call 75; refine (H4.out.put1 2 (by omega) os (by simp only [List.length_append, p_size, List.length_nil]; omega)).mono ?_; rintro e v5 ⟨rfl, hx⟩; have H5 := Lib.hid hx; clear hx; have hR5 := blkCell H5.out.br; have hF5 := blkCell H5.out.bf))
  clear hR4 hF4 H4
  go_upto_region 11 with ((go_at_call 76; refine (H5.out.text2 oo on zo zn (by simp only [List.length_append, p_size, List.length_nil]; omega)).mono ?_; rintro e v6 ⟨rfl, hx⟩; have H6 := Lib.hid hx; clear hx; have hR6 := blkCell H6.out.br; have hF6 := blkCell H6.out.bf))
  clear hR5 hF5 H5
  go_upto_region 12 with ((go_at_call 75; refine (H6.out.put1 1 (by omega) how (by simp only [List.length_append, p_size, t_size, List.length_nil]; omega)).mono ?_; rintro e v7 ⟨rfl, hx⟩; have H7 := Lib.hid hx; clear hx; have hR7 := blkCell H7.out.br; have hF7 := blkCell H7.out.bf))
  clear hR6 hF6 H6
  by_cases hh : how = 1
  · subst hh
    go_upto_region 20 with fail
    go_wp2_with ((go_at_call 47; refine (H7.out.done (by intro h; have := congrArg List.length h; simp only [List.length_append, p_size, List.length_nil] at this; omega)).mono ?_; rintro e w9 ⟨rfl, hb9⟩))
    go_ret
    refine ⟨?_, hb9⟩
    rw [HBB.out]
    simp [Rc.headB, Rc.opB, Rc.treeB, List.append_assoc]
  · have hh2 : (how != 1) = true := by simpa using hh
    have HH := Lib.hid hh
    clear hh
    go_upto_region 13 with fail
    go_upto_region 14 with ((go_at_call 75; refine (H7.out.put2 3 (by omega) root ep (by simp only [List.length_append, p_size, t_size, List.length_nil]; omega)).mono ?_; rintro e v8 ⟨rfl, hx⟩; have H8 := Lib.hid hx; clear hx; have hR8 := blkCell H8.out.br; have hF8 := blkCell H8.out.bf))
    clear hR7 hF7 H7
    go_upto_region 15 with ((go_at_call 75; refine (H8.out.put1 2 (by omega) es (by simp only [List.length_append, p_size, t_size, List.length_nil]; omega)).mono ?_; rintro e v9 ⟨rfl, hx⟩; have H9 := Lib.hid hx; clear hx; have hR9 := blkCell H9.out.br; have hF9 := blkCell H9.out.bf))
    clear hR8 hF8 H8
    go_upto_region 20 with ((go_at_call 76; refine (H9.out.text1 ek ze (by simp only [List.length_append, p_size, t_size, List.length_nil]; omega)).mono ?_; rintro e v10 ⟨rfl, hx⟩; have H10 := Lib.hid hx; clear hx; have hR10 := blkCell H10.out.br; have hF10 := blkCell H10.out.bf))
    clear hR9 hF9 H9
    go_wp2_with ((go_at_call 47; refine (H10.out.done (by intro h; have := congrArg List.length h; simp only [List.length_append, p_size, List.length_nil] at this; omega)).mono ?_; rintro e w9 ⟨rfl, hb9⟩))
    go_ret
    refine ⟨?_, hb9⟩
    rw [HBB.out]
    have hh3 := HH.out
    simp [hh3, Rc.headB, Rc.opB, Rc.treeB, List.append_assoc]
end Go.Proofs.Ythfglhafphfhiaa
/- The walk over package rec: the lists of a checkpoint. -/
namespace Go.Proofs.Ythfglhafphfhiaa
open Go.RowKit
theorem bput1 {b : Nat} {l : List UInt8} {v : World} (h : BldW (b + 1) b l v) (size : Nat) (h8 : size ≤ 8) (x : Int) (hlen : l.length + 8 ≤ 140737488355328) :
    Calls Try.prog 75 #[.pointer (some ⟨b, 0, none⟩), .int .i64 (size : Int), .slice (some ⟨v.heap.size, 0, none⟩) 1 1] (v.alloc (.cells #[.int .i64 x] 3)) fun e w' => e = .returned (.tuple #[]) ∧ BldW (b + 1) b (l ++ Rc.p x size) w' ∧ KeptW (b + 1) b v w' := by
  have hs := bldw_size h
  refine (wput_any (b + 1) b v.heap.size l size h8 [x] _ (h.below (allocB v _)) (by simp; omega) (heap_alloc_new v _) (by omega) (by simpa using hlen)).mono ?_
  rintro e w' ⟨rfl, h3, h4⟩
  exact ⟨rfl, by simpa using h3, (KeptW.of_below (allocB v _)).trans h4⟩
theorem bput3 {b : Nat} {l : List UInt8} {v : World} (h : BldW (b + 1) b l v) (size : Nat) (h8 : size ≤ 8) (x y z : Int) (hlen : l.length + 24 ≤ 140737488355328) :
    Calls Try.prog 75 #[.pointer (some ⟨b, 0, none⟩), .int .i64 (size : Int), .slice (some ⟨v.heap.size, 0, none⟩) 3 3] (v.alloc (.cells #[.int .i64 x, .int .i64 y, .int .i64 z] 3)) fun e w' => e = .returned (.tuple #[]) ∧ BldW (b + 1) b (l ++ (Rc.p x size ++ (Rc.p y size ++ Rc.p z size))) w' ∧ KeptW (b + 1) b v w' := by
  have hs := bldw_size h
  refine (wput_any (b + 1) b v.heap.size l size h8 [x, y, z] _ (h.below (allocB v _)) (by simp; omega) (heap_alloc_new v _) (by omega) (by simpa using hlen)).mono ?_
  rintro e w' ⟨rfl, h3, h4⟩
  exact ⟨rfl, by simpa using h3, (KeptW.of_below (allocB v _)).trans h4⟩
theorem txnB_size (t : Rc.TxnAt) : (Rc.txnB t).length = 19 := by unfold Rc.txnB; simp only [List.length_append, p_size]
theorem dirtyB_size (t : Rc.DirtyAt) : (Rc.dirtyB t).length = 9 := by unfold Rc.dirtyB; simp only [List.length_append, p_size]
theorem flat_txn (ts : List Rc.TxnAt) : (ts.flatMap Rc.txnB).length = ts.length * 19 := by
  induction ts with
  | nil => rfl
  | cons t ts ih => rw [List.flatMap_cons, List.length_append, txnB_size, ih, List.length_cons]; omega
theorem flat_dirty (ts : List Rc.DirtyAt) : (ts.flatMap Rc.dirtyB).length = ts.length * 9 := by
  induction ts with
  | nil => rfl
  | cons t ts ih => rw [List.flatMap_cons, List.length_append, dirtyB_size, ih, List.length_cons]; omega
theorem flat_next {α : Type} (f : α → List UInt8) (xs : List α) {k : Nat} (hk : k < xs.length) : (xs.take (k + 1)).flatMap f = (xs.take k).flatMap f ++ f xs[k] := by
  rw [List.take_add_one, List.flatMap_append, List.getElem?_eq_getElem hk]
  simp
set_option maxRecDepth 100000 in
set_option maxHeartbeats 4000000 in
theorem lists_any (b : Nat) (l : List UInt8) (lsn prev txn kind page next nu ok os how root ep es : Int) (oo on ek : ByteArray) (ts : List Rc.TxnAt) (ds : List Rc.DirtyAt) (A D : Option Addr) (c d : Nat) (u : World) (h : BldW (b + 1) b l u)
    (hT : ∀ v, KeptW (b + 1) b u v → TxR v A c ts) (hD : ∀ v, KeptW (b + 1) b u v → DiR v D d ds) (hl : l.length ≤ 1000000) (ht : ts.length ≤ 1048576) (hd : ds.length ≤ 1048576) :
    Calls Try.prog 77 #[.pointer (some ⟨b, 0, none⟩), .agg #[.int .i64 lsn, .int .i64 prev, .int .i64 txn, .int .i64 kind, .int .i64 page, .int .i64 next, .int .i64 nu, .int .i64 ok, .int .i64 os, .string oo, .string on, .int .i64 how, .int .i64 root, .string ek, .int .i64 ep, .int .i64 es, .slice A ts.length c, .slice D ds.length d]] u fun e w' => e = .returned (.tuple #[]) ∧ BldW (b + 1) b (l ++ (Rc.p nu 6 ++ (Rc.p ts.length 2 ++ (ts.flatMap Rc.txnB ++ (Rc.p ds.length 2 ++ ds.flatMap Rc.dirtyB))))) w' ∧ KeptW (b + 1) b u w' := by
  have hbu := bldw_size h
  obtain ⟨L1, hL1⟩ : ∃ L, L = l ++ Rc.p nu 6 := ⟨_, rfl⟩
  obtain ⟨L2, hL2⟩ : ∃ L, L = L1 ++ Rc.p ts.length 2 := ⟨_, rfl⟩
  obtain ⟨L3, hL3⟩ : ∃ L, L = L2 ++ ts.flatMap Rc.txnB := ⟨_, rfl⟩
  obtain ⟨L4, hL4⟩ : ∃ L, L = L3 ++ Rc.p ds.length 2 := ⟨_, rfl⟩
  have z1 : L1.length = l.length + 6 := by rw [hL1, List.length_append, p_size]
  have z2 : L2.length = l.length + 8 := by rw [hL2, List.length_append, p_size, z1]
  have z3 : L3.length = l.length + 8 + ts.length * 19 := by rw [hL3, List.length_append, flat_txn, z2]
  have z4 : L4.length = l.length + 10 + ts.length * 19 := by rw [hL4, List.length_append, p_size, z3]; omega
  have HFIN := Lib.hid (show l ++ (Rc.p nu 6 ++ (Rc.p ts.length 2 ++ (ts.flatMap Rc.txnB ++ (Rc.p ds.length 2 ++ ds.flatMap Rc.dirtyB)))) = L4 ++ ds.flatMap Rc.dirtyB by rw [hL4, hL3, hL2, hL1]; simp only [List.append_assoc])
  have HL1 := Lib.hid hL1
  have HL2 := Lib.hid hL2
  have HL3 := Lib.hid hL3
  have HL4 := Lib.hid hL4
  have HZ := Lib.hid (And.intro z1 (And.intro z2 (And.intro z3 (And.intro z4 (And.intro hl (And.intro ht hd))))))
  have HT := Lib.hid hT
  have HD := Lib.hid hD
  have HW := Lib.hid h
  clear hL1 hL2 hL3 hL4 z1 z2 z3 z4 hT hD h
  go_enter Try.func77, Try.ntmps77
  go_upto_region 1 with fail
  have HB0 := Lib.hid (HW.out.below (allocB u (.cells #[.int .i64 lsn, .int .i64 prev, .int .i64 txn, .int .i64 kind, .int .i64 page, .int .i64 next, .int .i64 nu, .int .i64 ok, .int .i64 os, .string oo, .string on, .int .i64 how, .int .i64 root, .string ek, .int .i64 ep, .int .i64 es, .slice A ts.length c, .slice D ds.length d] 31)))
  have HK0 := Lib.hid (KeptW.of_below (B := b + 1) (b := b) (allocB u (.cells #[.int .i64 lsn, .int .i64 prev, .int .i64 txn, .int .i64 kind, .int .i64 page, .int .i64 next, .int .i64 nu, .int .i64 ok, .int .i64 os, .string oo, .string on, .int .i64 how, .int .i64 root, .string ek, .int .i64 ep, .int .i64 es, .slice A ts.length c, .slice D ds.length d] 31)))
  have HR0 := Lib.hid (heap_alloc_new u (.cells #[.int .i64 lsn, .int .i64 prev, .int .i64 txn, .int .i64 kind, .int .i64 page, .int .i64 next, .int .i64 nu, .int .i64 ok, .int .i64 os, .string oo, .string on, .int .i64 how, .int .i64 root, .string ek, .int .i64 ep, .int .i64 es, .slice A ts.length c, .slice D ds.length d] 31))
  obtain ⟨a, ha⟩ : ∃ a, a = u.heap.size := ⟨_, rfl⟩
  obtain ⟨v0, hv0⟩ : ∃ v, v = u.alloc (.cells #[.int .i64 lsn, .int .i64 prev, .int .i64 txn, .int .i64 kind, .int .i64 page, .int .i64 next, .int .i64 nu, .int .i64 ok, .int .i64 os, .string oo, .string on, .int .i64 how, .int .i64 root, .string ek, .int .i64 ep, .int .i64 es, .slice A ts.length c, .slice D ds.length d] 31) := ⟨_, rfl⟩
  rw [← hv0] at HB0 HK0 HR0 ⊢
  rw [← ha] at HR0 ⊢
  have hab : a ≠ b := by omega
  clear hv0 ha hbu HW
  have hR0 := blkCell HR0.out
  go_upto_region 2 with ((go_at_call 75; refine (bput1 HB0.out 6 (by omega) nu (by have := HZ.out; omega)).mono ?_; rintro e v1 ⟨rfl, hw, hk⟩))
  rw [← HL1.out] at hw
  have HB1 := Lib.hid hw
  have HK1 := Lib.hid (HK0.out.trans hk)
  have HR1 := Lib.hid (hk.at_ HR0.out hab (by decide))
  clear hR0 HB0 HK0 HR0 hw hk
  have hR1 := blkCell HR1.out
  go_upto_region 3 with ((go_at_call 75; refine (bput1 HB1.out 2 (by omega) ts.length (by have := HZ.out; omega)).mono ?_; rintro e v2 ⟨rfl, hw, hk⟩))
  rw [← HL2.out] at hw
  have HB2 := Lib.hid hw
  have HK2 := Lib.hid (HK1.out.trans hk)
  have HR2 := Lib.hid (hk.at_ HR1.out hab (by decide))
  clear hR1 HB1 HK1 HR1 hw hk
  have hR2 := blkCell HR2.out
  go_wp2_with fail
  clear hR2
  go_loopw [23] (fun i wr => ∃ k : Nat, k ≤ ts.length ∧ i = .int .i64 k ∧ BldW (b + 1) b (L2 ++ (ts.take k).flatMap Rc.txnB) wr ∧ KeptW (b + 1) b v2 wr) (fun i _ => ts.length - (intOf i).toNat)
  case atStart => exact ⟨0, Nat.zero_le _, rfl, by simpa using HB2.out, KeptW.refl _ _ _⟩
  case round =>
    obtain ⟨k, hk, rfl, hbw, hkw⟩ := hrel
    have HBW := Lib.hid hbw
    have HKW := Lib.hid hkw
    clear hbw hkw
    by_cases hlt : k < ts.length
    · obtain ⟨g, off, rfl, hc, hgl, hcell⟩ := read_at txC_len (HT.out wr (HK2.out.trans HKW.out)) hlt
      have q0 := hcell 0 _ rfl
      have q1 := hcell 1 _ rfl
      have q2 := hcell 2 _ rfl
      have q3 := hcell 3 _ rfl
      simp only [Nat.add_zero] at q0
      have HST := Lib.hid (flat_next Rc.txnB ts hlt)
      have HLN := Lib.hid (flat_txn (ts.take k))
      rw [List.length_take] at HLN
      generalize ts[k] = x at q0 q1 q2 q3 HST
      obtain ⟨xt, xl, xn, xd⟩ := x
      dsimp only at q0 q1 q2 q3
      clear hcell
      go_upto_region 6 with ((with_reducible refine wpList_store_new rfl 66 (.tmp 5) (.tmp 26) rfl #[.int .i64 xt, .int .i64 xl, .int .i64 xn, .bool xd] _ _ rfl (by kernel_rfl) (by kernel_rfl) (by kernel_rfl) (by kernel_rfl) ?_))
      have HX := Lib.hid (heap_alloc_new wr (.cells #[.int .i64 xt, .int .i64 xl, .int .i64 xn, .bool xd] 66))
      have HB3 := Lib.hid (HBW.out.below (allocB wr (.cells #[.int .i64 xt, .int .i64 xl, .int .i64 xn, .bool xd] 66)))
      have HK3 := Lib.hid (HKW.out.trans (KeptW.of_below (allocB wr (.cells #[.int .i64 xt, .int .i64 xl, .int .i64 xn, .bool xd] 66))))
      have hgb : wr.heap.size ≠ b := by have := bldw_size HBW.out; omega
      obtain ⟨xa, hxa⟩ : ∃ a, a = wr.heap.size := ⟨_, rfl⟩
      obtain ⟨v3, hv3⟩ : ∃ v, v = wr.alloc (.cells #[.int .i64 xt, .int .i64 xl, .int .i64 xn, .bool xd] 66) := ⟨_, rfl⟩
      rw [← hv3] at HX HB3 HK3 ⊢
      rw [← hxa] at HX hgb ⊢
      clear q0 q1 q2 q3 hv3 hxa HBW HKW hgl
      have hX := blkCell HX.out
      go_upto_region 7 with ((go_at_call 75; refine (bput3 HB3.out 6 (by omega) xt xl xn (by have := HZ.out; have := HLN.out; rw [List.length_append]; omega)).mono ?_; rintro e v4 ⟨rfl, hw, hk⟩))
      have HB4 := Lib.hid hw
      have HK4 := Lib.hid (HK3.out.trans hk)
      have HX4 := Lib.hid (hk.at_ HX.out hgb (by decide))
      clear hX HB3 HK3 HX hw hk
      have hX4 := blkCell HX4.out
      cases xd with
      | true =>
        go_wp2_with ((go_at_call 75; refine (bput1 HB4.out 1 (by omega) 1 (by have := HZ.out; have := HLN.out; simp only [List.length_append, p_size]; omega)).mono ?_; rintro e v5 ⟨rfl, hw, hk⟩))
        go_roundw
        case rel => exact ⟨k + 1, by omega, by go_num, by rw [HST.out]; simpa [Rc.txnB, List.append_assoc] using hw, HK4.out.trans hk⟩
        case measure => simp [intOf]; omega
      | false =>
        go_wp2_with ((go_at_call 75; refine (bput1 HB4.out 1 (by omega) 0 (by have := HZ.out; have := HLN.out; simp only [List.length_append, p_size]; omega)).mono ?_; rintro e v5 ⟨rfl, hw, hk⟩))
        go_roundw
        case rel => exact ⟨k + 1, by omega, by go_num, by rw [HST.out]; simpa [Rc.txnB, List.append_assoc] using hw, HK4.out.trans hk⟩
        case measure => simp [intOf]; omega
    · obtain rfl : k = ts.length := by omega
      obtain ⟨v6, rfl⟩ : ∃ v6 : World, v6 = wr := ⟨_, rfl⟩
      rw [List.take_length, ← HL3.out] at HBW
      have HK6 := Lib.hid (HK2.out.trans HKW.out)
      have HR6 := Lib.hid (HKW.out.at_ HR2.out hab (by decide))
      have hR6 := blkCell HR6.out
      go_upto_region 13 with ((go_at_call 75; refine (bput1 HBW.out 2 (by omega) ds.length (by have := HZ.out; omega)).mono ?_; rintro e v7 ⟨rfl, hw, hk⟩))
      rw [← HL4.out] at hw
      have HB7 := Lib.hid hw
      have HK7 := Lib.hid (HK6.out.trans hk)
      have HR7 := Lib.hid (hk.at_ HR6.out hab (by decide))
      clear hR6 HBW HKW HK6 HR6 HB2 HK2 HR2 hw hk
      have hR7 := blkCell HR7.out
      go_wp2_with fail
      clear hR7
      go_loopw [52] (fun i wr => ∃ k : Nat, k ≤ ds.length ∧ i = .int .i64 k ∧ BldW (b + 1) b (L4 ++ (ds.take k).flatMap Rc.dirtyB) wr ∧ KeptW (b + 1) b v7 wr) (fun i _ => ds.length - (intOf i).toNat)
      case atStart => exact ⟨0, Nat.zero_le _, rfl, by simpa using HB7.out, KeptW.refl _ _ _⟩
      case round =>
        obtain ⟨k, hk, rfl, hbw, hkw⟩ := hrel
        have HBW := Lib.hid hbw
        have HKW := Lib.hid hkw
        clear hbw hkw
        by_cases hlt : k < ds.length
        · obtain ⟨g, off, rfl, hc, hgl, hcell⟩ := read_at diC_len (HD.out wr (HK7.out.trans HKW.out)) hlt
          have q0 := hcell 0 _ rfl
          have q1 := hcell 1 _ rfl
          simp only [Nat.add_zero] at q0
          have HST := Lib.hid (flat_next Rc.dirtyB ds hlt)
          have HLN := Lib.hid (flat_dirty (ds.take k))
          rw [List.length_take] at HLN
          generalize ds[k] = x at q0 q1 HST
          obtain ⟨xp, xf⟩ := x
          dsimp only at q0 q1
          clear hcell
          go_upto_region 16 with ((with_reducible refine wpList_store_new rfl 138 (.tmp 8) (.tmp 55) rfl #[.int .i64 xp, .int .i64 xf] _ _ rfl (by kernel_rfl) (by kernel_rfl) (by kernel_rfl) (by kernel_rfl) ?_))
          have HX := Lib.hid (heap_alloc_new wr (.cells #[.int .i64 xp, .int .i64 xf] 138))
          have HB3 := Lib.hid (HBW.out.below (allocB wr (.cells #[.int .i64 xp, .int .i64 xf] 138)))
          have HK3 := Lib.hid (HKW.out.trans (KeptW.of_below (allocB wr (.cells #[.int .i64 xp, .int .i64 xf] 138))))
          have hgb : wr.heap.size ≠ b := by have := bldw_size HBW.out; omega
          obtain ⟨xa, hxa⟩ : ∃ a, a = wr.heap.size := ⟨_, rfl⟩
          obtain ⟨v3, hv3⟩ : ∃ v, v = wr.alloc (.cells #[.int .i64 xp, .int .i64 xf] 138) := ⟨_, rfl⟩
          rw [← hv3] at HX HB3 HK3 ⊢
          rw [← hxa] at HX hgb ⊢
          clear q0 q1 hv3 hxa HBW HKW hgl
          have hX := blkCell HX.out
          go_upto_region 17 with ((go_at_call 75; refine (bput1 HB3.out 3 (by omega) xp (by have := HZ.out; have := HLN.out; rw [List.length_append]; omega)).mono ?_; rintro e v4 ⟨rfl, hw, hk⟩))
          have HB4 := Lib.hid hw
          have HK4 := Lib.hid (HK3.out.trans hk)
          have HX4 := Lib.hid (hk.at_ HX.out hgb (by decide))
          clear hX HB3 HK3 HX hw hk
          have hX4 := blkCell HX4.out
          go_wp2_with ((go_at_call 75; refine (bput1 HB4.out 6 (by omega) xf (by have := HZ.out; have := HLN.out; simp only [List.length_append, p_size]; omega)).mono ?_; rintro e v5 ⟨rfl, hw, hk⟩))
          go_roundw
          case rel => exact ⟨k + 1, by omega, by go_num, by rw [HST.out]; simpa [Rc.dirtyB, List.append_assoc] using hw, HK4.out.trans hk⟩
          case measure => simp [intOf]; omega
        · obtain rfl : k = ds.length := by omega
          rw [List.take_length, ← HFIN.out] at HBW
          have HK9 := Lib.hid (HK7.out.trans HKW.out)
          go_wp2_with fail
          first | go_end0 | go_ret
          exact ⟨rfl, HBW.out, HK9.out⟩
end Go.Proofs.Ythfglhafphfhiaa
/- The walk over package rec: body of a checkpoint's record; of any record that may be. -/
namespace Rc
theorem right_sizes {r : Rec} (h : Right r) : r.op.old.size ≤ 65535 ∧ r.op.new.size ≤ 65535 ∧ r.e.key.size ≤ 65535 ∧ r.txns.length ≤ 1048576 ∧ r.dirty.length ≤ 1048576 ∧ 1 ≤ r.kind ∧ r.kind ≤ 9 := by
  have no1 : noOp.old.size = 0 := rfl
  have no2 : noOp.new.size = 0 := rfl
  have no3 : noKey.key.size = 0 := rfl
  cases h with
  | small kind lsn prev txn hk h1 h2 h3 =>
    unfold bare
    refine ⟨by show noOp.old.size ≤ _; omega, by show noOp.new.size ≤ _; omega, by show noKey.key.size ≤ _; omega, by simp, by simp, ?_, ?_⟩ <;> simp only <;> omega
  | change lsn prev txn page op how root e h1 h2 h3 h4 h5 h6 =>
    obtain ⟨_, _, _, o1, o2⟩ := h5
    have h7 : e.key.size ≤ 65535 := by
      rcases h6 with ⟨_, _, h8⟩ | ⟨_, _, _, _, h8⟩
      · simp only at h8; rw [h8]; omega
      · simp only at h8; omega
    exact ⟨by simp only; omega, by simp only; omega, h7, by simp, by simp, by simp only; omega, by simp only; omega⟩
  | clr lsn prev txn page op next h1 h2 h3 h4 h5 h6 =>
    obtain ⟨_, _, _, o1, o2⟩ := h5
    exact ⟨by simp only; omega, by simp only; omega, by show noKey.key.size ≤ _; omega, by simp, by simp, by simp only; omega, by simp only; omega⟩
  | nest lsn prev txn next h1 h2 h3 h6 =>
    exact ⟨by show noOp.old.size ≤ _; omega, by show noOp.new.size ≤ _; omega, by show noKey.key.size ≤ _; omega, by simp, by simp, by simp only; omega, by simp only; omega⟩
  | image lsn prev txn page op h1 h2 h3 h4 h5 =>
    obtain ⟨_, _, _, o1, o2⟩ := h5
    exact ⟨by simp only; omega, by simp only; omega, by show noKey.key.size ≤ _; omega, by simp, by simp, by simp only; omega, by simp only; omega⟩
  | check lsn prev txn n ts ds h1 h2 h3 h4 h5 =>
    obtain ⟨l1, l2, _, _⟩ := h5
    simp only at l1 l2
    exact ⟨by show noOp.old.size ≤ _; omega, by show noOp.new.size ≤ _; omega, by show noKey.key.size ≤ _; omega, by simp only; omega, by simp only; omega, by simp only; omega, by simp only; omega⟩
end Rc
namespace Go.Proofs.Ythfglhafphfhiaa
open Go.RowKit
theorem Wr.old {w u v : World} {a f b : Nat} {R F : Array Value} {l : List UInt8} (h : Wr w a f b R F l u) (hk : KeptW (b + 1) b u v) : Below w.heap.size w v :=
  h.below.trans (hk.below (by have := h.ab; have := h.low; omega) (by have := h.ab; have := h.low; omega) h.below.size)
set_option maxRecDepth 100000 in
set_option maxHeartbeats 2000000 in
theorem body_check (lsn prev txn page next nu ok os how root ep es : Int) (oo on ek : ByteArray) (ts : List Rc.TxnAt) (ds : List Rc.DirtyAt) (A D : Option Addr) (c d : Nat) (ht : ts.length ≤ 1048576) (hd : ds.length ≤ 1048576) (w : World) (hT : TxR w A c ts) (hD : DiR w D d ds) :
    Calls Try.prog 55 #[.agg #[.int .i64 lsn, .int .i64 prev, .int .i64 txn, .int .i64 9, .int .i64 page, .int .i64 next, .int .i64 nu, .int .i64 ok, .int .i64 os, .string oo, .string on, .int .i64 how, .int .i64 root, .string ek, .int .i64 ep, .int .i64 es, .slice A ts.length c, .slice D ds.length d]] w fun e w' => e = .returned (.string ⟨(Rc.bodyB ⟨lsn, prev, txn, 9, page, next, nu, ⟨ok, os, oo, on⟩, how, root, ⟨ek, ep, es⟩, ts, ds⟩).toArray⟩) ∧ Below w.heap.size w w' := by
  have HOF := Lib.hid (fun W => of_any 9 W)
  rw [show ofV 9 = .tuple #[formV false false false true true, .bool true] from rfl] at HOF
  have HBB := Lib.hid (show Rc.bodyB ⟨lsn, prev, txn, 9, page, next, nu, ⟨ok, os, oo, on⟩, how, root, ⟨ek, ep, es⟩, ts, ds⟩ = Rc.headB ⟨lsn, prev, txn, 9, page, next, nu, ⟨ok, os, oo, on⟩, how, root, ⟨ek, ep, es⟩, ts, ds⟩ ++ Rc.restB ⟨lsn, prev, txn, 9, page, next, nu, ⟨ok, os, oo, on⟩, how, root, ⟨ek, ep, es⟩, ts, ds⟩ from rfl)
  rw [Rc.restB_9 rfl] at HBB
  have HT := Lib.hid hT
  have HD := Lib.hid hD
  clear hT hD
  generalize Rc.bodyB ⟨lsn, prev, txn, 9, page, next, nu, ⟨ok, os, oo, on⟩, how, root, ⟨ek, ep, es⟩, ts, ds⟩ = bb at HBB ⊢
  go_enter Try.func55, Try.ntmps55
  go_upto_region 3 with ((go_at_call 64; (with_reducible refine (HOF.out _).mono ?_); rintro e w1 ⟨rfl, hb1⟩))
  have H0 := Lib.hid (wr_new (R := #[.int .i64 lsn, .int .i64 prev, .int .i64 txn, .int .i64 9, .int .i64 page, .int .i64 next, .int .i64 nu, .int .i64 ok, .int .i64 os, .string oo, .string on, .int .i64 how, .int .i64 root, .string ek, .int .i64 ep, .int .i64 es, .slice A ts.length c, .slice D ds.length d]) (F := #[.bool false, .bool false, .bool false, .bool true, .bool true]) hb1)
  obtain ⟨V, hV⟩ : ∃ V, V = (w1.alloc (.cells #[.bool false, .bool false, .bool false, .bool true, .bool true] 134)).alloc (.cells #[.pointer none, .slice none 0 0] 147) := ⟨_, rfl⟩
  rw [← hV] at H0 ⊢
  clear hV
  have hR0 := blkCell H0.out.br
  have hF0 := blkCell H0.out.bf
  clear hb1 HOF
  go_upto_region 4 with ((go_at_call 75; refine (H0.out.put1 1 (by omega) 9 (by simp only [List.length_nil]; omega)).mono ?_; rintro e v1 ⟨rfl, hx⟩; have H1 := Lib.hid hx; clear hx; have hR1 := blkCell H1.out.br; have hF1 := blkCell H1.out.bf))
  clear hR0 hF0 H0
  go_upto_region 19 with ((go_at_call 75; refine (H1.out.put3 6 (by omega) lsn prev txn (by simp only [List.length_append, p_size, List.length_nil]; omega)).mono ?_; rintro e v2 ⟨rfl, hx⟩; have H2 := Lib.hid hx; clear hx; have hR2 := blkCell H2.out.br; have hF2 := blkCell H2.out.bf))
  clear hR1 hF1 H1
  have HLS := Lib.hid (lists_any _ _ lsn prev txn 9 page next nu ok os how root ep es oo on ek ts ds A D c d v2 H2.out.wr (fun v hk => HT.out.below (H2.out.old hk)) (fun v hk => HD.out.below (H2.out.old hk)) (by simp only [List.length_append, p_size, List.length_nil]; omega) ht hd)
  go_upto_region 20 with (first
    | (with_reducible refine listLoad (by kernel_rfl) 31 (.tmp 1) rfl w.heap.size rfl #[.int .i64 lsn, .int .i64 prev, .int .i64 txn, .int .i64 9, .int .i64 page, .int .i64 next, .int .i64 nu, .int .i64 ok, .int .i64 os, .string oo, .string on, .int .i64 how, .int .i64 root, .string ek, .int .i64 ep, .int .i64 es, .slice A ts.length c, .slice D ds.length d] _ H2.out.br _ Try.underlying31 (by kernel_rfl) (by kernel_rfl) ?_)
    | (go_at_call 77; (with_reducible refine HLS.out.mono ?_); rintro e v3 ⟨rfl, hw, hk⟩; have H3 := Lib.hid (H2.out.turn hw hk); clear hw hk))
  clear hR2 hF2 H2 HLS
  go_wp2_with ((go_at_call 47; refine (H3.out.done (by intro h; have := congrArg List.length h; simp only [List.length_append, p_size, List.length_nil] at this; omega)).mono ?_; rintro e w9 ⟨rfl, hb9⟩))
  go_ret
  refine ⟨?_, hb9⟩
  rw [HBB.out]
  simp [Rc.headB, Rc.listsB, List.append_assoc]
theorem body_any (x : Rc.Rec) (hx : Rc.Right x) (A D : Option Addr) (c d : Nat) (w : World) (hr : RecR w x A c D d) :
    Calls Try.prog 55 #[recV x (.slice A x.txns.length c) (.slice D x.dirty.length d)] w fun e w' => e = .returned (.string ⟨(Rc.bodyB x).toArray⟩) ∧ Below w.heap.size w w' := by
  obtain ⟨z1, z2, z3, z4, z5, k1, k9⟩ := Rc.right_sizes hx
  obtain ⟨lsn, prev, txn, kind, page, next, nu, ⟨ok, os, oo, on⟩, how, root, ⟨ek, ep, es⟩, ts, ds⟩ := x
  simp only at z1 z2 z3 z4 z5 k1 k9
  have h9 : kind = 2 ∨ kind = 3 ∨ kind = 4 ∨ kind = 8 ∨ kind = 9 ∨ kind = 1 ∨ kind = 5 ∨ kind = 6 ∨ kind = 7 := by omega
  rcases h9 with rfl | rfl | rfl | rfl | rfl | h9
  · exact body_change lsn prev txn page next nu ok os how root ep es oo on ek ts ds _ _ z1 z2 z3 w
  · exact body_clr lsn prev txn page next nu ok os how root ep es oo on ek ts ds _ _ z1 z2 z3 w
  · exact body_nest lsn prev txn page next nu ok os how root ep es oo on ek ts ds _ _ z1 z2 z3 w
  · exact body_image lsn prev txn page next nu ok os how root ep es oo on ek ts ds _ _ z1 z2 z3 w
  · exact body_check lsn prev txn page next nu ok os how root ep es oo on ek ts ds A D c d z4 z5 w hr.txns hr.dirty
  · exact body_bare kind h9 lsn prev txn page next nu ok os how root ep es oo on ek ts ds _ _ z1 z2 z3 w
end Go.Proofs.Ythfglhafphfhiaa
/- The walk over package rec: Get. -/
namespace Lg
/-- The parts of what Get asks, one behind the other. -/
theorem getO_short {s : List UInt8} {a : Nat} (h : s.length < a + 8 ∨ s.length < a + 8 + Oct.getN s a 4) : getO s a = none :=
  getO_no fun hI => by have := hI.1; omega
theorem getO_sum {s : List UInt8} {a : Nat} (h : Oct.getN s (a + 4) 4 ≠ Oct.sumN (bodyAt s a)) : getO s a = none := getO_no fun hI => h hI.2.1
theorem getO_wrong {s : List UInt8} {a : Nat} (h : ¬ Rc.Right (Rc.readM true (bodyAt s a))) : getO s a = none := getO_no fun hI => h hI.2.2.1
theorem getO_other {s : List UInt8} {a : Nat} (h : Rc.bodyB (Rc.readM true (bodyAt s a)) ≠ bodyAt s a) : getO s a = none := getO_no fun hI => h hI.2.2.2
end Lg
namespace Go.Proofs.Ythfglhafphfhiaa
open Go.RowKit
/-- What Get answers. -/
def GetOut (o : Option (Rc.Rec × Nat)) (w : World) (e : Ending) (w' : World) : Prop :=
  Below w.heap.size w w' ∧ match o with
  | some (r, n) => ∃ A c B d, e = .returned (.tuple #[recV r (.slice A r.txns.length c) (.slice B r.dirty.length d), .int .i64 (n : Int), .int .i64 0]) ∧ RecN w.heap.size w' r A c B d
  | none => ∃ k : Int, k ≠ 0 ∧ e = .returned (.tuple #[.agg zeroA, .int .i64 0, .int .i64 k])
theorem get_none {o : Option (Rc.Rec × Nat)} {w w' : World} (h : o = none) (hb : Below w.heap.size w w') (k : Int) (hk : k ≠ 0) : GetOut o w (.returned (.tuple #[.agg zeroA, .int .i64 0, .int .i64 k])) w' := by
  subst h; exact ⟨hb, k, hk, rfl⟩
theorem str_neq {a b : ByteArray} (h : a ≠ b) : (a.toList != b.toList) = true := by
  simp only [bne_iff_ne, ne_eq]
  intro e
  apply h
  rw [ByteArray.toList_eq, ByteArray.toList_eq] at e
  exact ByteArray.ext (Array.toList_inj.1 e)
theorem below_row {w u : World} (hb : Below w.heap.size w u) (cs : Array Value) : Below w.heap.size w (u.setRow w.heap.size cs) :=
  ⟨hb.os, hb.tape, hb.output, by show _ ≤ (u.heap.modify _ _).size; have := hb.size; simpa using this, fun k hk => (heap_setRow_ne _ _ _ _ (by omega)).trans (hb.block k hk)⟩
theorem extract_drop (s : ByteArray) (a : Nat) : (s.extract a s.size).data.toList = s.data.toList.drop a := by
  simp only [ByteArray.data_extract, Array.toList_extract, List.extract_eq_take_drop]
  exact List.take_of_length_le (by simp)
theorem get_there (s : ByteArray) (a : Nat) {n : Nat} (_hx : a + 4 ≤ s.size) (hn : Oct.getN s.data.toList a 4 = n) : Oct.intOf (Oct.getN (s.extract a s.size).data.toList 0 4) = (n : Int) := by
  have h0 : Oct.getN (s.extract a s.size).data.toList 0 4 = n := by
    rw [extract_drop, ← hn]; unfold Oct.getN; rw [List.drop_zero]
  have h1 := getN_small s.data.toList a 4
  rw [h0]
  unfold Oct.intOf
  rw [if_pos (by have : (256 : Nat) ^ 4 = 4294967296 := rfl; omega)]
/-! walk -/
set_option maxRecDepth 100000 in
set_option maxHeartbeats 4000000 in
theorem get_far (s : ByteArray) (a : Int) (hm : s.size ≤ 1000000) (ha : a < 0 ∨ (s.size : Int) < a) (o : Option (Rc.Rec × Nat)) (ho : o = none) (w : World) :
    Calls Try.prog 36 #[.string s, .int .i64 a] w (GetOut o w) := by
  have HN := Lib.hid ho
  clear ho
  have HZ := Lib.hid (heap_alloc_new w (.cells #[.int .i64 0, .int .i64 0, .int .i64 0, .int .i64 0, .int .i64 0, .int .i64 0, .int .i64 0, .int .i64 0, .int .i64 0, .string ⟨#[]⟩, .string ⟨#[]⟩, .int .i64 0, .int .i64 0, .string ⟨#[]⟩, .int .i64 0, .int .i64 0, .slice none 0 0, .slice none 0 0] 31))
  rcases ha with ha | ha
  · go_enter Try.func36, Try.ntmps36
    go_wp2_with (first | (with_reducible refine listStore (by kernel_rfl) 31 (.tmp 4) (.tmp 19) rfl w.heap.size #[.int .i64 0, .int .i64 0, .int .i64 0, .int .i64 0, .int .i64 0, .int .i64 0, .int .i64 0, .int .i64 0, .int .i64 0, .string ⟨#[]⟩, .string ⟨#[]⟩, .int .i64 0, .int .i64 0, .string ⟨#[]⟩, .int .i64 0, .int .i64 0, .slice none 0 0, .slice none 0 0] _ _ rfl rfl HZ.out (by kernel_rfl) (by kernel_rfl) (by kernel_rfl) ?_))
    refine bodyPost_ret (v := .tuple #[.agg #[.int .i64 0, .int .i64 0, .int .i64 0, .int .i64 0, .int .i64 0, .int .i64 0, .int .i64 0, .int .i64 0, .int .i64 0, .string ⟨#[]⟩, .string ⟨#[]⟩, .int .i64 0, .int .i64 0, .string ⟨#[]⟩, .int .i64 0, .int .i64 0, .slice none 0 0, .slice none 0 0], .int .i64 0, .int .i64 1]) (results_cell3 rfl _ _ rfl (load_whole (setRow_heap _ _ _ _ _ _ HZ.out) Try.underlying31 (by kernel_rfl) (by kernel_rfl)) rfl rfl) rfl ?_
    exact get_none HN.out (below_row (allocB _ _) _) 1 (by omega)
  · have h0 : ¬ a < 0 := by omega
    go_enter Try.func36, Try.ntmps36
    go_wp2_with (first | (with_reducible refine listStore (by kernel_rfl) 31 (.tmp 4) (.tmp 19) rfl w.heap.size #[.int .i64 0, .int .i64 0, .int .i64 0, .int .i64 0, .int .i64 0, .int .i64 0, .int .i64 0, .int .i64 0, .int .i64 0, .string ⟨#[]⟩, .string ⟨#[]⟩, .int .i64 0, .int .i64 0, .string ⟨#[]⟩, .int .i64 0, .int .i64 0, .slice none 0 0, .slice none 0 0] _ _ rfl rfl HZ.out (by kernel_rfl) (by kernel_rfl) (by kernel_rfl) ?_))
    refine bodyPost_ret (v := .tuple #[.agg #[.int .i64 0, .int .i64 0, .int .i64 0, .int .i64 0, .int .i64 0, .int .i64 0, .int .i64 0, .int .i64 0, .int .i64 0, .string ⟨#[]⟩, .string ⟨#[]⟩, .int .i64 0, .int .i64 0, .string ⟨#[]⟩, .int .i64 0, .int .i64 0, .slice none 0 0, .slice none 0 0], .int .i64 0, .int .i64 1]) (results_cell3 rfl _ _ rfl (load_whole (setRow_heap _ _ _ _ _ _ HZ.out) Try.underlying31 (by kernel_rfl) (by kernel_rfl)) rfl rfl) rfl ?_
    exact get_none HN.out (below_row (allocB _ _) _) 1 (by omega)
set_option maxRecDepth 100000 in
set_option maxHeartbeats 4000000 in
theorem get_short4 (s : ByteArray) (a : Nat) (_hm : s.size ≤ 1000000) (ha : a ≤ s.size) (h4 : s.size < a + 4) (o : Option (Rc.Rec × Nat)) (ho : o = none) (w : World) :
    Calls Try.prog 36 #[.string s, .int .i64 (a : Int)] w (GetOut o w) := by
  have HN := Lib.hid ho
  have HG := Lib.hid (fun W => get_no (s.extract a s.size) 0 4 (by rw [ByteArray.size_extract]; omega) (by omega) (by omega) (by unfold Oct.there; rw [ByteArray.size_extract]; simp; omega) W)
  have h1 : ¬ (a : Int) < 0 := by omega
  have h2 : (a : Int) ≤ (s.size : Int) := by omega
  have HZ := Lib.hid (heap_alloc_new w (.cells #[.int .i64 0, .int .i64 0, .int .i64 0, .int .i64 0, .int .i64 0, .int .i64 0, .int .i64 0, .int .i64 0, .int .i64 0, .string ⟨#[]⟩, .string ⟨#[]⟩, .int .i64 0, .int .i64 0, .string ⟨#[]⟩, .int .i64 0, .int .i64 0, .slice none 0 0, .slice none 0 0] 31))
  clear ho h4
  go_enter Try.func36, Try.ntmps36
  go_wp2_with (first | (go_at_call 51; refine (HG.out _).mono ?_; rintro e w1 ⟨rfl, rfl⟩) | (with_reducible refine listStore (by kernel_rfl) 31 (.tmp 4) (.tmp 42) rfl w.heap.size #[.int .i64 0, .int .i64 0, .int .i64 0, .int .i64 0, .int .i64 0, .int .i64 0, .int .i64 0, .int .i64 0, .int .i64 0, .string ⟨#[]⟩, .string ⟨#[]⟩, .int .i64 0, .int .i64 0, .string ⟨#[]⟩, .int .i64 0, .int .i64 0, .slice none 0 0, .slice none 0 0] _ _ rfl rfl HZ.out (by kernel_rfl) (by kernel_rfl) (by kernel_rfl) ?_))
  refine bodyPost_ret (v := .tuple #[.agg #[.int .i64 0, .int .i64 0, .int .i64 0, .int .i64 0, .int .i64 0, .int .i64 0, .int .i64 0, .int .i64 0, .int .i64 0, .string ⟨#[]⟩, .string ⟨#[]⟩, .int .i64 0, .int .i64 0, .string ⟨#[]⟩, .int .i64 0, .int .i64 0, .slice none 0 0, .slice none 0 0], .int .i64 0, .int .i64 3]) (results_cell3 rfl _ _ rfl (load_whole (setRow_heap _ _ _ _ _ _ HZ.out) Try.underlying31 (by kernel_rfl) (by kernel_rfl)) rfl rfl) rfl ?_
  exact get_none HN.out (below_row (allocB _ _) _) 3 (by omega)
set_option maxRecDepth 100000 in
set_option maxHeartbeats 4000000 in
theorem get_short8 (s : ByteArray) (a n : Nat) (hm : s.size ≤ 1000000) (hx : a + 4 ≤ s.size) (hn : Oct.getN s.data.toList a 4 = n) (h8 : s.size < a + 8 ∨ s.size < a + 8 + n) (o : Option (Rc.Rec × Nat)) (ho : o = none) (w : World) :
    Calls Try.prog 36 #[.string s, .int .i64 (a : Int)] w (GetOut o w) := by
  have HN := Lib.hid ho
  have hsx : (s.extract a s.size).size = s.size - a := by rw [ByteArray.size_extract]; omega
  have HG := Lib.hid (fun W => get_yes (s.extract a s.size) 0 4 (by omega) (by omega) (by omega) (by omega) W)
  rw [get_there s a hx hn] at HG
  have h1 : ¬ (a : Int) < 0 := by omega
  have h2 : (a : Int) ≤ (s.size : Int) := by omega
  have HZ := Lib.hid (heap_alloc_new w (.cells #[.int .i64 0, .int .i64 0, .int .i64 0, .int .i64 0, .int .i64 0, .int .i64 0, .int .i64 0, .int .i64 0, .int .i64 0, .string ⟨#[]⟩, .string ⟨#[]⟩, .int .i64 0, .int .i64 0, .string ⟨#[]⟩, .int .i64 0, .int .i64 0, .slice none 0 0, .slice none 0 0] 31))
  clear ho hn
  obtain ⟨t, ht⟩ : ∃ t : Nat, t = s.size - a := ⟨_, rfl⟩
  rw [← ht] at hsx
  generalize hxe : s.extract a s.size = x at hsx HG
  by_cases hs8 : t < 8
  · have h3 : (x.size : Int) < 8 := by omega
    have h3n : x.size < 8 := by omega
    clear hsx ht h8
    go_enter Try.func36, Try.ntmps36
    go_upto_region 4 with fail
    try rw [hxe]
    clear hxe
    go_wp2_with (first | (go_at_call 51; refine (HG.out _).mono ?_; rintro e w1 ⟨rfl, hb1⟩; have HZ1 := blkNew hb1; have HB1 := joinB (allocB _ _) hb1) | (with_reducible refine listStore (by kernel_rfl) 31 (.tmp 4) (.tmp 42) rfl w.heap.size #[.int .i64 0, .int .i64 0, .int .i64 0, .int .i64 0, .int .i64 0, .int .i64 0, .int .i64 0, .int .i64 0, .int .i64 0, .string ⟨#[]⟩, .string ⟨#[]⟩, .int .i64 0, .int .i64 0, .string ⟨#[]⟩, .int .i64 0, .int .i64 0, .slice none 0 0, .slice none 0 0] _ _ rfl rfl HZ1 (by kernel_rfl) (by kernel_rfl) (by kernel_rfl) ?_))
    refine bodyPost_ret (v := .tuple #[.agg #[.int .i64 0, .int .i64 0, .int .i64 0, .int .i64 0, .int .i64 0, .int .i64 0, .int .i64 0, .int .i64 0, .int .i64 0, .string ⟨#[]⟩, .string ⟨#[]⟩, .int .i64 0, .int .i64 0, .string ⟨#[]⟩, .int .i64 0, .int .i64 0, .slice none 0 0, .slice none 0 0], .int .i64 0, .int .i64 3]) (results_cell3 rfl _ _ rfl (load_whole (setRow_heap _ _ _ _ _ _ HZ1) Try.underlying31 (by kernel_rfl) (by kernel_rfl)) rfl rfl) rfl ?_
    exact get_none HN.out (below_row HB1 _) 3 (by omega)
  · have h3 : ¬ (x.size : Int) < 8 := by omega
    have h3n : ¬ x.size < 8 := by omega
    have h4 : (x.size : Int) - 8 < (n : Int) := by omega
    have w8 : IntKind.i64.wrap ((x.size : Int) - 8) = (x.size : Int) - 8 := IntWalk.i64_in _ (by omega)
    clear hsx ht h8 hs8
    go_enter Try.func36, Try.ntmps36
    go_upto_region 4 with fail
    try rw [hxe]
    clear hxe
    go_wp2_with (first | (go_at_call 51; refine (HG.out _).mono ?_; rintro e w1 ⟨rfl, hb1⟩; have HZ1 := blkNew hb1; have HB1 := joinB (allocB _ _) hb1) | (with_reducible refine listStore (by kernel_rfl) 31 (.tmp 4) (.tmp 42) rfl w.heap.size #[.int .i64 0, .int .i64 0, .int .i64 0, .int .i64 0, .int .i64 0, .int .i64 0, .int .i64 0, .int .i64 0, .int .i64 0, .string ⟨#[]⟩, .string ⟨#[]⟩, .int .i64 0, .int .i64 0, .string ⟨#[]⟩, .int .i64 0, .int .i64 0, .slice none 0 0, .slice none 0 0] _ _ rfl rfl HZ1 (by kernel_rfl) (by kernel_rfl) (by kernel_rfl) ?_))
    refine bodyPost_ret (v := .tuple #[.agg #[.int .i64 0, .int .i64 0, .int .i64 0, .int .i64 0, .int .i64 0, .int .i64 0, .int .i64 0, .int .i64 0, .int .i64 0, .string ⟨#[]⟩, .string ⟨#[]⟩, .int .i64 0, .int .i64 0, .string ⟨#[]⟩, .int .i64 0, .int .i64 0, .slice none 0 0, .slice none 0 0], .int .i64 0, .int .i64 3]) (results_cell3 rfl _ _ rfl (load_whole (setRow_heap _ _ _ _ _ _ HZ1) Try.underlying31 (by kernel_rfl) (by kernel_rfl)) rfl rfl) rfl ?_
    exact get_none HN.out (below_row HB1 _) 3 (by omega)
set_option maxRecDepth 100000 in
set_option maxHeartbeats 8000000 in
theorem get_long (s : ByteArray) (a n : Nat) (hm : s.size ≤ 1000000) (hn : Oct.getN s.data.toList a 4 = n) (hx : a + 8 + n ≤ s.size) (w : World) :
    Calls Try.prog 36 #[.string s, .int .i64 (a : Int)] w (GetOut (Lg.getO s.data.toList a) w) := by
  have hsx : (s.extract a s.size).size = s.size - a := by rw [ByteArray.size_extract]; omega
  have HG := Lib.hid (fun W => get_yes (s.extract a s.size) 0 4 (by omega) (by omega) (by omega) (by omega) W)
  rw [get_there s a (by omega) hn] at HG
  obtain ⟨y, hy⟩ : ∃ y, y = (s.extract a s.size).extract 4 (8 + n) := ⟨_, rfl⟩
  have hyl : y.data.toList = (s.data.toList.drop (a + 4)).take (4 + n) := by
    rw [hy, show 8 + n = 4 + (4 + n) by omega, extract_list]
    show ((_ : List UInt8).drop 4).take (4 + n) = _
    rw [show (s.extract a s.size).data.toList = s.data.toList.drop a from extract_drop s a, List.drop_drop]
  have hys : y.size = 4 + n := by
    have e : y.size = y.data.toList.length := by simp
    rw [e, hyl, List.length_take, List.length_drop]
    have : s.data.toList.length = s.size := by simp
    omega
  have hy4 : Oct.getN y.data.toList 0 4 = Oct.getN s.data.toList (a + 4) 4 := by
    unfold Oct.getN
    rw [hyl, List.drop_zero, List.take_take, Nat.min_eq_left (by omega)]
  have hyd : y.data.toList.drop 4 = Lg.bodyAt s.data.toList a := by
    rw [hyl]; unfold Lg.bodyAt
    rw [hn, List.drop_take, List.drop_drop, show 4 + n - 4 = n by omega]
  have hq := getN_small s.data.toList (a + 4) 4
  have HO := Lib.hid (fun W => open4_any y (by omega) (by omega) (Oct.getN s.data.toList (a + 4) 4) hy4 (by unfold Oct.intOf; rw [if_pos (by have : (256 : Nat) ^ 4 = 4294967296 := rfl; omega)]) W)
  rw [hyd] at HO
  have h1 : ¬ (a : Int) < 0 := by omega
  have h2 : (a : Int) ≤ (s.size : Int) := by omega
  have HZ := Lib.hid (heap_alloc_new w (.cells #[.int .i64 0, .int .i64 0, .int .i64 0, .int .i64 0, .int .i64 0, .int .i64 0, .int .i64 0, .int .i64 0, .int .i64 0, .string ⟨#[]⟩, .string ⟨#[]⟩, .int .i64 0, .int .i64 0, .string ⟨#[]⟩, .int .i64 0, .int .i64 0, .slice none 0 0, .slice none 0 0] 31))
  have HNO := @Lg.getO_sum s.data.toList a
  have HNW := @Lg.getO_wrong s.data.toList a
  have HNX := @Lg.getO_other s.data.toList a
  have HYE := @Lg.getO_yes s.data.toList a
  have HIS : Oct.getN s.data.toList (a + 4) 4 = Oct.sumN (Lg.bodyAt s.data.toList a) → Rc.Right (Rc.readM true (Lg.bodyAt s.data.toList a)) → Rc.bodyB (Rc.readM true (Lg.bodyAt s.data.toList a)) = Lg.bodyAt s.data.toList a → Lg.Is s.data.toList a := fun q1 q2 q3 =>
    ⟨by rw [hn]; have : s.data.toList.length = s.size := (by simp); omega, q1, q2, q3⟩
  have hzl : (y.extract 4 y.size).data.toList = Lg.bodyAt s.data.toList a := by rw [extract_drop, hyd]
  have hzs : (y.extract 4 y.size).size = n := by rw [ByteArray.size_extract]; omega
  rw [hn] at HYE
  obtain ⟨x, hxe⟩ : ∃ x, x = s.extract a s.size := ⟨_, rfl⟩
  obtain ⟨z, hze⟩ : ∃ z, z = y.extract 4 y.size := ⟨_, rfl⟩
  rw [← hxe] at HG hsx hy
  rw [← hze] at HO hzl hzs
  have HXE := Lib.hid hxe
  have HYEE := Lib.hid hy
  have HZL := Lib.hid hzl
  have HREC := Lib.hid (fun g W hW => record_any g z (by omega) W hW)
  rw [hzl] at HREC
  generalize Lg.bodyAt s.data.toList a = L at *
  generalize Oct.getN s.data.toList (a + 4) 4 = q at *
  have h3 : ¬ (x.size : Int) < 8 := by omega
  have h3n : ¬ x.size < 8 := by omega
  have h4 : ¬ (x.size : Int) - 8 < (n : Int) := by omega
  have w8 : IntKind.i64.wrap ((x.size : Int) - 8) = (x.size : Int) - 8 := IntWalk.i64_in _ (by omega)
  have w9 : IntKind.i64.wrap (8 + (n : Int)) = 8 + (n : Int) := IntWalk.i64_in _ (by omega)
  have h5 : (4 : Int) ≤ 8 + (n : Int) := by omega
  have h6 : 8 + (n : Int) ≤ (x.size : Int) := by omega
  have h7 : (8 + (n : Int)).toNat = 8 + n := by omega
  have h8 : (0 : Int) ≤ 8 + (n : Int) := by omega
  have w10 : IntKind.i64.wrap ((a : Int) + 8) = (a : Int) + 8 := IntWalk.i64_in _ (by omega)
  have w11 : IntKind.i64.wrap ((a : Int) + 8 + (n : Int)) = (a : Int) + 8 + (n : Int) := IntWalk.i64_in _ (by omega)
  have HFN := Lib.hid (show ((a + 8 + n : Nat) : Int) = (a : Int) + 8 + (n : Int) by omega)
  clear hyl hys hy4 hyd hq hn hx hsx hxe hy hze hzl hzs
  by_cases hs : q = Oct.sumN L
  · rw [if_pos hs] at HO
    have HIS := Lib.hid (HIS hs)
    clear HNO hs
    generalize hr : Rc.readM true L = r at *
    clear hr
    cases hb : Rc.rightB r with
    | false =>
      have HN := Lib.hid (HNW (fun h => by rw [Rc.rightB_yes h] at hb; cases hb))
      have HRI := Lib.hid (fun A c B d W (h : RecR W r A c B d) => cright_rec r A B c d W h)
      rw [hb] at HRI
      clear hb HNW HNX HYE HIS
      generalize Lg.getO s.data.toList a = o at HN ⊢
      obtain ⟨lsn, prev, txn, kind, page, next, nu, ⟨ok, os, oo, on⟩, how, root, ⟨ek, ep, es⟩, ts, ds⟩ := r
      dsimp only [recV, recA] at HRI
      go_enter Try.func36, Try.ntmps36
      go_upto_region 4 with fail
      rw [← HXE.out]
      go_upto_region 7 with (first | (go_at_call 51; refine (HG.out _).mono ?_; rintro e w1 ⟨rfl, hb1⟩; have HZ1 := Lib.hid (blkNew hb1); have HB1 := Lib.hid (joinB (allocB _ _) hb1)))
      clear hb1
      have hye := HYEE.out
      go_upto_region 10 with (first | (go_at_call 52; rw [← hye]; refine (HO.out _).mono ?_; rintro e w2 ⟨rfl, hb2⟩; have HZ2 := Lib.hid (blkOld HZ1.out hb2); have HB2 := Lib.hid (joinB HB1.out hb2)))
      clear hb2 hye HZ1 HB1
      have HBX := Lib.hid (show (w2.alloc (.cells #[.string z, .int .i64 0, .bool false] 118)).heap[w2.heap.size]? = some (.cells (rdC z 0 false) 118 (0, 0)) from heap_alloc_new w2 _)
      go_upto_region 11 with (first | (go_at_call 53; (with_reducible refine (HREC.out _ _ HBX.out).mono ?_); rintro e w3 ⟨A, c, B, d, rfl, hrr, hk3⟩; (try dsimp only [recV, recA])) | (with_reducible refine wpList_store_new rfl 31 (.tmp 10) (.tmp 57) rfl #[.int .i64 lsn, .int .i64 prev, .int .i64 txn, .int .i64 kind, .int .i64 page, .int .i64 next, .int .i64 nu, .int .i64 ok, .int .i64 os, .string oo, .string on, .int .i64 how, .int .i64 root, .string ek, .int .i64 ep, .int .i64 es, .slice A ts.length c, .slice B ds.length d] _ _ rfl (by kernel_rfl) (by kernel_rfl) (by kernel_rfl) (by kernel_rfl) ?_))
      have HB3 := Lib.hid (HB2.out.trans (show Below w.heap.size w2 w3 from (Below.refl w.heap.size w2).alloc HB2.out.size _ |>.trans (hk3.below (by have := HB2.out.size; simp; omega) HB2.out.size)))
      have HZ4 := Lib.hid (show (w3.alloc (.cells #[.int .i64 lsn, .int .i64 prev, .int .i64 txn, .int .i64 kind, .int .i64 page, .int .i64 next, .int .i64 nu, .int .i64 ok, .int .i64 os, .string oo, .string on, .int .i64 how, .int .i64 root, .string ek, .int .i64 ep, .int .i64 es, .slice A ts.length c, .slice B ds.length d] 31)).heap[w.heap.size]? = some (.cells #[.int .i64 0, .int .i64 0, .int .i64 0, .int .i64 0, .int .i64 0, .int .i64 0, .int .i64 0, .int .i64 0, .int .i64 0, .string ⟨#[]⟩, .string ⟨#[]⟩, .int .i64 0, .int .i64 0, .string ⟨#[]⟩, .int .i64 0, .int .i64 0, .slice none 0 0, .slice none 0 0] 31 (0, 0)) from by
        have h1 := heapLt HZ2.out
        have h2 := hk3.size
        simp at h2
        rw [Below.heap_alloc _ _ _ (by omega), hk3.block _ (by simp; omega) (by omega), Below.heap_alloc _ _ _ (by omega)]; exact HZ2.out)
      have HX := Lib.hid (heap_alloc_new w3 (.cells #[.int .i64 lsn, .int .i64 prev, .int .i64 txn, .int .i64 kind, .int .i64 page, .int .i64 next, .int .i64 nu, .int .i64 ok, .int .i64 os, .string oo, .string on, .int .i64 how, .int .i64 root, .string ek, .int .i64 ep, .int .i64 es, .slice A ts.length c, .slice B ds.length d] 31))
      have HRR := Lib.hid (hrr.rr.below (allocB w3 (.cells #[.int .i64 lsn, .int .i64 prev, .int .i64 txn, .int .i64 kind, .int .i64 page, .int .i64 next, .int .i64 nu, .int .i64 ok, .int .i64 os, .string oo, .string on, .int .i64 how, .int .i64 root, .string ek, .int .i64 ep, .int .i64 es, .slice A ts.length c, .slice B ds.length d] 31)))
      have HB4 := Lib.hid (pastAlloc (o := .cells #[.int .i64 lsn, .int .i64 prev, .int .i64 txn, .int .i64 kind, .int .i64 page, .int .i64 next, .int .i64 nu, .int .i64 ok, .int .i64 os, .string oo, .string on, .int .i64 how, .int .i64 root, .string ek, .int .i64 ep, .int .i64 es, .slice A ts.length c, .slice B ds.length d] 31) HB3.out)
      have hgw := HB3.out.size
      have HNA := Lib.hid ((hrr.mono (show w.heap.size + 1 ≤ _ by have h1 := heapLt HZ2.out; simp; omega)).below (allocB w3 (.cells #[.int .i64 lsn, .int .i64 prev, .int .i64 txn, .int .i64 kind, .int .i64 page, .int .i64 next, .int .i64 nu, .int .i64 ok, .int .i64 os, .string oo, .string on, .int .i64 how, .int .i64 root, .string ek, .int .i64 ep, .int .i64 es, .slice A ts.length c, .slice B ds.length d] 31)))
      clear hrr hk3 HZ2 HB2 HBX HB3
      obtain ⟨g, hge⟩ : ∃ g, g = w3.heap.size := ⟨_, rfl⟩
      obtain ⟨w4, hw4⟩ : ∃ W, W = w3.alloc (.cells #[.int .i64 lsn, .int .i64 prev, .int .i64 txn, .int .i64 kind, .int .i64 page, .int .i64 next, .int .i64 nu, .int .i64 ok, .int .i64 os, .string oo, .string on, .int .i64 how, .int .i64 root, .string ek, .int .i64 ep, .int .i64 es, .slice A ts.length c, .slice B ds.length d] 31) := ⟨_, rfl⟩
      rw [← hge] at HX ⊢
      rw [← hw4] at HX HRR HB4 HZ4 HNA ⊢
      clear hge hw4 hgw
      go_wp2_with (first | (with_reducible refine listLoad (by kernel_rfl) 31 (.tmp 10) rfl g rfl #[.int .i64 lsn, .int .i64 prev, .int .i64 txn, .int .i64 kind, .int .i64 page, .int .i64 next, .int .i64 nu, .int .i64 ok, .int .i64 os, .string oo, .string on, .int .i64 how, .int .i64 root, .string ek, .int .i64 ep, .int .i64 es, .slice A ts.length c, .slice B ds.length d] _ HX.out _ Try.underlying31 (by kernel_rfl) (by kernel_rfl) ?_) | (go_at_call 54; (with_reducible refine (HRI.out _ _ _ _ _ HRR.out).mono ?_); rintro e w5 ⟨rfl, hb5⟩; have HZ5 := blkOld HZ4.out hb5; have HB5 := joinB HB4.out hb5) | (with_reducible refine listStore (by kernel_rfl) 31 (.tmp 4) (.tmp 67) rfl w.heap.size #[.int .i64 0, .int .i64 0, .int .i64 0, .int .i64 0, .int .i64 0, .int .i64 0, .int .i64 0, .int .i64 0, .int .i64 0, .string ⟨#[]⟩, .string ⟨#[]⟩, .int .i64 0, .int .i64 0, .string ⟨#[]⟩, .int .i64 0, .int .i64 0, .slice none 0 0, .slice none 0 0] _ _ rfl rfl HZ5 (by kernel_rfl) (by kernel_rfl) (by kernel_rfl) ?_))
      refine bodyPost_ret (v := .tuple #[.agg #[.int .i64 0, .int .i64 0, .int .i64 0, .int .i64 0, .int .i64 0, .int .i64 0, .int .i64 0, .int .i64 0, .int .i64 0, .string ⟨#[]⟩, .string ⟨#[]⟩, .int .i64 0, .int .i64 0, .string ⟨#[]⟩, .int .i64 0, .int .i64 0, .slice none 0 0, .slice none 0 0], .int .i64 0, .int .i64 2]) (results_cell3 rfl _ _ rfl (load_whole (setRow_heap _ _ _ _ _ _ HZ5) Try.underlying31 (by kernel_rfl) (by kernel_rfl)) rfl rfl) rfl ?_
      exact get_none HN.out (below_row HB5 _) 2 (by omega)
    | true =>
      have hR := Rc.rightB_iff.1 hb
      have HRI := Lib.hid (fun A c B d W (h : RecR W r A c B d) => cright_rec r A B c d W h)
      have HBO := Lib.hid (fun A c B d W (h : RecR W r A c B d) => body_any r hR A B c d W h)
      rw [hb] at HRI
      obtain ⟨yb, hyb⟩ : ∃ yb : ByteArray, yb = ⟨(Rc.bodyB r).toArray⟩ := ⟨_, rfl⟩
      rw [← hyb] at HBO
      by_cases hxx : Rc.bodyB r = L
      · have hYB : yb = z := by
          rw [hyb, hxx, ← HZL.out]
        have HY := Lib.hid (HYE (HIS.out hR hxx))
        subst hYB
        clear hb HNW HNX HYE HIS hxx hR hyb HZL
        generalize Lg.getO s.data.toList a = o at HY ⊢
        have HOK := Lib.hid (fun A c B d w' (h1 : RecN w.heap.size w' r A c B d) (h2 : Below w.heap.size w w') => show GetOut o w (.returned (.tuple #[recV r (.slice A r.txns.length c) (.slice B r.dirty.length d), .int .i64 ((a : Int) + 8 + (n : Int)), .int .i64 0])) w' from by
          rw [HY.out, ← HFN.out]; exact ⟨h2, A, c, B, d, rfl, h1⟩)
        have hself : (yb.toList != yb.toList) = false := by simp
        obtain ⟨lsn, prev, txn, kind, page, next, nu, ⟨ok, os, oo, on⟩, how, root, ⟨ek, ep, es⟩, ts, ds⟩ := r
        dsimp only [recV, recA] at HRI HBO HOK
        go_enter Try.func36, Try.ntmps36
        go_upto_region 4 with fail
        rw [← HXE.out]
        go_upto_region 7 with (first | (go_at_call 51; refine (HG.out _).mono ?_; rintro e w1 ⟨rfl, hb1⟩; have HZ1 := Lib.hid (blkNew hb1); have HB1 := Lib.hid (joinB (allocB _ _) hb1)))
        clear hb1
        have hye := HYEE.out
        go_upto_region 10 with (first | (go_at_call 52; rw [← hye]; refine (HO.out _).mono ?_; rintro e w2 ⟨rfl, hb2⟩; have HZ2 := Lib.hid (blkOld HZ1.out hb2); have HB2 := Lib.hid (joinB HB1.out hb2)))
        clear hb2 hye HZ1 HB1
        have HBX := Lib.hid (show (w2.alloc (.cells #[.string yb, .int .i64 0, .bool false] 118)).heap[w2.heap.size]? = some (.cells (rdC yb 0 false) 118 (0, 0)) from heap_alloc_new w2 _)
        go_upto_region 11 with (first | (go_at_call 53; (with_reducible refine (HREC.out _ _ HBX.out).mono ?_); rintro e w3 ⟨A, c, B, d, rfl, hrr, hk3⟩; (try dsimp only [recV, recA])) | (with_reducible refine wpList_store_new rfl 31 (.tmp 10) (.tmp 57) rfl #[.int .i64 lsn, .int .i64 prev, .int .i64 txn, .int .i64 kind, .int .i64 page, .int .i64 next, .int .i64 nu, .int .i64 ok, .int .i64 os, .string oo, .string on, .int .i64 how, .int .i64 root, .string ek, .int .i64 ep, .int .i64 es, .slice A ts.length c, .slice B ds.length d] _ _ rfl (by kernel_rfl) (by kernel_rfl) (by kernel_rfl) (by kernel_rfl) ?_))
        have HB3 := Lib.hid (HB2.out.trans (show Below w.heap.size w2 w3 from (Below.refl w.heap.size w2).alloc HB2.out.size _ |>.trans (hk3.below (by have := HB2.out.size; simp; omega) HB2.out.size)))
        have HZ4 := Lib.hid (show (w3.alloc (.cells #[.int .i64 lsn, .int .i64 prev, .int .i64 txn, .int .i64 kind, .int .i64 page, .int .i64 next, .int .i64 nu, .int .i64 ok, .int .i64 os, .string oo, .string on, .int .i64 how, .int .i64 root, .string ek, .int .i64 ep, .int .i64 es, .slice A ts.length c, .slice B ds.length d] 31)).heap[w.heap.size]? = some (.cells #[.int .i64 0, .int .i64 0, .int .i64 0, .int .i64 0, .int .i64 0, .int .i64 0, .int .i64 0, .int .i64 0, .int .i64 0, .string ⟨#[]⟩, .string ⟨#[]⟩, .int .i64 0, .int .i64 0, .string ⟨#[]⟩, .int .i64 0, .int .i64 0, .slice none 0 0, .slice none 0 0] 31 (0, 0)) from by
          have h1 := heapLt HZ2.out
          have h2 := hk3.size
          simp at h2
          rw [Below.heap_alloc _ _ _ (by omega), hk3.block _ (by simp; omega) (by omega), Below.heap_alloc _ _ _ (by omega)]; exact HZ2.out)
        have HX := Lib.hid (heap_alloc_new w3 (.cells #[.int .i64 lsn, .int .i64 prev, .int .i64 txn, .int .i64 kind, .int .i64 page, .int .i64 next, .int .i64 nu, .int .i64 ok, .int .i64 os, .string oo, .string on, .int .i64 how, .int .i64 root, .string ek, .int .i64 ep, .int .i64 es, .slice A ts.length c, .slice B ds.length d] 31))
        have HRR := Lib.hid (hrr.rr.below (allocB w3 (.cells #[.int .i64 lsn, .int .i64 prev, .int .i64 txn, .int .i64 kind, .int .i64 page, .int .i64 next, .int .i64 nu, .int .i64 ok, .int .i64 os, .string oo, .string on, .int .i64 how, .int .i64 root, .string ek, .int .i64 ep, .int .i64 es, .slice A ts.length c, .slice B ds.length d] 31)))
        have HB4 := Lib.hid (pastAlloc (o := .cells #[.int .i64 lsn, .int .i64 prev, .int .i64 txn, .int .i64 kind, .int .i64 page, .int .i64 next, .int .i64 nu, .int .i64 ok, .int .i64 os, .string oo, .string on, .int .i64 how, .int .i64 root, .string ek, .int .i64 ep, .int .i64 es, .slice A ts.length c, .slice B ds.length d] 31) HB3.out)
        have hgw := HB3.out.size
        have HNA := Lib.hid ((hrr.mono (show w.heap.size + 1 ≤ _ by have h1 := heapLt HZ2.out; simp; omega)).below (allocB w3 (.cells #[.int .i64 lsn, .int .i64 prev, .int .i64 txn, .int .i64 kind, .int .i64 page, .int .i64 next, .int .i64 nu, .int .i64 ok, .int .i64 os, .string oo, .string on, .int .i64 how, .int .i64 root, .string ek, .int .i64 ep, .int .i64 es, .slice A ts.length c, .slice B ds.length d] 31)))
        clear hrr hk3 HZ2 HB2 HBX HB3
        obtain ⟨g, hge⟩ : ∃ g, g = w3.heap.size := ⟨_, rfl⟩
        obtain ⟨w4, hw4⟩ : ∃ W, W = w3.alloc (.cells #[.int .i64 lsn, .int .i64 prev, .int .i64 txn, .int .i64 kind, .int .i64 page, .int .i64 next, .int .i64 nu, .int .i64 ok, .int .i64 os, .string oo, .string on, .int .i64 how, .int .i64 root, .string ek, .int .i64 ep, .int .i64 es, .slice A ts.length c, .slice B ds.length d] 31) := ⟨_, rfl⟩
        rw [← hge] at HX ⊢
        rw [← hw4] at HX HRR HB4 HZ4 HNA ⊢
        clear hge hw4 hgw
        go_upto_region 13 with (first | (with_reducible refine listLoad (by kernel_rfl) 31 (.tmp 10) rfl g rfl #[.int .i64 lsn, .int .i64 prev, .int .i64 txn, .int .i64 kind, .int .i64 page, .int .i64 next, .int .i64 nu, .int .i64 ok, .int .i64 os, .string oo, .string on, .int .i64 how, .int .i64 root, .string ek, .int .i64 ep, .int .i64 es, .slice A ts.length c, .slice B ds.length d] _ HXb.out _ Try.underlying31 (by kernel_rfl) (by kernel_rfl) ?_) | (with_reducible refine listLoad (by kernel_rfl) 31 (.tmp 10) rfl g rfl #[.int .i64 lsn, .int .i64 prev, .int .i64 txn, .int .i64 kind, .int .i64 page, .int .i64 next, .int .i64 nu, .int .i64 ok, .int .i64 os, .string oo, .string on, .int .i64 how, .int .i64 root, .string ek, .int .i64 ep, .int .i64 es, .slice A ts.length c, .slice B ds.length d] _ HX.out _ Try.underlying31 (by kernel_rfl) (by kernel_rfl) ?_) | (go_at_call 54; (with_reducible refine (HRI.out _ _ _ _ _ HRR.out).mono ?_); rintro e w5 ⟨rfl, hb5⟩; have HXb := Lib.hid (blkOld HX.out hb5); have HRb := Lib.hid (HRR.out.below hb5); have HBa := Lib.hid hb5; have HZ5 := Lib.hid (blkOld HZ4.out hb5); have HB5 := Lib.hid (joinB HB4.out hb5); clear hb5) | (go_at_call 55; (with_reducible refine (HBO.out _ _ _ _ _ HRb.out).mono ?_); rintro e w6 ⟨rfl, hb6⟩; have HXc := Lib.hid (blkOld HXb.out hb6); have HNb := Lib.hid ((HNA.out.below HBa.out).below hb6); have HZ6 := Lib.hid (blkOld HZ5.out hb6); have HB6 := Lib.hid (joinB HB5.out hb6); clear hb6))
        clear hself
        go_wp2_with (first | (with_reducible refine listLoad (by kernel_rfl) 31 (.tmp 10) rfl g rfl #[.int .i64 lsn, .int .i64 prev, .int .i64 txn, .int .i64 kind, .int .i64 page, .int .i64 next, .int .i64 nu, .int .i64 ok, .int .i64 os, .string oo, .string on, .int .i64 how, .int .i64 root, .string ek, .int .i64 ep, .int .i64 es, .slice A ts.length c, .slice B ds.length d] _ HXc.out _ Try.underlying31 (by kernel_rfl) (by kernel_rfl) ?_) | (with_reducible refine listStore (by kernel_rfl) 31 (.tmp 4) (.tmp 68) rfl w.heap.size #[.int .i64 lsn, .int .i64 prev, .int .i64 txn, .int .i64 kind, .int .i64 page, .int .i64 next, .int .i64 nu, .int .i64 ok, .int .i64 os, .string oo, .string on, .int .i64 how, .int .i64 root, .string ek, .int .i64 ep, .int .i64 es, .slice A ts.length c, .slice B ds.length d] _ _ rfl rfl HZ6.out (by kernel_rfl) (by kernel_rfl) (by kernel_rfl) ?_))
        refine bodyPost_ret (v := .tuple #[.agg #[.int .i64 lsn, .int .i64 prev, .int .i64 txn, .int .i64 kind, .int .i64 page, .int .i64 next, .int .i64 nu, .int .i64 ok, .int .i64 os, .string oo, .string on, .int .i64 how, .int .i64 root, .string ek, .int .i64 ep, .int .i64 es, .slice A ts.length c, .slice B ds.length d], .int .i64 ((a : Int) + 8 + (n : Int)), .int .i64 0]) (results_cell3 rfl _ _ rfl (load_whole (setRow_heap _ _ _ _ _ _ HZ6.out) Try.underlying31 (by kernel_rfl) (by kernel_rfl)) rfl rfl) rfl ?_
        exact HOK.out A c B d _ (((HNb.out).row w.heap.size #[.int .i64 lsn, .int .i64 prev, .int .i64 txn, .int .i64 kind, .int .i64 page, .int .i64 next, .int .i64 nu, .int .i64 ok, .int .i64 os, .string oo, .string on, .int .i64 how, .int .i64 root, .string ek, .int .i64 ep, .int .i64 es, .slice A ts.length c, .slice B ds.length d] (by omega)).mono (by omega)) (below_row HB6.out _)
      · have hYB : yb ≠ z := fun e => hxx (by
          have := congrArg (fun b : ByteArray => b.data.toList) (hyb.symm.trans e)
          simp only [HZL.out] at this
          exact this)
        have HN := Lib.hid (HNX hxx)
        have hne := str_neq hYB
        have hne2 : (yb.toList == z.toList) = false := by simpa using hne
        have hne3 : ¬ yb.toList = z.toList := by simpa using hne
        clear hb HNW HNX HYE HIS hxx hR hyb HZL hYB
        generalize Lg.getO s.data.toList a = o at HN ⊢
        obtain ⟨lsn, prev, txn, kind, page, next, nu, ⟨ok, os, oo, on⟩, how, root, ⟨ek, ep, es⟩, ts, ds⟩ := r
        dsimp only [recV, recA] at HRI HBO
        go_enter Try.func36, Try.ntmps36
        go_upto_region 4 with fail
        rw [← HXE.out]
        go_upto_region 7 with (first | (go_at_call 51; refine (HG.out _).mono ?_; rintro e w1 ⟨rfl, hb1⟩; have HZ1 := Lib.hid (blkNew hb1); have HB1 := Lib.hid (joinB (allocB _ _) hb1)))
        clear hb1
        have hye := HYEE.out
        go_upto_region 10 with (first | (go_at_call 52; rw [← hye]; refine (HO.out _).mono ?_; rintro e w2 ⟨rfl, hb2⟩; have HZ2 := Lib.hid (blkOld HZ1.out hb2); have HB2 := Lib.hid (joinB HB1.out hb2)))
        clear hb2 hye HZ1 HB1
        have HBX := Lib.hid (show (w2.alloc (.cells #[.string z, .int .i64 0, .bool false] 118)).heap[w2.heap.size]? = some (.cells (rdC z 0 false) 118 (0, 0)) from heap_alloc_new w2 _)
        go_upto_region 11 with (first | (go_at_call 53; (with_reducible refine (HREC.out _ _ HBX.out).mono ?_); rintro e w3 ⟨A, c, B, d, rfl, hrr, hk3⟩; (try dsimp only [recV, recA])) | (with_reducible refine wpList_store_new rfl 31 (.tmp 10) (.tmp 57) rfl #[.int .i64 lsn, .int .i64 prev, .int .i64 txn, .int .i64 kind, .int .i64 page, .int .i64 next, .int .i64 nu, .int .i64 ok, .int .i64 os, .string oo, .string on, .int .i64 how, .int .i64 root, .string ek, .int .i64 ep, .int .i64 es, .slice A ts.length c, .slice B ds.length d] _ _ rfl (by kernel_rfl) (by kernel_rfl) (by kernel_rfl) (by kernel_rfl) ?_))
        have HB3 := Lib.hid (HB2.out.trans (show Below w.heap.size w2 w3 from (Below.refl w.heap.size w2).alloc HB2.out.size _ |>.trans (hk3.below (by have := HB2.out.size; simp; omega) HB2.out.size)))
        have HZ4 := Lib.hid (show (w3.alloc (.cells #[.int .i64 lsn, .int .i64 prev, .int .i64 txn, .int .i64 kind, .int .i64 page, .int .i64 next, .int .i64 nu, .int .i64 ok, .int .i64 os, .string oo, .string on, .int .i64 how, .int .i64 root, .string ek, .int .i64 ep, .int .i64 es, .slice A ts.length c, .slice B ds.length d] 31)).heap[w.heap.size]? = some (.cells #[.int .i64 0, .int .i64 0, .int .i64 0, .int .i64 0, .int .i64 0, .int .i64 0, .int .i64 0, .int .i64 0, .int .i64 0, .string ⟨#[]⟩, .string ⟨#[]⟩, .int .i64 0, .int .i64 0, .string ⟨#[]⟩, .int .i64 0, .int .i64 0, .slice none 0 0, .slice none 0 0] 31 (0, 0)) from by
          have h1 := heapLt HZ2.out
          have h2 := hk3.size
          simp at h2
          rw [Below.heap_alloc _ _ _ (by omega), hk3.block _ (by simp; omega) (by omega), Below.heap_alloc _ _ _ (by omega)]; exact HZ2.out)
        have HX := Lib.hid (heap_alloc_new w3 (.cells #[.int .i64 lsn, .int .i64 prev, .int .i64 txn, .int .i64 kind, .int .i64 page, .int .i64 next, .int .i64 nu, .int .i64 ok, .int .i64 os, .string oo, .string on, .int .i64 how, .int .i64 root, .string ek, .int .i64 ep, .int .i64 es, .slice A ts.length c, .slice B ds.length d] 31))
        have HRR := Lib.hid (hrr.rr.below (allocB w3 (.cells #[.int .i64 lsn, .int .i64 prev, .int .i64 txn, .int .i64 kind, .int .i64 page, .int .i64 next, .int .i64 nu, .int .i64 ok, .int .i64 os, .string oo, .string on, .int .i64 how, .int .i64 root, .string ek, .int .i64 ep, .int .i64 es, .slice A ts.length c, .slice B ds.length d] 31)))
        have HB4 := Lib.hid (pastAlloc (o := .cells #[.int .i64 lsn, .int .i64 prev, .int .i64 txn, .int .i64 kind, .int .i64 page, .int .i64 next, .int .i64 nu, .int .i64 ok, .int .i64 os, .string oo, .string on, .int .i64 how, .int .i64 root, .string ek, .int .i64 ep, .int .i64 es, .slice A ts.length c, .slice B ds.length d] 31) HB3.out)
        have hgw := HB3.out.size
        have HNA := Lib.hid ((hrr.mono (show w.heap.size + 1 ≤ _ by have h1 := heapLt HZ2.out; simp; omega)).below (allocB w3 (.cells #[.int .i64 lsn, .int .i64 prev, .int .i64 txn, .int .i64 kind, .int .i64 page, .int .i64 next, .int .i64 nu, .int .i64 ok, .int .i64 os, .string oo, .string on, .int .i64 how, .int .i64 root, .string ek, .int .i64 ep, .int .i64 es, .slice A ts.length c, .slice B ds.length d] 31)))
        clear hrr hk3 HZ2 HB2 HBX HB3
        obtain ⟨g, hge⟩ : ∃ g, g = w3.heap.size := ⟨_, rfl⟩
        obtain ⟨w4, hw4⟩ : ∃ W, W = w3.alloc (.cells #[.int .i64 lsn, .int .i64 prev, .int .i64 txn, .int .i64 kind, .int .i64 page, .int .i64 next, .int .i64 nu, .int .i64 ok, .int .i64 os, .string oo, .string on, .int .i64 how, .int .i64 root, .string ek, .int .i64 ep, .int .i64 es, .slice A ts.length c, .slice B ds.length d] 31) := ⟨_, rfl⟩
        rw [← hge] at HX ⊢
        rw [← hw4] at HX HRR HB4 HZ4 HNA ⊢
        clear hge hw4 hgw
        go_wp2_with (first | (with_reducible refine listLoad (by kernel_rfl) 31 (.tmp 10) rfl g rfl #[.int .i64 lsn, .int .i64 prev, .int .i64 txn, .int .i64 kind, .int .i64 page, .int .i64 next, .int .i64 nu, .int .i64 ok, .int .i64 os, .string oo, .string on, .int .i64 how, .int .i64 root, .string ek, .int .i64 ep, .int .i64 es, .slice A ts.length c, .slice B ds.length d] _ HXb.out _ Try.underlying31 (by kernel_rfl) (by kernel_rfl) ?_) | (with_reducible refine listLoad (by kernel_rfl) 31 (.tmp 10) rfl g rfl #[.int .i64 lsn, .int .i64 prev, .int .i64 txn, .int .i64 kind, .int .i64 page, .int .i64 next, .int .i64 nu, .int .i64 ok, .int .i64 os, .string oo, .string on, .int .i64 how, .int .i64 root, .string ek, .int .i64 ep, .int .i64 es, .slice A ts.length c, .slice B ds.length d] _ HX.out _ Try.underlying31 (by kernel_rfl) (by kernel_rfl) ?_) | (go_at_call 54; (with_reducible refine (HRI.out _ _ _ _ _ HRR.out).mono ?_); rintro e w5 ⟨rfl, hb5⟩; have HXb := Lib.hid (blkOld HX.out hb5); have HRb := Lib.hid (HRR.out.below hb5); have HZ5 := Lib.hid (blkOld HZ4.out hb5); have HB5 := Lib.hid (joinB HB4.out hb5); clear hb5) | (go_at_call 55; (with_reducible refine (HBO.out _ _ _ _ _ HRb.out).mono ?_); rintro e w6 ⟨rfl, hb6⟩; have HZ6 := blkOld HZ5.out hb6; have HB6 := joinB HB5.out hb6) | (with_reducible refine listStore (by kernel_rfl) 31 (.tmp 4) (.tmp 67) rfl w.heap.size #[.int .i64 0, .int .i64 0, .int .i64 0, .int .i64 0, .int .i64 0, .int .i64 0, .int .i64 0, .int .i64 0, .int .i64 0, .string ⟨#[]⟩, .string ⟨#[]⟩, .int .i64 0, .int .i64 0, .string ⟨#[]⟩, .int .i64 0, .int .i64 0, .slice none 0 0, .slice none 0 0] _ _ rfl rfl HZ6 (by kernel_rfl) (by kernel_rfl) (by kernel_rfl) ?_))
        refine bodyPost_ret (v := .tuple #[.agg #[.int .i64 0, .int .i64 0, .int .i64 0, .int .i64 0, .int .i64 0, .int .i64 0, .int .i64 0, .int .i64 0, .int .i64 0, .string ⟨#[]⟩, .string ⟨#[]⟩, .int .i64 0, .int .i64 0, .string ⟨#[]⟩, .int .i64 0, .int .i64 0, .slice none 0 0, .slice none 0 0], .int .i64 0, .int .i64 2]) (results_cell3 rfl _ _ rfl (load_whole (setRow_heap _ _ _ _ _ _ HZ6) Try.underlying31 (by kernel_rfl) (by kernel_rfl)) rfl rfl) rfl ?_
        exact get_none HN.out (below_row HB6 _) 2 (by omega)
  · have HN := Lib.hid (HNO hs)
    rw [if_neg hs] at HO
    clear HNO HNW HNX HYE HIS hs HREC HZL
    generalize Lg.getO s.data.toList a = o at HN ⊢
    go_enter Try.func36, Try.ntmps36
    go_upto_region 4 with fail
    rw [← HXE.out]
    go_upto_region 7 with (first | (go_at_call 51; refine (HG.out _).mono ?_; rintro e w1 ⟨rfl, hb1⟩; have HZ1 := Lib.hid (blkNew hb1); have HB1 := Lib.hid (joinB (allocB _ _) hb1)))
    have hye := HYEE.out
    clear hb1
    go_wp2_with (first | (go_at_call 52; rw [← hye]; refine (HO.out _).mono ?_; rintro e w2 ⟨rfl, hb2⟩; have HZ2 := blkOld HZ1.out hb2; have HB2 := joinB HB1.out hb2) | (with_reducible refine listStore (by kernel_rfl) 31 (.tmp 4) (.tmp 53) rfl w.heap.size #[.int .i64 0, .int .i64 0, .int .i64 0, .int .i64 0, .int .i64 0, .int .i64 0, .int .i64 0, .int .i64 0, .int .i64 0, .string ⟨#[]⟩, .string ⟨#[]⟩, .int .i64 0, .int .i64 0, .string ⟨#[]⟩, .int .i64 0, .int .i64 0, .slice none 0 0, .slice none 0 0] _ _ rfl rfl HZ2 (by kernel_rfl) (by kernel_rfl) (by kernel_rfl) ?_))
    refine bodyPost_ret (v := .tuple #[.agg #[.int .i64 0, .int .i64 0, .int .i64 0, .int .i64 0, .int .i64 0, .int .i64 0, .int .i64 0, .int .i64 0, .int .i64 0, .string ⟨#[]⟩, .string ⟨#[]⟩, .int .i64 0, .int .i64 0, .string ⟨#[]⟩, .int .i64 0, .int .i64 0, .slice none 0 0, .slice none 0 0], .int .i64 0, .int .i64 19]) (results_cell3 rfl _ _ rfl (load_whole (setRow_heap _ _ _ _ _ _ HZ2) Try.underlying31 (by kernel_rfl) (by kernel_rfl)) rfl rfl) rfl ?_
    exact get_none HN.out (below_row HB2 _) 19 (by omega)
theorem get_rec (s : ByteArray) (a : Nat) (hm : s.size ≤ 1000000) (w : World) :
    Calls Try.prog 36 #[.string s, .int .i64 (a : Int)] w (GetOut (Lg.getO s.data.toList a) w) := by
  have hl : s.data.toList.length = s.size := by simp
  by_cases h1 : s.size < a
  · exact get_far s a hm (.inr (by omega)) _ (Lg.getO_short (.inl (by omega))) w
  by_cases h2 : s.size < a + 4
  · exact get_short4 s a hm (by omega) h2 _ (Lg.getO_short (.inl (by omega))) w
  by_cases h3 : s.size < a + 8 ∨ s.size < a + 8 + Oct.getN s.data.toList a 4
  · exact get_short8 s a _ hm (by omega) rfl h3 _ (Lg.getO_short (by rw [hl]; exact h3)) w
  · exact get_long s a _ hm rfl (by omega) w
end Go.Proofs.Ythfglhafphfhiaa
