/- The walk over package rec: the lists of a checkpoint. -/
import Derived.Test.YthfglhafphfhiaaGreatGc05
import Derived.Test.YthfglhafphfhiaaGreatGc03
import Derived.Test.YthfglhafphfhiaaGreatGc01
namespace Go.Proofs.YthfglhafphfhiaaGreat
open Go.RowKit
theorem bput1 {b : Nat} {l : List UInt8} {v : World} (h : BldW (b + 1) b l v) (size : Nat) (h8 : size ≤ 8) (x : Int) (hlen : l.length + 8 ≤ 140737488355328) :
    Calls Tryz.prog 122 #[.pointer (some ⟨b, 0, none⟩), .int .i64 (size : Int), .slice (some ⟨v.heap.size, 0, none⟩) 1 1] (v.alloc (.cells #[.int .i64 x] 3)) fun e w' => e = .returned (.tuple #[]) ∧ BldW (b + 1) b (l ++ Rc.p x size) w' ∧ KeptW (b + 1) b v w' := by
  have hs := bldw_size h
  refine (wput_any (b + 1) b v.heap.size l size h8 [x] _ (h.below (allocB v _)) (by simp; omega) (heap_alloc_new v _) (by omega) (by simpa using hlen)).mono ?_
  rintro e w' ⟨rfl, h3, h4⟩
  exact ⟨rfl, by simpa using h3, (KeptW.of_below (allocB v _)).trans h4⟩
theorem bput3 {b : Nat} {l : List UInt8} {v : World} (h : BldW (b + 1) b l v) (size : Nat) (h8 : size ≤ 8) (x y z : Int) (hlen : l.length + 24 ≤ 140737488355328) :
    Calls Tryz.prog 122 #[.pointer (some ⟨b, 0, none⟩), .int .i64 (size : Int), .slice (some ⟨v.heap.size, 0, none⟩) 3 3] (v.alloc (.cells #[.int .i64 x, .int .i64 y, .int .i64 z] 3)) fun e w' => e = .returned (.tuple #[]) ∧ BldW (b + 1) b (l ++ (Rc.p x size ++ (Rc.p y size ++ Rc.p z size))) w' ∧ KeptW (b + 1) b v w' := by
  have hs := bldw_size h
  refine (wput_any (b + 1) b v.heap.size l size h8 [x, y, z] _ (h.below (allocB v _)) (by simp; omega) (heap_alloc_new v _) (by omega) (by simpa using hlen)).mono ?_
  rintro e w' ⟨rfl, h3, h4⟩
  exact ⟨rfl, by simpa using h3, (KeptW.of_below (allocB v _)).trans h4⟩
theorem txnB_size (t : Rc.TxnAt) : (Rc.txnB t).length = 19 := by unfold Rc.txnB; simp only [List.length_append, p_size]
theorem dirtyB_size (t : Rc.DirtyAt) : (Rc.dirtyB t).length = 9 := by unfold Rc.dirtyB; simp only [List.length_append, p_size]
theorem flat_txn (ts : List Rc.TxnAt) : (ts.flatMap Rc.txnB).length = ts.length * 19 := by
  induction ts with
  | nil => rfl
  | cons t ts ih => rw [List.flatMap_cons, List.length_append, txnB_size, ih, List.length_cons]; omega
theorem flat_dirty (ts : List Rc.DirtyAt) : (ts.flatMap Rc.dirtyB).length = ts.length * 9 := by
  induction ts with
  | nil => rfl
  | cons t ts ih => rw [List.flatMap_cons, List.length_append, dirtyB_size, ih, List.length_cons]; omega
theorem flat_next {α : Type} (f : α → List UInt8) (xs : List α) {k : Nat} (hk : k < xs.length) : (xs.take (k + 1)).flatMap f = (xs.take k).flatMap f ++ f xs[k] := by
  rw [List.take_add_one, List.flatMap_append, List.getElem?_eq_getElem hk]
  simp
set_option maxRecDepth 100000 in
set_option maxHeartbeats 4000000 in
theorem lists_any (b : Nat) (l : List UInt8) (lsn prev txn kind page next nu ok os how root ep es : Int) (oo on ek : ByteArray) (ts : List Rc.TxnAt) (ds : List Rc.DirtyAt) (A D : Option Addr) (c d : Nat) (u : World) (h : BldW (b + 1) b l u)
    (hT : ∀ v, KeptW (b + 1) b u v → TxR v A c ts) (hD : ∀ v, KeptW (b + 1) b u v → DiR v D d ds) (hl : l.length ≤ 1000000) (ht : ts.length ≤ 1048576) (hd : ds.length ≤ 1048576) :
    Calls Tryz.prog 124 #[.pointer (some ⟨b, 0, none⟩), .agg #[.int .i64 lsn, .int .i64 prev, .int .i64 txn, .int .i64 kind, .int .i64 page, .int .i64 next, .int .i64 nu, .int .i64 ok, .int .i64 os, .string oo, .string on, .int .i64 how, .int .i64 root, .string ek, .int .i64 ep, .int .i64 es, .slice A ts.length c, .slice D ds.length d]] u fun e w' => e = .returned (.tuple #[]) ∧ BldW (b + 1) b (l ++ (Rc.p nu 6 ++ (Rc.p ts.length 2 ++ (ts.flatMap Rc.txnB ++ (Rc.p ds.length 2 ++ ds.flatMap Rc.dirtyB))))) w' ∧ KeptW (b + 1) b u w' := by
  have hbu := bldw_size h
  obtain ⟨L1, hL1⟩ : ∃ L, L = l ++ Rc.p nu 6 := ⟨_, rfl⟩
  obtain ⟨L2, hL2⟩ : ∃ L, L = L1 ++ Rc.p ts.length 2 := ⟨_, rfl⟩
  obtain ⟨L3, hL3⟩ : ∃ L, L = L2 ++ ts.flatMap Rc.txnB := ⟨_, rfl⟩
  obtain ⟨L4, hL4⟩ : ∃ L, L = L3 ++ Rc.p ds.length 2 := ⟨_, rfl⟩
  have z1 : L1.length = l.length + 6 := by rw [hL1, List.length_append, p_size]
  have z2 : L2.length = l.length + 8 := by rw [hL2, List.length_append, p_size, z1]
  have z3 : L3.length = l.length + 8 + ts.length * 19 := by rw [hL3, List.length_append, flat_txn, z2]
  have z4 : L4.length = l.length + 10 + ts.length * 19 := by rw [hL4, List.length_append, p_size, z3]; omega
  have HFIN := Lib.hid (show l ++ (Rc.p nu 6 ++ (Rc.p ts.length 2 ++ (ts.flatMap Rc.txnB ++ (Rc.p ds.length 2 ++ ds.flatMap Rc.dirtyB)))) = L4 ++ ds.flatMap Rc.dirtyB by rw [hL4, hL3, hL2, hL1]; simp only [List.append_assoc])
  have HL1 := Lib.hid hL1
  have HL2 := Lib.hid hL2
  have HL3 := Lib.hid hL3
  have HL4 := Lib.hid hL4
  have HZ := Lib.hid (And.intro z1 (And.intro z2 (And.intro z3 (And.intro z4 (And.intro hl (And.intro ht hd))))))
  have HT := Lib.hid hT
  have HD := Lib.hid hD
  have HW := Lib.hid h
  clear hL1 hL2 hL3 hL4 z1 z2 z3 z4 hT hD h
  go_enter Tryz.func124, Tryz.ntmps124
  go_upto_region 1 with fail
  have HB0 := Lib.hid (HW.out.below (allocB u (.cells #[.int .i64 lsn, .int .i64 prev, .int .i64 txn, .int .i64 kind, .int .i64 page, .int .i64 next, .int .i64 nu, .int .i64 ok, .int .i64 os, .string oo, .string on, .int .i64 how, .int .i64 root, .string ek, .int .i64 ep, .int .i64 es, .slice A ts.length c, .slice D ds.length d] 85)))
  have HK0 := Lib.hid (KeptW.of_below (B := b + 1) (b := b) (allocB u (.cells #[.int .i64 lsn, .int .i64 prev, .int .i64 txn, .int .i64 kind, .int .i64 page, .int .i64 next, .int .i64 nu, .int .i64 ok, .int .i64 os, .string oo, .string on, .int .i64 how, .int .i64 root, .string ek, .int .i64 ep, .int .i64 es, .slice A ts.length c, .slice D ds.length d] 85)))
  have HR0 := Lib.hid (heap_alloc_new u (.cells #[.int .i64 lsn, .int .i64 prev, .int .i64 txn, .int .i64 kind, .int .i64 page, .int .i64 next, .int .i64 nu, .int .i64 ok, .int .i64 os, .string oo, .string on, .int .i64 how, .int .i64 root, .string ek, .int .i64 ep, .int .i64 es, .slice A ts.length c, .slice D ds.length d] 85))
  obtain ⟨a, ha⟩ : ∃ a, a = u.heap.size := ⟨_, rfl⟩
  obtain ⟨v0, hv0⟩ : ∃ v, v = u.alloc (.cells #[.int .i64 lsn, .int .i64 prev, .int .i64 txn, .int .i64 kind, .int .i64 page, .int .i64 next, .int .i64 nu, .int .i64 ok, .int .i64 os, .string oo, .string on, .int .i64 how, .int .i64 root, .string ek, .int .i64 ep, .int .i64 es, .slice A ts.length c, .slice D ds.length d] 85) := ⟨_, rfl⟩
  rw [← hv0] at HB0 HK0 HR0 ⊢
  rw [← ha] at HR0 ⊢
  have hab : a ≠ b := by omega
  clear hv0 ha hbu HW
  have hR0 := blkCell HR0.out
  go_upto_region 2 with ((go_at_call 122; refine (bput1 HB0.out 6 (by omega) nu (by have := HZ.out; omega)).mono ?_; rintro e v1 ⟨rfl, hw, hk⟩))
  rw [← HL1.out] at hw
  have HB1 := Lib.hid hw
  have HK1 := Lib.hid (HK0.out.trans hk)
  have HR1 := Lib.hid (hk.at_ HR0.out hab (by decide))
  clear hR0 HB0 HK0 HR0 hw hk
  have hR1 := blkCell HR1.out
  go_upto_region 3 with ((go_at_call 122; refine (bput1 HB1.out 2 (by omega) ts.length (by have := HZ.out; omega)).mono ?_; rintro e v2 ⟨rfl, hw, hk⟩))
  rw [← HL2.out] at hw
  have HB2 := Lib.hid hw
  have HK2 := Lib.hid (HK1.out.trans hk)
  have HR2 := Lib.hid (hk.at_ HR1.out hab (by decide))
  clear hR1 HB1 HK1 HR1 hw hk
  have hR2 := blkCell HR2.out
  go_wp2_with fail
  clear hR2
  go_loopw [23] (fun i wr => ∃ k : Nat, k ≤ ts.length ∧ i = .int .i64 k ∧ BldW (b + 1) b (L2 ++ (ts.take k).flatMap Rc.txnB) wr ∧ KeptW (b + 1) b v2 wr) (fun i _ => ts.length - (intOf i).toNat)
  case atStart => exact ⟨0, Nat.zero_le _, rfl, by simpa using HB2.out, KeptW.refl _ _ _⟩
  case round =>
    obtain ⟨k, hk, rfl, hbw, hkw⟩ := hrel
    have HBW := Lib.hid hbw
    have HKW := Lib.hid hkw
    clear hbw hkw
    by_cases hlt : k < ts.length
    · obtain ⟨g, off, rfl, hc, hgl, hcell⟩ := read_at txC_len (HT.out wr (HK2.out.trans HKW.out)) hlt
      have q0 := hcell 0 _ rfl
      have q1 := hcell 1 _ rfl
      have q2 := hcell 2 _ rfl
      have q3 := hcell 3 _ rfl
      simp only [Nat.add_zero] at q0
      have HST := Lib.hid (flat_next Rc.txnB ts hlt)
      have HLN := Lib.hid (flat_txn (ts.take k))
      rw [List.length_take] at HLN
      generalize ts[k] = x at q0 q1 q2 q3 HST
      obtain ⟨xt, xl, xn, xd⟩ := x
      dsimp only at q0 q1 q2 q3
      clear hcell
      go_upto_region 6 with ((with_reducible refine wpList_store_new rfl 45 (.tmp 5) (.tmp 26) rfl #[.int .i64 xt, .int .i64 xl, .int .i64 xn, .bool xd] _ _ rfl (by kernel_rfl) (by kernel_rfl) (by kernel_rfl) (by kernel_rfl) ?_))
      have HX := Lib.hid (heap_alloc_new wr (.cells #[.int .i64 xt, .int .i64 xl, .int .i64 xn, .bool xd] 45))
      have HB3 := Lib.hid (HBW.out.below (allocB wr (.cells #[.int .i64 xt, .int .i64 xl, .int .i64 xn, .bool xd] 45)))
      have HK3 := Lib.hid (HKW.out.trans (KeptW.of_below (allocB wr (.cells #[.int .i64 xt, .int .i64 xl, .int .i64 xn, .bool xd] 45))))
      have hgb : wr.heap.size ≠ b := by have := bldw_size HBW.out; omega
      obtain ⟨xa, hxa⟩ : ∃ a, a = wr.heap.size := ⟨_, rfl⟩
      obtain ⟨v3, hv3⟩ : ∃ v, v = wr.alloc (.cells #[.int .i64 xt, .int .i64 xl, .int .i64 xn, .bool xd] 45) := ⟨_, rfl⟩
      rw [← hv3] at HX HB3 HK3 ⊢
      rw [← hxa] at HX hgb ⊢
      clear q0 q1 q2 q3 hv3 hxa HBW HKW hgl
      have hX := blkCell HX.out
      go_upto_region 7 with ((go_at_call 122; refine (bput3 HB3.out 6 (by omega) xt xl xn (by have := HZ.out; have := HLN.out; rw [List.length_append]; omega)).mono ?_; rintro e v4 ⟨rfl, hw, hk⟩))
      have HB4 := Lib.hid hw
      have HK4 := Lib.hid (HK3.out.trans hk)
      have HX4 := Lib.hid (hk.at_ HX.out hgb (by decide))
      clear hX HB3 HK3 HX hw hk
      have hX4 := blkCell HX4.out
      cases xd with
      | true =>
        go_wp2_with ((go_at_call 122; refine (bput1 HB4.out 1 (by omega) 1 (by have := HZ.out; have := HLN.out; simp only [List.length_append, p_size]; omega)).mono ?_; rintro e v5 ⟨rfl, hw, hk⟩))
        go_roundw
        case rel => exact ⟨k + 1, by omega, by go_num, by rw [HST.out]; simpa [Rc.txnB, List.append_assoc] using hw, HK4.out.trans hk⟩
        case measure => simp [intOf]; omega
      | false =>
        go_wp2_with ((go_at_call 122; refine (bput1 HB4.out 1 (by omega) 0 (by have := HZ.out; have := HLN.out; simp only [List.length_append, p_size]; omega)).mono ?_; rintro e v5 ⟨rfl, hw, hk⟩))
        go_roundw
        case rel => exact ⟨k + 1, by omega, by go_num, by rw [HST.out]; simpa [Rc.txnB, List.append_assoc] using hw, HK4.out.trans hk⟩
        case measure => simp [intOf]; omega
    · obtain rfl : k = ts.length := by omega
      obtain ⟨v6, rfl⟩ : ∃ v6 : World, v6 = wr := ⟨_, rfl⟩
      rw [List.take_length, ← HL3.out] at HBW
      have HK6 := Lib.hid (HK2.out.trans HKW.out)
      have HR6 := Lib.hid (HKW.out.at_ HR2.out hab (by decide))
      have hR6 := blkCell HR6.out
      go_upto_region 13 with ((go_at_call 122; refine (bput1 HBW.out 2 (by omega) ds.length (by have := HZ.out; omega)).mono ?_; rintro e v7 ⟨rfl, hw, hk⟩))
      rw [← HL4.out] at hw
      have HB7 := Lib.hid hw
      have HK7 := Lib.hid (HK6.out.trans hk)
      have HR7 := Lib.hid (hk.at_ HR6.out hab (by decide))
      clear hR6 HBW HKW HK6 HR6 HB2 HK2 HR2 hw hk
      have hR7 := blkCell HR7.out
      go_wp2_with fail
      clear hR7
      go_loopw [52] (fun i wr => ∃ k : Nat, k ≤ ds.length ∧ i = .int .i64 k ∧ BldW (b + 1) b (L4 ++ (ds.take k).flatMap Rc.dirtyB) wr ∧ KeptW (b + 1) b v7 wr) (fun i _ => ds.length - (intOf i).toNat)
      case atStart => exact ⟨0, Nat.zero_le _, rfl, by simpa using HB7.out, KeptW.refl _ _ _⟩
      case round =>
        obtain ⟨k, hk, rfl, hbw, hkw⟩ := hrel
        have HBW := Lib.hid hbw
        have HKW := Lib.hid hkw
        clear hbw hkw
        by_cases hlt : k < ds.length
        · obtain ⟨g, off, rfl, hc, hgl, hcell⟩ := read_at diC_len (HD.out wr (HK7.out.trans HKW.out)) hlt
          have q0 := hcell 0 _ rfl
          have q1 := hcell 1 _ rfl
          simp only [Nat.add_zero] at q0
          have HST := Lib.hid (flat_next Rc.dirtyB ds hlt)
          have HLN := Lib.hid (flat_dirty (ds.take k))
          rw [List.length_take] at HLN
          generalize ds[k] = x at q0 q1 HST
          obtain ⟨xp, xf⟩ := x
          dsimp only at q0 q1
          clear hcell
          go_upto_region 16 with ((with_reducible refine wpList_store_new rfl 130 (.tmp 8) (.tmp 55) rfl #[.int .i64 xp, .int .i64 xf] _ _ rfl (by kernel_rfl) (by kernel_rfl) (by kernel_rfl) (by kernel_rfl) ?_))
          have HX := Lib.hid (heap_alloc_new wr (.cells #[.int .i64 xp, .int .i64 xf] 130))
          have HB3 := Lib.hid (HBW.out.below (allocB wr (.cells #[.int .i64 xp, .int .i64 xf] 130)))
          have HK3 := Lib.hid (HKW.out.trans (KeptW.of_below (allocB wr (.cells #[.int .i64 xp, .int .i64 xf] 130))))
          have hgb : wr.heap.size ≠ b := by have := bldw_size HBW.out; omega
          obtain ⟨xa, hxa⟩ : ∃ a, a = wr.heap.size := ⟨_, rfl⟩
          obtain ⟨v3, hv3⟩ : ∃ v, v = wr.alloc (.cells #[.int .i64 xp, .int .i64 xf] 130) := ⟨_, rfl⟩
          rw [← hv3] at HX HB3 HK3 ⊢
          rw [← hxa] at HX hgb ⊢
          clear q0 q1 hv3 hxa HBW HKW hgl
          have hX := blkCell HX.out
          go_upto_region 17 with ((go_at_call 122; refine (bput1 HB3.out 3 (by omega) xp (by have := HZ.out; have := HLN.out; rw [List.length_append]; omega)).mono ?_; rintro e v4 ⟨rfl, hw, hk⟩))
          have HB4 := Lib.hid hw
          have HK4 := Lib.hid (HK3.out.trans hk)
          have HX4 := Lib.hid (hk.at_ HX.out hgb (by decide))
          clear hX HB3 HK3 HX hw hk
          have hX4 := blkCell HX4.out
          go_wp2_with ((go_at_call 122; refine (bput1 HB4.out 6 (by omega) xf (by have := HZ.out; have := HLN.out; simp only [List.length_append, p_size]; omega)).mono ?_; rintro e v5 ⟨rfl, hw, hk⟩))
          go_roundw
          case rel => exact ⟨k + 1, by omega, by go_num, by rw [HST.out]; simpa [Rc.dirtyB, List.append_assoc] using hw, HK4.out.trans hk⟩
          case measure => simp [intOf]; omega
        · obtain rfl : k = ds.length := by omega
          rw [List.take_length, ← HFIN.out] at HBW
          have HK9 := Lib.hid (HK7.out.trans HKW.out)
          go_wp2_with fail
          first | go_end0 | go_ret
          exact ⟨rfl, HBW.out, HK9.out⟩
end Go.Proofs.YthfglhafphfhiaaGreat
/- The walk over package rec: body of a checkpoint's record; of any record that may be. -/
namespace Rc
theorem right_sizes {r : Rec} (h : Right r) : r.op.old.size ≤ 65535 ∧ r.op.new.size ≤ 65535 ∧ r.e.key.size ≤ 65535 ∧ r.txns.length ≤ 1048576 ∧ r.dirty.length ≤ 1048576 ∧ 1 ≤ r.kind ∧ r.kind ≤ 9 := by
  have no1 : noOp.old.size = 0 := rfl
  have no2 : noOp.new.size = 0 := rfl
  have no3 : noKey.key.size = 0 := rfl
  cases h with
  | small kind lsn prev txn hk h1 h2 h3 =>
    unfold bare
    refine ⟨by show noOp.old.size ≤ _; omega, by show noOp.new.size ≤ _; omega, by show noKey.key.size ≤ _; omega, by simp, by simp, ?_, ?_⟩ <;> simp only <;> omega
  | change lsn prev txn page op how root e h1 h2 h3 h4 h5 h6 =>
    obtain ⟨_, _, _, o1, o2⟩ := h5
    have h7 : e.key.size ≤ 65535 := by
      rcases h6 with ⟨_, _, h8⟩ | ⟨_, _, _, _, h8⟩
      · simp only at h8; rw [h8]; omega
      · simp only at h8; omega
    exact ⟨by simp only; omega, by simp only; omega, h7, by simp, by simp, by simp only; omega, by simp only; omega⟩
  | clr lsn prev txn page op next h1 h2 h3 h4 h5 h6 =>
    obtain ⟨_, _, _, o1, o2⟩ := h5
    exact ⟨by simp only; omega, by simp only; omega, by show noKey.key.size ≤ _; omega, by simp, by simp, by simp only; omega, by simp only; omega⟩
  | nest lsn prev txn next h1 h2 h3 h6 =>
    exact ⟨by show noOp.old.size ≤ _; omega, by show noOp.new.size ≤ _; omega, by show noKey.key.size ≤ _; omega, by simp, by simp, by simp only; omega, by simp only; omega⟩
  | image lsn prev txn page op h1 h2 h3 h4 h5 =>
    obtain ⟨_, _, _, o1, o2⟩ := h5
    exact ⟨by simp only; omega, by simp only; omega, by show noKey.key.size ≤ _; omega, by simp, by simp, by simp only; omega, by simp only; omega⟩
  | check lsn prev txn n ts ds h1 h2 h3 h4 h5 =>
    obtain ⟨l1, l2, _, _⟩ := h5
    simp only at l1 l2
    exact ⟨by show noOp.old.size ≤ _; omega, by show noOp.new.size ≤ _; omega, by show noKey.key.size ≤ _; omega, by simp only; omega, by simp only; omega, by simp only; omega, by simp only; omega⟩
end Rc
namespace Go.Proofs.YthfglhafphfhiaaGreat
open Go.RowKit
theorem Wr.old {w u v : World} {a f b : Nat} {R F : Array Value} {l : List UInt8} (h : Wr w a f b R F l u) (hk : KeptW (b + 1) b u v) : Below w.heap.size w v :=
  h.below.trans (hk.below (by have := h.ab; have := h.low; omega) (by have := h.ab; have := h.low; omega) h.below.size)
set_option maxRecDepth 100000 in
set_option maxHeartbeats 2000000 in
theorem body_check (lsn prev txn page next nu ok os how root ep es : Int) (oo on ek : ByteArray) (ts : List Rc.TxnAt) (ds : List Rc.DirtyAt) (A D : Option Addr) (c d : Nat) (ht : ts.length ≤ 1048576) (hd : ds.length ≤ 1048576) (w : World) (hT : TxR w A c ts) (hD : DiR w D d ds) :
    Calls Tryz.prog 104 #[.agg #[.int .i64 lsn, .int .i64 prev, .int .i64 txn, .int .i64 9, .int .i64 page, .int .i64 next, .int .i64 nu, .int .i64 ok, .int .i64 os, .string oo, .string on, .int .i64 how, .int .i64 root, .string ek, .int .i64 ep, .int .i64 es, .slice A ts.length c, .slice D ds.length d]] w fun e w' => e = .returned (.string ⟨(Rc.bodyB ⟨lsn, prev, txn, 9, page, next, nu, ⟨ok, os, oo, on⟩, how, root, ⟨ek, ep, es⟩, ts, ds⟩).toArray⟩) ∧ Below w.heap.size w w' := by
  have HOF := Lib.hid (fun W => of_any 9 W)
  rw [show ofV 9 = .tuple #[formV false false false true true, .bool true] from rfl] at HOF
  have HBB := Lib.hid (show Rc.bodyB ⟨lsn, prev, txn, 9, page, next, nu, ⟨ok, os, oo, on⟩, how, root, ⟨ek, ep, es⟩, ts, ds⟩ = Rc.headB ⟨lsn, prev, txn, 9, page, next, nu, ⟨ok, os, oo, on⟩, how, root, ⟨ek, ep, es⟩, ts, ds⟩ ++ Rc.restB ⟨lsn, prev, txn, 9, page, next, nu, ⟨ok, os, oo, on⟩, how, root, ⟨ek, ep, es⟩, ts, ds⟩ from rfl)
  rw [Rc.restB_9 rfl] at HBB
  have HT := Lib.hid hT
  have HD := Lib.hid hD
  clear hT hD
  generalize Rc.bodyB ⟨lsn, prev, txn, 9, page, next, nu, ⟨ok, os, oo, on⟩, how, root, ⟨ek, ep, es⟩, ts, ds⟩ = bb at HBB ⊢
  go_enter Tryz.func104, Tryz.ntmps104
  go_upto_region 3 with ((go_at_call 112; (with_reducible refine (HOF.out _).mono ?_); rintro e w1 ⟨rfl, hb1⟩))
  have H0 := Lib.hid (wr_new (R := #[.int .i64 lsn, .int .i64 prev, .int .i64 txn, .int .i64 9, .int .i64 page, .int .i64 next, .int .i64 nu, .int .i64 ok, .int .i64 os, .string oo, .string on, .int .i64 how, .int .i64 root, .string ek, .int .i64 ep, .int .i64 es, .slice A ts.length c, .slice D ds.length d]) (F := #[.bool false, .bool false, .bool false, .bool true, .bool true]) hb1)
  obtain ⟨V, hV⟩ : ∃ V, V = (w1.alloc (.cells #[.bool false, .bool false, .bool false, .bool true, .bool true] 149)).alloc (.cells #[.pointer none, .slice none 0 0] 160) := ⟨_, rfl⟩
  rw [← hV] at H0 ⊢
  clear hV
  have hR0 := blkCell H0.out.br
  have hF0 := blkCell H0.out.bf
  clear hb1 HOF
  go_upto_region 4 with ((go_at_call 122; refine (H0.out.put1 1 (by omega) 9 (by simp only [List.length_nil]; omega)).mono ?_; rintro e v1 ⟨rfl, hx⟩; have H1 := Lib.hid hx; clear hx; have hR1 := blkCell H1.out.br; have hF1 := blkCell H1.out.bf))
  clear hR0 hF0 H0
  go_upto_region 19 with ((go_at_call 122; refine (H1.out.put3 6 (by omega) lsn prev txn (by simp only [List.length_append, p_size, List.length_nil]; omega)).mono ?_; rintro e v2 ⟨rfl, hx⟩; have H2 := Lib.hid hx; clear hx; have hR2 := blkCell H2.out.br; have hF2 := blkCell H2.out.bf))
  clear hR1 hF1 H1
  have HLS := Lib.hid (lists_any _ _ lsn prev txn 9 page next nu ok os how root ep es oo on ek ts ds A D c d v2 H2.out.wr (fun v hk => HT.out.below (H2.out.old hk)) (fun v hk => HD.out.below (H2.out.old hk)) (by simp only [List.length_append, p_size, List.length_nil]; omega) ht hd)
  go_upto_region 20 with (first
    | (with_reducible refine listLoad (by kernel_rfl) 85 (.tmp 1) rfl w.heap.size rfl #[.int .i64 lsn, .int .i64 prev, .int .i64 txn, .int .i64 9, .int .i64 page, .int .i64 next, .int .i64 nu, .int .i64 ok, .int .i64 os, .string oo, .string on, .int .i64 how, .int .i64 root, .string ek, .int .i64 ep, .int .i64 es, .slice A ts.length c, .slice D ds.length d] _ H2.out.br _ Tryz.underlying85 (by kernel_rfl) (by kernel_rfl) ?_)
    | (go_at_call 124; (with_reducible refine HLS.out.mono ?_); rintro e v3 ⟨rfl, hw, hk⟩; have H3 := Lib.hid (H2.out.turn hw hk); clear hw hk))
  clear hR2 hF2 H2 HLS
  go_wp2_with ((go_at_call 74; refine (H3.out.done (by intro h; have := congrArg List.length h; simp only [List.length_append, p_size, List.length_nil] at this; omega)).mono ?_; rintro e w9 ⟨rfl, hb9⟩))
  go_ret
  refine ⟨?_, hb9⟩
  rw [HBB.out]
  simp [Rc.headB, Rc.listsB, List.append_assoc]
theorem body_any (x : Rc.Rec) (hx : Rc.Right x) (A D : Option Addr) (c d : Nat) (w : World) (hr : RecR w x A c D d) :
    Calls Tryz.prog 104 #[recV x (.slice A x.txns.length c) (.slice D x.dirty.length d)] w fun e w' => e = .returned (.string ⟨(Rc.bodyB x).toArray⟩) ∧ Below w.heap.size w w' := by
  obtain ⟨z1, z2, z3, z4, z5, k1, k9⟩ := Rc.right_sizes hx
  obtain ⟨lsn, prev, txn, kind, page, next, nu, ⟨ok, os, oo, on⟩, how, root, ⟨ek, ep, es⟩, ts, ds⟩ := x
  simp only at z1 z2 z3 z4 z5 k1 k9
  have h9 : kind = 2 ∨ kind = 3 ∨ kind = 4 ∨ kind = 8 ∨ kind = 9 ∨ kind = 1 ∨ kind = 5 ∨ kind = 6 ∨ kind = 7 := by omega
  rcases h9 with rfl | rfl | rfl | rfl | rfl | h9
  · exact body_change lsn prev txn page next nu ok os how root ep es oo on ek ts ds _ _ z1 z2 z3 w
  · exact body_clr lsn prev txn page next nu ok os how root ep es oo on ek ts ds _ _ z1 z2 z3 w
  · exact body_nest lsn prev txn page next nu ok os how root ep es oo on ek ts ds _ _ z1 z2 z3 w
  · exact body_image lsn prev txn page next nu ok os how root ep es oo on ek ts ds _ _ z1 z2 z3 w
  · exact body_check lsn prev txn page next nu ok os how root ep es oo on ek ts ds A D c d z4 z5 w hr.txns hr.dirty
  · exact body_bare kind h9 lsn prev txn page next nu ok os how root ep es oo on ek ts ds _ _ z1 z2 z3 w
end Go.Proofs.YthfglhafphfhiaaGreat
/- The walk over package rec: Get. -/
namespace Lg
end Lg
namespace Go.Proofs.YthfglhafphfhiaaGreat
open Go.RowKit
/-! walk -/
end Go.Proofs.YthfglhafphfhiaaGreat
/- The walks over package log: sectors. -/
namespace Lg
/-- What has been read of some sectors. -/
structure Acc (d : Dk) (f : Int) (N k : Nat) (l : List UInt8) : Prop where
  le : k ≤ N
  eq : secsD d f N = match secsD d (f + (k : Int)) (N - k) with
    | .ok r => .ok (l ++ r)
    | .error e => .error e
theorem Acc.zero (d : Dk) (f : Int) (N : Nat) : Acc d f N 0 [] := ⟨Nat.zero_le _, by
  simp only [Nat.sub_zero, List.nil_append]
  rw [show f + ((0 : Nat) : Int) = f by omega]
  cases secsD d f N <;> rfl⟩
theorem Acc.next {d : Dk} {f : Int} {N k : Nat} {l : List UInt8} (h : Acc d f N k l) (hk : k < N) (h0 : (readD d (f + (k : Int))).2 = 0) : Acc d f N (k + 1) (l ++ (readD d (f + (k : Int))).1.data.toList) := by
  refine ⟨hk, ?_⟩
  rw [h.eq, show N - k = (N - (k + 1)) + 1 by omega]
  rw [show f + ((k + 1 : Nat) : Int) = f + (k : Int) + 1 by omega]
  conv => lhs; unfold secsD
  rw [if_pos h0]
  cases secsD d (f + (k : Int) + 1) (N - (k + 1)) with
  | ok r => simp only [List.append_assoc]
  | error e => rfl
theorem Acc.fault {d : Dk} {f : Int} {N k : Nat} {l : List UInt8} (h : Acc d f N k l) (hk : k < N) (h0 : (readD d (f + (k : Int))).2 ≠ 0) : secsD d f N = .error (readD d (f + (k : Int))).2 := by
  rw [h.eq, show N - k = (N - (k + 1)) + 1 by omega]
  conv => lhs; unfold secsD
  rw [if_neg h0]
theorem Acc.done {d : Dk} {f : Int} {N : Nat} {l : List UInt8} (h : Acc d f N N l) : secsD d f N = .ok l := by
  rw [h.eq, Nat.sub_self]
  unfold secsD
  simp
end Lg
namespace Go.Proofs.YthfglhafphfhiaaGreat
open Go.RowKit
end Go.Proofs.YthfglhafphfhiaaGreat
/- The walk over package rec: Put. -/
namespace Go.Proofs.YthfglhafphfhiaaGreat
open Go.RowKit
theorem putW (n : Nat) (h : n < 18446744073709551616) (size : Nat) (h8 : size ≤ 8) : (Oct.putB (n : Int) size).data.toList = Oct.putL n size := by
  rw [Oct.putB_list _ _ h8]
  congr 1
  unfold Oct.word
  omega
set_option maxRecDepth 100000 in
theorem seal_any (s : ByteArray) (hs : s.size ≤ 1000000) (w : World) :
    Calls Tryz.prog 65 #[.string s] w fun e w' => ∃ x : ByteArray, e = .returned (.string x) ∧ x.data.toList = Oct.putL (Oct.sumN s.data.toList) 4 ++ s.data.toList ∧ Below w.heap.size w w' := by
  have HS := Lib.hid (fun W => sum_any s (by omega) W)
  have hlt : Oct.sumN s.data.toList < 18446744073709551616 := by have := Oct.sumN_lt s.data.toList; omega
  have hfin0 : (Oct.putB ((Oct.sumN s.data.toList : Nat) : Int) 4).data.toList = Oct.putL (Oct.sumN s.data.toList) 4 := putW _ hlt 4 (by omega)
  generalize Oct.sumN s.data.toList = n at HS hfin0 ⊢
  have HP := Lib.hid (fun W => put_any (n : Int) 4 (by omega) (by omega) W)
  have hsz : (Oct.putB (n : Int) 4).size = 4 := Oct.putB_size _ 4 (by omega)
  have hsum : (Oct.putB (n : Int) 4).size + s.size ≤ 281474976710656 := by omega
  have hfin : (Oct.putB (n : Int) 4 ++ s).data.toList = Oct.putL n 4 ++ s.data.toList := by
    rw [ByteArray.data_append, Array.toList_append, hfin0]
  clear hlt hfin0
  generalize Oct.putB (n : Int) 4 = x at HP hsz hsum hfin
  go_enter Tryz.func65, Tryz.ntmps65
  go_wp2_with (first | (go_at_call 79; refine (HS.out _).mono ?_; rintro e w1 ⟨rfl, rfl⟩) | (go_at_call 66; refine (HP.out _).mono ?_; rintro e w2 ⟨rfl, hb2⟩))
  go_ret
  exact ⟨_, rfl, hfin, hb2⟩
/-- What Put answers. -/
def PutOut (r : Rc.Rec) (w : World) (e : Ending) (w' : World) : Prop :=
  (∃ x : ByteArray, Rc.Right r ∧ e = .returned (.tuple #[.string x, .int .i64 0]) ∧ x.data.toList = Lg.putR r ∨ ¬ Rc.Right r ∧ e = .returned (.tuple #[.string ⟨#[]⟩, .int .i64 1])) ∧ Below w.heap.size w w'
set_option maxRecDepth 100000 in
set_option maxHeartbeats 2000000 in
theorem recput_any (r : Rc.Rec) (A D : Option Addr) (c d : Nat) (w : World) (hr : RecR w r A c D d) :
    Calls Tryz.prog 90 #[recV r (.slice A r.txns.length c) (.slice D r.dirty.length d)] w (PutOut r w) := by
  have HR := Lib.hid (fun W (h : Below w.heap.size w W) => cright_rec r A D c d W (hr.below h))
  have HA := Lib.hid (heap_alloc_new w (.cells (recA r (.slice A r.txns.length c) (.slice D r.dirty.length d)) 85))
  cases hb : Rc.rightB r with
  | false =>
    rw [hb] at HR
    have hno : ¬ Rc.Right r := fun h => by rw [Rc.rightB_yes h] at hb; cases hb
    have HO := Lib.hid (fun w' (h : Below w.heap.size w w') => show PutOut r w (.returned (.tuple #[.string ⟨#[]⟩, .int .i64 1])) w' from ⟨⟨⟨#[]⟩, .inr ⟨hno, rfl⟩⟩, h⟩)
    clear hno hb hr
    generalize PutOut r w = Q at HO ⊢
    obtain ⟨lsn, prev, txn, kind, page, next, nu, ⟨ok, os, oo, on⟩, how, root, ⟨ek, ep, es⟩, ts, ds⟩ := r
    dsimp only [recV, recA] at HR HA ⊢
    go_enter Tryz.func90, Tryz.ntmps90
    go_wp2_with (first
      | (with_reducible refine listLoad (by kernel_rfl) 85 (.tmp 1) rfl w.heap.size rfl #[.int .i64 lsn, .int .i64 prev, .int .i64 txn, .int .i64 kind, .int .i64 page, .int .i64 next, .int .i64 nu, .int .i64 ok, .int .i64 os, .string oo, .string on, .int .i64 how, .int .i64 root, .string ek, .int .i64 ep, .int .i64 es, .slice A ts.length c, .slice D ds.length d] _ HA.out _ Tryz.underlying85 (by kernel_rfl) (by kernel_rfl) ?_)
      | (go_at_call 103; (with_reducible refine (HR.out _ (allocB _ _)).mono ?_); rintro e w1 ⟨rfl, hb1⟩))
    exact HO.out _ (joinB (allocB _ _) hb1)
  | true =>
    rw [hb] at HR
    have hx : Rc.Right r := Rc.rightB_iff.1 hb
    have HB := Lib.hid (fun W (h : Below w.heap.size w W) => body_any r hx A D c d W (hr.below h))
    obtain ⟨y, hy⟩ : ∃ y : ByteArray, y = ⟨(Rc.bodyB r).toArray⟩ := ⟨_, rfl⟩
    rw [← hy] at HB
    have hyl : y.data.toList = Rc.bodyB r := by rw [hy]
    have hlen := Rc.bodyB_len hx
    have hys : y.size = (Rc.bodyB r).length := by rw [← hyl]; simp
    have hsz : y.size ≤ 1000000 := by omega
    have HS := Lib.hid (fun W => seal_any y hsz W)
    have HP := Lib.hid (fun W => put_any (y.size : Int) 4 (by omega) (by omega) W)
    have hpl : (Oct.putB (y.size : Int) 4).data.toList = Oct.putL y.size 4 := putW _ (by omega) 4 (by omega)
    have hpz : (Oct.putB (y.size : Int) 4).size = 4 := Oct.putB_size _ 4 (by omega)
    generalize Oct.putB (y.size : Int) 4 = z at HP hpl hpz
    have HO := Lib.hid (fun w' (x : ByteArray) (hxx : x.data.toList = Oct.putL (Oct.sumN y.data.toList) 4 ++ y.data.toList) (h : Below w.heap.size w w') => show PutOut r w (.returned (.tuple #[.string (z ++ x), .int .i64 0])) w' from ⟨⟨z ++ x, .inl ⟨hx, rfl, by rw [ByteArray.data_append, Array.toList_append, hpl, hxx, hyl, hys]; rfl⟩⟩, h⟩)
    have HX := Lib.hid (fun (x : ByteArray) (hxx : x.data.toList = Oct.putL (Oct.sumN y.data.toList) 4 ++ y.data.toList) => show x.size ≤ 1000004 from by
      have e : x.size = x.data.toList.length := by simp
      rw [e, hxx, List.length_append, Oct.putL_length]
      have e2 : y.data.toList.length = y.size := by simp
      omega)
    clear hx hb hr hy hyl hlen hys hpl
    generalize PutOut r w = Q at HO ⊢
    obtain ⟨lsn, prev, txn, kind, page, next, nu, ⟨ok, os, oo, on⟩, how, root, ⟨ek, ep, es⟩, ts, ds⟩ := r
    dsimp only [recV, recA] at HR HA HB ⊢
    go_enter Tryz.func90, Tryz.ntmps90
    go_upto_region 3 with (first
      | (with_reducible refine listLoad (by kernel_rfl) 85 (.tmp 1) rfl w.heap.size rfl #[.int .i64 lsn, .int .i64 prev, .int .i64 txn, .int .i64 kind, .int .i64 page, .int .i64 next, .int .i64 nu, .int .i64 ok, .int .i64 os, .string oo, .string on, .int .i64 how, .int .i64 root, .string ek, .int .i64 ep, .int .i64 es, .slice A ts.length c, .slice D ds.length d] _ HA.out _ Tryz.underlying85 (by kernel_rfl) (by kernel_rfl) ?_)
      | (go_at_call 103; (with_reducible refine (HR.out _ (allocB _ _)).mono ?_); rintro e w1 ⟨rfl, hb1⟩))
    have HA1 := Lib.hid (blkOld HA.out hb1)
    have HB1 := Lib.hid (joinB (allocB w _) hb1)
    clear hb1 HA HR
    go_upto_region 4 with (first
      | (with_reducible refine listLoad (by kernel_rfl) 85 (.tmp 1) rfl w.heap.size rfl #[.int .i64 lsn, .int .i64 prev, .int .i64 txn, .int .i64 kind, .int .i64 page, .int .i64 next, .int .i64 nu, .int .i64 ok, .int .i64 os, .string oo, .string on, .int .i64 how, .int .i64 root, .string ek, .int .i64 ep, .int .i64 es, .slice A ts.length c, .slice D ds.length d] _ HA1.out _ Tryz.underlying85 (by kernel_rfl) (by kernel_rfl) ?_)
      | (go_at_call 104; (with_reducible refine (HB.out _ HB1.out).mono ?_); rintro e w2 ⟨rfl, hb2⟩))
    have HB2 := Lib.hid (joinB HB1.out hb2)
    clear hb2 HB1 HA1 HB
    go_wp2_with (first | (go_at_call 66; refine (HP.out _).mono ?_; rintro e w3 ⟨rfl, hb3⟩) | (go_at_call 65; refine (HS.out _).mono ?_; rintro e w4 ⟨x, rfl, hxx, hb4⟩; have hxs := HX.out x hxx; have hsum : z.size + x.size ≤ 281474976710656 := (by omega)))
    exact HO.out _ x hxx (joinB (joinB HB2.out hb3) hb4)
end Go.Proofs.YthfglhafphfhiaaGreat
/- The walk over package log: Append. -/
namespace Lg
theorem append_wrong {l : Lo} {r : Rc.Rec} (h : ¬ Rc.Right { r with lsn := l.end_ + 1 }) : appendD l r = (l, 0, 1) := by
  unfold appendD
  simp only
  rw [if_pos h]
theorem append_full {l : Lo} {r : Rc.Rec} (h : Rc.Right { r with lsn := l.end_ + 1 }) (h2 : l.n * 128 - ((putR { r with lsn := l.end_ + 1 }).length : Int) < l.end_) : appendD l r = (l, 0, 18) := by
  unfold appendD
  simp only
  rw [if_neg (fun hn => hn h), if_pos h2]
theorem append_ok {l : Lo} {r : Rc.Rec} (h : Rc.Right { r with lsn := l.end_ + 1 }) (h2 : ¬ l.n * 128 - ((putR { r with lsn := l.end_ + 1 }).length : Int) < l.end_) : appendD l r = ({ l with end_ := l.end_ + ((putR { r with lsn := l.end_ + 1 }).length : Int), tail := l.tail ++ ⟨(putR { r with lsn := l.end_ + 1 }).toArray⟩ }, l.end_ + 1, 0) := by
  unfold appendD
  simp only
  rw [if_neg (fun hn => hn h), if_neg h2]
end Lg
namespace Go.Proofs.YthfglhafphfhiaaGreat
open Go.RowKit
theorem recput_yes (r : Rc.Rec) (hR : Rc.Right r) (A D : Option Addr) (c d : Nat) (w : World) (hr : RecR w r A c D d) :
    Calls Tryz.prog 90 #[recV r (.slice A r.txns.length c) (.slice D r.dirty.length d)] w fun e w' => e = .returned (.tuple #[.string ⟨(Lg.putR r).toArray⟩, .int .i64 0]) ∧ Below w.heap.size w w' := by
  refine (recput_any r A D c d w hr).mono ?_
  rintro e w' ⟨⟨x, h⟩, hb⟩
  rcases h with ⟨_, rfl, hx⟩ | ⟨h, _⟩
  · exact ⟨by rw [← hx], hb⟩
  · exact absurd hR h
theorem recput_no (r : Rc.Rec) (hR : ¬ Rc.Right r) (A D : Option Addr) (c d : Nat) (w : World) (hr : RecR w r A c D d) :
    Calls Tryz.prog 90 #[recV r (.slice A r.txns.length c) (.slice D r.dirty.length d)] w fun e w' => e = .returned (.tuple #[.string ⟨#[]⟩, .int .i64 1]) ∧ Below w.heap.size w w' := by
  refine (recput_any r A D c d w hr).mono ?_
  rintro e w' ⟨⟨x, h⟩, hb⟩
  rcases h with ⟨h, _⟩ | ⟨_, rfl⟩
  · exact absurd h hR
  · exact ⟨rfl, hb⟩
/-- What Append answers. -/
def AppOut (x : Lg.Lo × Int × Int) (w : World) (e : Ending) (w' : World) : Prop := e = .returned (.tuple #[logV x.1, .int .i64 x.2.1, .int .i64 x.2.2]) ∧ Below w.heap.size w w'
set_option maxRecDepth 100000 in
set_option maxHeartbeats 4000000 in
theorem append_any (l : Lg.Lo) (he0 : 0 ≤ l.end_) (he1 : l.end_ ≤ 1000000000) (hn0 : -1000000000 ≤ l.n) (hn1 : l.n ≤ 1000000000) (ht : l.tail.size ≤ 1000000000) (r : Rc.Rec) (A D : Option Addr) (c d : Nat) (w : World) (hr : RecR w r A c D d) :
    Calls Tryz.prog 63 #[logV l, recV r (.slice A r.txns.length c) (.slice D r.dirty.length d)] w (AppOut (Lg.appendD l r) w) := by
  have HPY := Lib.hid (fun hR W (hb : Below w.heap.size w W) => recput_yes { r with lsn := l.end_ + 1 } hR A D c d W ⟨hr.txns.below hb, hr.dirty.below hb, hr.small⟩)
  have HPN := Lib.hid (fun hR W (hb : Below w.heap.size w W) => recput_no { r with lsn := l.end_ + 1 } hR A D c d W ⟨hr.txns.below hb, hr.dirty.below hb, hr.small⟩)
  have HN := Lib.hid (@Lg.append_wrong l r)
  have HFU := Lib.hid (@Lg.append_full l r)
  have HOK := Lib.hid (@Lg.append_ok l r)
  generalize Lg.appendD l r = o at HN HFU HOK ⊢
  clear hr
  obtain ⟨fr, n, en, sf, tl⟩ := l
  obtain ⟨lsn, prev, txn, kind, page, next, nu, ⟨ok, os, oo, on⟩, how, root, ⟨ek, ep, es⟩, ts, ds⟩ := r
  dsimp only [recV, recA, logV] at HPY HPN HN HFU HOK he0 he1 hn0 hn1 ht ⊢
  have hw1 : IntKind.i64.wrap (en + 1) = en + 1 := IntWalk.i64_in _ (by omega)
  by_cases hR : Rc.Right ⟨en + 1, prev, txn, kind, page, next, nu, ⟨ok, os, oo, on⟩, how, root, ⟨ek, ep, es⟩, ts, ds⟩
  · have HP := Lib.hid (HPY.out hR)
    have HFU2 := Lib.hid (HFU.out hR)
    have HOK2 := Lib.hid (HOK.out hR)
    have hpl0 : (Lg.putR ⟨en + 1, prev, txn, kind, page, next, nu, ⟨ok, os, oo, on⟩, how, root, ⟨ek, ep, es⟩, ts, ds⟩).length ≤ 40008 := by rw [Lg.putR_len]; have := (Rc.bodyB_len hR).2; omega
    obtain ⟨x, hx⟩ : ∃ x : ByteArray, x = ⟨(Lg.putR ⟨en + 1, prev, txn, kind, page, next, nu, ⟨ok, os, oo, on⟩, how, root, ⟨ek, ep, es⟩, ts, ds⟩).toArray⟩ := ⟨_, rfl⟩
    have hxs : (Lg.putR ⟨en + 1, prev, txn, kind, page, next, nu, ⟨ok, os, oo, on⟩, how, root, ⟨ek, ep, es⟩, ts, ds⟩).length = x.size := by rw [hx]; show _ = ((Lg.putR ⟨en + 1, prev, txn, kind, page, next, nu, ⟨ok, os, oo, on⟩, how, root, ⟨ek, ep, es⟩, ts, ds⟩).toArray).size; simp
    rw [hxs] at HFU2 HOK2 hpl0
    rw [← hx] at HP HOK2
    have hpl := hpl0
    clear HPY HPN HN HFU HOK hR hx hxs hpl0
    go_enter Tryz.func63, Tryz.ntmps63
    go_upto_region 1 with fail
    have H0 := Lib.hid (show BxL w.heap.size w [(#[.int .i64 fr, .int .i64 n, .int .i64 en, .int .i64 sf, .string tl], 31), (#[.int .i64 lsn, .int .i64 prev, .int .i64 txn, .int .i64 kind, .int .i64 page, .int .i64 next, .int .i64 nu, .int .i64 ok, .int .i64 os, .string oo, .string on, .int .i64 how, .int .i64 root, .string ek, .int .i64 ep, .int .i64 es, .slice A ts.length c, .slice D ds.length d], 85), (#[.int .i64 0, .int .i64 0, .int .i64 0, .int .i64 0, .string ⟨#[]⟩], 31)] (((w.alloc (.cells #[.int .i64 fr, .int .i64 n, .int .i64 en, .int .i64 sf, .string tl] 31)).alloc (.cells #[.int .i64 lsn, .int .i64 prev, .int .i64 txn, .int .i64 kind, .int .i64 page, .int .i64 next, .int .i64 nu, .int .i64 ok, .int .i64 os, .string oo, .string on, .int .i64 how, .int .i64 root, .string ek, .int .i64 ep, .int .i64 es, .slice A ts.length c, .slice D ds.length d] 85)).alloc (.cells #[.int .i64 0, .int .i64 0, .int .i64 0, .int .i64 0, .string ⟨#[]⟩] 31)) from (((BxL.nil (Below.refl w.heap.size w)).new (by simp) #[.int .i64 fr, .int .i64 n, .int .i64 en, .int .i64 sf, .string tl] 31).new (by simp) #[.int .i64 lsn, .int .i64 prev, .int .i64 txn, .int .i64 kind, .int .i64 page, .int .i64 next, .int .i64 nu, .int .i64 ok, .int .i64 os, .string oo, .string on, .int .i64 how, .int .i64 root, .string ek, .int .i64 ep, .int .i64 es, .slice A ts.length c, .slice D ds.length d] 85).new (by simp) #[.int .i64 0, .int .i64 0, .int .i64 0, .int .i64 0, .string ⟨#[]⟩] 31)
    obtain ⟨W0, hW0⟩ : ∃ W, W = (((w.alloc (.cells #[.int .i64 fr, .int .i64 n, .int .i64 en, .int .i64 sf, .string tl] 31)).alloc (.cells #[.int .i64 lsn, .int .i64 prev, .int .i64 txn, .int .i64 kind, .int .i64 page, .int .i64 next, .int .i64 nu, .int .i64 ok, .int .i64 os, .string oo, .string on, .int .i64 how, .int .i64 root, .string ek, .int .i64 ep, .int .i64 es, .slice A ts.length c, .slice D ds.length d] 85)).alloc (.cells #[.int .i64 0, .int .i64 0, .int .i64 0, .int .i64 0, .string ⟨#[]⟩] 31)) := ⟨_, rfl⟩
    have hs0 : W0.heap.size = w.heap.size + 3 := by rw [hW0]; simp
    rw [← hW0] at H0 ⊢
    have hc0 := blkCell (H0.out.get 0 _ rfl)
    have hc1 := blkCell (H0.out.get 1 _ rfl)
    have hz1 := blkFrozen (H0.out.get 1 _ rfl)
    simp only [Nat.add_zero] at hc0
    clear hW0
    go_upto_region 2 with fail
    have H1 := Lib.hid (show BxL w.heap.size w [(#[.int .i64 fr, .int .i64 n, .int .i64 en, .int .i64 sf, .string tl], 31), (#[.int .i64 (en + 1), .int .i64 prev, .int .i64 txn, .int .i64 kind, .int .i64 page, .int .i64 next, .int .i64 nu, .int .i64 ok, .int .i64 os, .string oo, .string on, .int .i64 how, .int .i64 root, .string ek, .int .i64 ep, .int .i64 es, .slice A ts.length c, .slice D ds.length d], 85), (#[.int .i64 0, .int .i64 0, .int .i64 0, .int .i64 0, .string ⟨#[]⟩], 31)] (W0.setCell ⟨w.heap.size + 1, 0, none⟩ (.int .i64 (en + 1))) from by have h := H0.out.set 1 0 (.int .i64 (en + 1)) _ rfl; simpa using h)
    obtain ⟨W1, hW1⟩ : ∃ W, W = W0.setCell ⟨w.heap.size + 1, 0, none⟩ (.int .i64 (en + 1)) := ⟨_, rfl⟩
    rw [← hW1] at H1 ⊢
    clear hW1 hc0 hc1 hz1 H0 hs0
    have HX1 := Lib.hid (H1.out.get 1 _ rfl)
    go_upto_region 3 with (first
      | (with_reducible refine listLoad (by kernel_rfl) 85 (.tmp 3) rfl (w.heap.size + 1) rfl #[.int .i64 (en + 1), .int .i64 prev, .int .i64 txn, .int .i64 kind, .int .i64 page, .int .i64 next, .int .i64 nu, .int .i64 ok, .int .i64 os, .string oo, .string on, .int .i64 how, .int .i64 root, .string ek, .int .i64 ep, .int .i64 es, .slice A ts.length c, .slice D ds.length d] _ HX1.out _ Tryz.underlying85 (by kernel_rfl) (by kernel_rfl) ?_)
      | (go_at_call 90; (with_reducible refine (HP.out _ H1.out.below).mono ?_); rintro e w2 ⟨rfl, hb2⟩))
    have H2 := Lib.hid (H1.out.step hb2)
    clear hb2 H1 HX1 HP
    have hm : IntKind.i64.wrap (n * 128) = n * 128 := IntWalk.i64_in _ (by omega)
    have hm2 : IntKind.i64.wrap (n * 128 - (x.size : Int)) = n * 128 - (x.size : Int) := IntWalk.i64_in _ (by omega)
    have hm3 : IntKind.i64.wrap (en + (x.size : Int)) = en + (x.size : Int) := IntWalk.i64_in _ (by omega)
    by_cases hfull : n * 128 - (x.size : Int) < en
    · have HO := Lib.hid (HFU2.out hfull)
      have HX2 := Lib.hid (show w2.heap[w.heap.size]? = some (.cells #[.int .i64 fr, .int .i64 n, .int .i64 en, .int .i64 sf, .string tl] 31 (0, 0)) from by have h := H2.out.get 0 _ rfl; simpa using h)
      have hc2 := blkCell HX2.out
      clear HFU2 HOK2
      go_wp2_with (first
        | (with_reducible refine listLoad (by kernel_rfl) 31 (.tmp 2) rfl w.heap.size rfl #[.int .i64 fr, .int .i64 n, .int .i64 en, .int .i64 sf, .string tl] _ HX2.out _ Tryz.underlying31 (by kernel_rfl) (by kernel_rfl) ?_)
        | (with_reducible refine listStore (by kernel_rfl) 31 (.tmp 4) (.tmp 31) rfl (w.heap.size + 2) #[.int .i64 fr, .int .i64 n, .int .i64 en, .int .i64 sf, .string tl] _ _ rfl rfl (H2.out.get 2 _ rfl) (by kernel_rfl) (by kernel_rfl) (by kernel_rfl) ?_))
      refine bodyPost_ret (v := .tuple #[.agg #[.int .i64 fr, .int .i64 n, .int .i64 en, .int .i64 sf, .string tl], .int .i64 0, .int .i64 18]) (results_cell3 rfl _ _ rfl (load_whole (setRow_heap _ _ _ _ _ _ (H2.out.get 2 _ rfl)) Tryz.underlying31 (by kernel_rfl) (by kernel_rfl)) rfl rfl) rfl ?_
      rw [HO.out]
      exact ⟨rfl, (H2.out.row 2 _ _ rfl).below⟩
    · have HO := Lib.hid (HOK2.out (by omega))
      have hadd : ∀ W : World, (Op.stringOp .add tl x).run Tryz.prog W = .ok (.string (tl ++ x)) W := fun W => run_string_add_sum W _ _ (by omega)
      have HX2 := Lib.hid (show w2.heap[w.heap.size]? = some (.cells #[.int .i64 fr, .int .i64 n, .int .i64 en, .int .i64 sf, .string tl] 31 (0, 0)) from by have h := H2.out.get 0 _ rfl; simpa using h)
      have hc2 := blkCell HX2.out
      have hz2 := blkFrozen HX2.out
      clear HFU2 HOK2
      go_upto_region 8 with fail
      have H3 := Lib.hid (show BxL w.heap.size w [(#[.int .i64 fr, .int .i64 n, .int .i64 (en + (x.size : Int)), .int .i64 sf, .string tl], 31), (#[.int .i64 (en + 1), .int .i64 prev, .int .i64 txn, .int .i64 kind, .int .i64 page, .int .i64 next, .int .i64 nu, .int .i64 ok, .int .i64 os, .string oo, .string on, .int .i64 how, .int .i64 root, .string ek, .int .i64 ep, .int .i64 es, .slice A ts.length c, .slice D ds.length d], 85), (#[.int .i64 0, .int .i64 0, .int .i64 0, .int .i64 0, .string ⟨#[]⟩], 31)] (w2.setCell ⟨w.heap.size, 2, none⟩ (.int .i64 (en + (x.size : Int)))) from by have h := H2.out.set 0 2 (.int .i64 (en + (x.size : Int))) _ rfl; simpa using h)
      obtain ⟨W3, hW3⟩ : ∃ W, W = w2.setCell ⟨w.heap.size, 2, none⟩ (.int .i64 (en + (x.size : Int))) := ⟨_, rfl⟩
      rw [← hW3] at H3 ⊢
      clear hW3 hc2 hz2 HX2 H2
      have hc3 := blkCell (H3.out.get 0 _ rfl)
      have hz3 := blkFrozen (H3.out.get 0 _ rfl)
      simp only [Nat.add_zero] at hc3 hz3
      go_upto_region 9 with fail
      have H4 := Lib.hid (show BxL w.heap.size w [(#[.int .i64 fr, .int .i64 n, .int .i64 (en + (x.size : Int)), .int .i64 sf, .string (tl ++ x)], 31), (#[.int .i64 (en + 1), .int .i64 prev, .int .i64 txn, .int .i64 kind, .int .i64 page, .int .i64 next, .int .i64 nu, .int .i64 ok, .int .i64 os, .string oo, .string on, .int .i64 how, .int .i64 root, .string ek, .int .i64 ep, .int .i64 es, .slice A ts.length c, .slice D ds.length d], 85), (#[.int .i64 0, .int .i64 0, .int .i64 0, .int .i64 0, .string ⟨#[]⟩], 31)] (W3.setCell ⟨w.heap.size, 4, none⟩ (.string (tl ++ x))) from by have h := H3.out.set 0 4 (.string (tl ++ x)) _ rfl; simpa using h)
      obtain ⟨W4, hW4⟩ : ∃ W, W = W3.setCell ⟨w.heap.size, 4, none⟩ (.string (tl ++ x)) := ⟨_, rfl⟩
      rw [← hW4] at H4 ⊢
      clear hW4 hc3 hz3 H3 hadd
      have HD4 := Lib.hid H4.out.drew
      refine wp_region_held_drew (S := (fun u => u.heap[w.heap.size]? = some (.cells #[.int .i64 fr, .int .i64 n, .int .i64 (en + (x.size : Int)), .int .i64 sf, .string (tl ++ x)] 31 (0, 0)) ∧ u.heap[w.heap.size + 1]? = some (.cells #[.int .i64 (en + 1), .int .i64 prev, .int .i64 txn, .int .i64 kind, .int .i64 page, .int .i64 next, .int .i64 nu, .int .i64 ok, .int .i64 os, .string oo, .string on, .int .i64 how, .int .i64 root, .string ek, .int .i64 ep, .int .i64 es, .slice A ts.length c, .slice D ds.length d] 85 (0, 0)))) (by kernel_rfl) ?_ (fun hHeld => ?_)
      · first | exact hSn | exact ⟨(by have h := HD4.out.get 0 _ rfl; simpa using h), HD4.out.get 1 _ rfl⟩
      refine tkW 0 (some 43) (v := ?_) rfl ?_ ?_
      rotate_left
      · intro u hSu; have hSa := blkCell hSu.1; have hSb := blkCell hSu.2; clear hSu; go_simp; (try with_reducible rfl)
      try simp only [Act.put, List.setIfInBounds_toArray, List.set_cons_zero, List.set_cons_succ]
      refine tkW 1 (some 44) (v := ?_) rfl ?_ ?_
      rotate_left
      · intro u hSu; have hSa := blkCell hSu.1; have hSb := blkCell hSu.2; clear hSu; go_simp; (try with_reducible rfl)
      try simp only [Act.put, List.setIfInBounds_toArray, List.set_cons_zero, List.set_cons_succ]
      refine tkW 2 (some 45) (v := ?_) rfl ?_ ?_
      rotate_left
      · intro u hSu; have hSa := blkCell hSu.1; have hSb := blkCell hSu.2; clear hSu; go_simp; (try with_reducible rfl)
      try simp only [Act.put, List.setIfInBounds_toArray, List.set_cons_zero, List.set_cons_succ]
      refine rdH 3 none rfl (fun K hK => ?_)
      refine wantedIf (by rfl) ?_
      refine wp_store_whole 31 (.tmp 4) (.tmp 43) rfl (w.heap.size + 2) #[.int .i64 fr, .int .i64 n, .int .i64 (en + (x.size : Int)), .int .i64 sf, .string (tl ++ x)] _ _ rfl rfl (HD4.out.get 2 _ rfl) (by kernel_rfl) (by kernel_rfl) (by kernel_rfl) ?_
      have hB5 := HD4.out.row 2 #[.int .i64 fr, .int .i64 n, .int .i64 (en + (x.size : Int)), .int .i64 sf, .string (tl ++ x)] _ rfl
      have hSn := And.intro (show _ = some (Obj.cells #[.int .i64 fr, .int .i64 n, .int .i64 (en + (x.size : Int)), .int .i64 sf, .string (tl ++ x)] 31 (0, 0)) from by have h := hB5.get 0 _ rfl; simpa using h) (hB5.get 1 _ rfl)
      refine hK.out _ _ ?_ (fun hHeld => ?_)
      · first | exact hSn | exact ⟨(by have h := HD4.out.get 0 _ rfl; simpa using h), HD4.out.get 1 _ rfl⟩
      clear hK K
      try simp only [Act.put]
      refine tkW 4 (some 5) (v := ?_) rfl ?_ ?_
      rotate_left
      · intro u hSu; have hSa := blkCell hSu.1; have hSb := blkCell hSu.2; clear hSu; go_simp; (try with_reducible rfl)
      try simp only [Act.put, List.setIfInBounds_toArray, List.set_cons_zero, List.set_cons_succ]
      refine tkW 5 (some 6) (v := ?_) rfl ?_ ?_
      rotate_left
      · intro u hSu; have hSa := blkCell hSu.1; have hSb := blkCell hSu.2; clear hSu; go_simp; (try with_reducible rfl)
      try simp only [Act.put, List.setIfInBounds_toArray, List.set_cons_zero, List.set_cons_succ]
      refine wpAnyH_done (by kernel_rfl) ?_ _
      clear hHeld
      go_wp2_with fail
      refine bodyPost_ret (v := .tuple #[.agg #[.int .i64 fr, .int .i64 n, .int .i64 (en + (x.size : Int)), .int .i64 sf, .string (tl ++ x)], .int .i64 (en + 1), .int .i64 0]) (results_cell3 rfl _ _ rfl (load_whole (setRow_heap _ _ _ _ _ _ (HD4.out.get 2 _ rfl)) Tryz.underlying31 (by kernel_rfl) (by kernel_rfl)) rfl rfl) rfl ?_
      rw [HO.out]
      exact ⟨rfl, hB5.below⟩
  · have HO := Lib.hid (HN.out hR)
    have HP := Lib.hid (HPN.out hR)
    clear HPY HPN HN HFU HOK hR
    go_enter Tryz.func63, Tryz.ntmps63
    go_upto_region 1 with fail
    have H0 := Lib.hid (show BxL w.heap.size w [(#[.int .i64 fr, .int .i64 n, .int .i64 en, .int .i64 sf, .string tl], 31), (#[.int .i64 lsn, .int .i64 prev, .int .i64 txn, .int .i64 kind, .int .i64 page, .int .i64 next, .int .i64 nu, .int .i64 ok, .int .i64 os, .string oo, .string on, .int .i64 how, .int .i64 root, .string ek, .int .i64 ep, .int .i64 es, .slice A ts.length c, .slice D ds.length d], 85), (#[.int .i64 0, .int .i64 0, .int .i64 0, .int .i64 0, .string ⟨#[]⟩], 31)] (((w.alloc (.cells #[.int .i64 fr, .int .i64 n, .int .i64 en, .int .i64 sf, .string tl] 31)).alloc (.cells #[.int .i64 lsn, .int .i64 prev, .int .i64 txn, .int .i64 kind, .int .i64 page, .int .i64 next, .int .i64 nu, .int .i64 ok, .int .i64 os, .string oo, .string on, .int .i64 how, .int .i64 root, .string ek, .int .i64 ep, .int .i64 es, .slice A ts.length c, .slice D ds.length d] 85)).alloc (.cells #[.int .i64 0, .int .i64 0, .int .i64 0, .int .i64 0, .string ⟨#[]⟩] 31)) from (((BxL.nil (Below.refl w.heap.size w)).new (by simp) #[.int .i64 fr, .int .i64 n, .int .i64 en, .int .i64 sf, .string tl] 31).new (by simp) #[.int .i64 lsn, .int .i64 prev, .int .i64 txn, .int .i64 kind, .int .i64 page, .int .i64 next, .int .i64 nu, .int .i64 ok, .int .i64 os, .string oo, .string on, .int .i64 how, .int .i64 root, .string ek, .int .i64 ep, .int .i64 es, .slice A ts.length c, .slice D ds.length d] 85).new (by simp) #[.int .i64 0, .int .i64 0, .int .i64 0, .int .i64 0, .string ⟨#[]⟩] 31)
    obtain ⟨W0, hW0⟩ : ∃ W, W = (((w.alloc (.cells #[.int .i64 fr, .int .i64 n, .int .i64 en, .int .i64 sf, .string tl] 31)).alloc (.cells #[.int .i64 lsn, .int .i64 prev, .int .i64 txn, .int .i64 kind, .int .i64 page, .int .i64 next, .int .i64 nu, .int .i64 ok, .int .i64 os, .string oo, .string on, .int .i64 how, .int .i64 root, .string ek, .int .i64 ep, .int .i64 es, .slice A ts.length c, .slice D ds.length d] 85)).alloc (.cells #[.int .i64 0, .int .i64 0, .int .i64 0, .int .i64 0, .string ⟨#[]⟩] 31)) := ⟨_, rfl⟩
    have hs0 : W0.heap.size = w.heap.size + 3 := by rw [hW0]; simp
    rw [← hW0] at H0 ⊢
    have hc0 := blkCell (H0.out.get 0 _ rfl)
    have hc1 := blkCell (H0.out.get 1 _ rfl)
    have hz1 := blkFrozen (H0.out.get 1 _ rfl)
    simp only [Nat.add_zero] at hc0
    clear hW0
    go_upto_region 2 with fail
    have H1 := Lib.hid (show BxL w.heap.size w [(#[.int .i64 fr, .int .i64 n, .int .i64 en, .int .i64 sf, .string tl], 31), (#[.int .i64 (en + 1), .int .i64 prev, .int .i64 txn, .int .i64 kind, .int .i64 page, .int .i64 next, .int .i64 nu, .int .i64 ok, .int .i64 os, .string oo, .string on, .int .i64 how, .int .i64 root, .string ek, .int .i64 ep, .int .i64 es, .slice A ts.length c, .slice D ds.length d], 85), (#[.int .i64 0, .int .i64 0, .int .i64 0, .int .i64 0, .string ⟨#[]⟩], 31)] (W0.setCell ⟨w.heap.size + 1, 0, none⟩ (.int .i64 (en + 1))) from by have h := H0.out.set 1 0 (.int .i64 (en + 1)) _ rfl; simpa using h)
    obtain ⟨W1, hW1⟩ : ∃ W, W = W0.setCell ⟨w.heap.size + 1, 0, none⟩ (.int .i64 (en + 1)) := ⟨_, rfl⟩
    rw [← hW1] at H1 ⊢
    clear hW1 hc0 hc1 hz1 H0 hs0
    have HX1 := Lib.hid (H1.out.get 1 _ rfl)
    go_upto_region 3 with (first
      | (with_reducible refine listLoad (by kernel_rfl) 85 (.tmp 3) rfl (w.heap.size + 1) rfl #[.int .i64 (en + 1), .int .i64 prev, .int .i64 txn, .int .i64 kind, .int .i64 page, .int .i64 next, .int .i64 nu, .int .i64 ok, .int .i64 os, .string oo, .string on, .int .i64 how, .int .i64 root, .string ek, .int .i64 ep, .int .i64 es, .slice A ts.length c, .slice D ds.length d] _ HX1.out _ Tryz.underlying85 (by kernel_rfl) (by kernel_rfl) ?_)
      | (go_at_call 90; (with_reducible refine (HP.out _ H1.out.below).mono ?_); rintro e w2 ⟨rfl, hb2⟩))
    have H2 := Lib.hid (H1.out.step hb2)
    clear hb2 H1 HX1 HP
    have HX2 := Lib.hid (show w2.heap[w.heap.size]? = some (.cells #[.int .i64 fr, .int .i64 n, .int .i64 en, .int .i64 sf, .string tl] 31 (0, 0)) from by have h := H2.out.get 0 _ rfl; simpa using h)
    go_wp2_with (first
      | (with_reducible refine listLoad (by kernel_rfl) 31 (.tmp 2) rfl w.heap.size rfl #[.int .i64 fr, .int .i64 n, .int .i64 en, .int .i64 sf, .string tl] _ HX2.out _ Tryz.underlying31 (by kernel_rfl) (by kernel_rfl) ?_)
      | (with_reducible refine listStore (by kernel_rfl) 31 (.tmp 4) (.tmp 20) rfl (w.heap.size + 2) #[.int .i64 fr, .int .i64 n, .int .i64 en, .int .i64 sf, .string tl] _ _ rfl rfl (H2.out.get 2 _ rfl) (by kernel_rfl) (by kernel_rfl) (by kernel_rfl) ?_))
    refine bodyPost_ret (v := .tuple #[.agg #[.int .i64 fr, .int .i64 n, .int .i64 en, .int .i64 sf, .string tl], .int .i64 0, .int .i64 1]) (results_cell3 rfl _ _ rfl (load_whole (setRow_heap _ _ _ _ _ _ (H2.out.get 2 _ rfl)) Tryz.underlying31 (by kernel_rfl) (by kernel_rfl)) rfl rfl) rfl ?_
    rw [HO.out]
    exact ⟨rfl, (H2.out.row 2 _ _ rfl).below⟩
end Go.Proofs.YthfglhafphfhiaaGreat
