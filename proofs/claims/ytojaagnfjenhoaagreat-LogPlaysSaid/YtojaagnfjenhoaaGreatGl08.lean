/- The walk over package rec: Get. -/
import Derived.Test.YtojaagnfjenhoaaGreatGl05
import Derived.Test.YtojaagnfjenhoaaGreatGl03
import Derived.Test.YtojaagnfjenhoaaGreatGl06
import Derived.Test.YtojaagnfjenhoaaGreatGl07
import Derived.Test.YtojaagnfjenhoaaGreatGl01
namespace Lg
/-- The parts of what Get asks, one behind the other. -/
theorem getO_short {s : List UInt8} {a : Nat} (h : s.length < a + 8 ∨ s.length < a + 8 + Oct.getN s a 4) : getO s a = none :=
  getO_no fun hI => by have := hI.1; omega
theorem getO_sum {s : List UInt8} {a : Nat} (h : Oct.getN s (a + 4) 4 ≠ Oct.sumN (bodyAt s a)) : getO s a = none := getO_no fun hI => h hI.2.1
theorem getO_wrong {s : List UInt8} {a : Nat} (h : ¬ Rc.Right (Rc.readM true (bodyAt s a))) : getO s a = none := getO_no fun hI => h hI.2.2.1
theorem getO_other {s : List UInt8} {a : Nat} (h : Rc.bodyB (Rc.readM true (bodyAt s a)) ≠ bodyAt s a) : getO s a = none := getO_no fun hI => h hI.2.2.2
end Lg
namespace Go.Proofs.YtojaagnfjenhoaaGreat
open Go.RowKit
/-- What Get answers. -/
def GetOut (o : Option (Rc.Rec × Nat)) (w : World) (e : Ending) (w' : World) : Prop :=
  Below w.heap.size w w' ∧ match o with
  | some (r, n) => ∃ A c B d, e = .returned (.tuple #[recV r (.slice A r.txns.length c) (.slice B r.dirty.length d), .int .i64 (n : Int), .int .i64 0]) ∧ RecN w.heap.size w' r A c B d
  | none => ∃ k : Int, k ≠ 0 ∧ e = .returned (.tuple #[.agg zeroA, .int .i64 0, .int .i64 k])
theorem get_none {o : Option (Rc.Rec × Nat)} {w w' : World} (h : o = none) (hb : Below w.heap.size w w') (k : Int) (hk : k ≠ 0) : GetOut o w (.returned (.tuple #[.agg zeroA, .int .i64 0, .int .i64 k])) w' := by
  subst h; exact ⟨hb, k, hk, rfl⟩
theorem str_neq {a b : ByteArray} (h : a ≠ b) : (a.toList != b.toList) = true := by
  simp only [bne_iff_ne, ne_eq]
  intro e
  apply h
  rw [ByteArray.toList_eq, ByteArray.toList_eq] at e
  exact ByteArray.ext (Array.toList_inj.1 e)
theorem below_row {w u : World} (hb : Below w.heap.size w u) (cs : Array Value) : Below w.heap.size w (u.setRow w.heap.size cs) :=
  ⟨hb.os, hb.tape, hb.output, by show _ ≤ (u.heap.modify _ _).size; have := hb.size; simpa using this, fun k hk => (heap_setRow_ne _ _ _ _ (by omega)).trans (hb.block k hk)⟩
theorem extract_drop (s : ByteArray) (a : Nat) : (s.extract a s.size).data.toList = s.data.toList.drop a := by
  simp only [ByteArray.data_extract, Array.toList_extract, List.extract_eq_take_drop]
  exact List.take_of_length_le (by simp)
theorem get_there (s : ByteArray) (a : Nat) {n : Nat} (_hx : a + 4 ≤ s.size) (hn : Oct.getN s.data.toList a 4 = n) : Oct.intOf (Oct.getN (s.extract a s.size).data.toList 0 4) = (n : Int) := by
  have h0 : Oct.getN (s.extract a s.size).data.toList 0 4 = n := by
    rw [extract_drop, ← hn]; unfold Oct.getN; rw [List.drop_zero]
  have h1 := getN_small s.data.toList a 4
  rw [h0]
  unfold Oct.intOf
  rw [if_pos (by have : (256 : Nat) ^ 4 = 4294967296 := rfl; omega)]
/-! walk -/
set_option maxRecDepth 100000 in
set_option maxHeartbeats 4000000 in
theorem get_far (s : ByteArray) (a : Int) (hm : s.size ≤ 1000000) (ha : a < 0 ∨ (s.size : Int) < a) (o : Option (Rc.Rec × Nat)) (ho : o = none) (w : World) :
    Calls Tryz.prog 33 #[.string s, .int .i64 a] w (GetOut o w) := by
  have HN := Lib.hid ho
  clear ho
  have HZ := Lib.hid (heap_alloc_new w (.cells (rcA 0 0 0 0 0 0 0 0 0 ⟨#[]⟩ ⟨#[]⟩ 0 0 ⟨#[]⟩ 0 0 (.slice none 0 0) (.slice none 0 0)) 42))
  rcases ha with ha | ha
  · go_enter Tryz.func33, Tryz.ntmps33
    go_wp2_with (first | (with_reducible refine listStore (by kernel_rfl) 42 (.tmp 4) (.tmp 19) rfl w.heap.size (rcA 0 0 0 0 0 0 0 0 0 ⟨#[]⟩ ⟨#[]⟩ 0 0 ⟨#[]⟩ 0 0 (.slice none 0 0) (.slice none 0 0)) _ _ rfl rfl HZ.out (by kernel_rfl) (by kernel_rfl) (by kernel_rfl) ?_))
    refine bodyPost_ret (v := .tuple #[.agg (rcA 0 0 0 0 0 0 0 0 0 ⟨#[]⟩ ⟨#[]⟩ 0 0 ⟨#[]⟩ 0 0 (.slice none 0 0) (.slice none 0 0)), .int .i64 0, .int .i64 1]) (results_cell3 rfl _ _ rfl (load_whole (setRow_heap _ _ _ _ _ _ HZ.out) Tryz.underlying42 (by kernel_rfl) (by kernel_rfl)) rfl rfl) rfl ?_
    exact get_none HN.out (below_row (allocB _ _) _) 1 (by omega)
  · have h0 : ¬ a < 0 := by omega
    go_enter Tryz.func33, Tryz.ntmps33
    go_wp2_with (first | (with_reducible refine listStore (by kernel_rfl) 42 (.tmp 4) (.tmp 19) rfl w.heap.size (rcA 0 0 0 0 0 0 0 0 0 ⟨#[]⟩ ⟨#[]⟩ 0 0 ⟨#[]⟩ 0 0 (.slice none 0 0) (.slice none 0 0)) _ _ rfl rfl HZ.out (by kernel_rfl) (by kernel_rfl) (by kernel_rfl) ?_))
    refine bodyPost_ret (v := .tuple #[.agg (rcA 0 0 0 0 0 0 0 0 0 ⟨#[]⟩ ⟨#[]⟩ 0 0 ⟨#[]⟩ 0 0 (.slice none 0 0) (.slice none 0 0)), .int .i64 0, .int .i64 1]) (results_cell3 rfl _ _ rfl (load_whole (setRow_heap _ _ _ _ _ _ HZ.out) Tryz.underlying42 (by kernel_rfl) (by kernel_rfl)) rfl rfl) rfl ?_
    exact get_none HN.out (below_row (allocB _ _) _) 1 (by omega)
set_option maxRecDepth 100000 in
set_option maxHeartbeats 4000000 in
theorem get_short4 (s : ByteArray) (a : Nat) (_hm : s.size ≤ 1000000) (ha : a ≤ s.size) (h4 : s.size < a + 4) (o : Option (Rc.Rec × Nat)) (ho : o = none) (w : World) :
    Calls Tryz.prog 33 #[.string s, .int .i64 (a : Int)] w (GetOut o w) := by
  have HN := Lib.hid ho
  have HG := Lib.hid (fun W => get_no (s.extract a s.size) 0 4 (by rw [ByteArray.size_extract]; omega) (by omega) (by omega) (by unfold Oct.there; rw [ByteArray.size_extract]; simp; omega) W)
  have h1 : ¬ (a : Int) < 0 := by omega
  have h2 : (a : Int) ≤ (s.size : Int) := by omega
  have HZ := Lib.hid (heap_alloc_new w (.cells (rcA 0 0 0 0 0 0 0 0 0 ⟨#[]⟩ ⟨#[]⟩ 0 0 ⟨#[]⟩ 0 0 (.slice none 0 0) (.slice none 0 0)) 42))
  clear ho h4
  go_enter Tryz.func33, Tryz.ntmps33
  go_wp2_with (first | (go_at_call 57; refine (HG.out _).mono ?_; rintro e w1 ⟨rfl, rfl⟩) | (with_reducible refine listStore (by kernel_rfl) 42 (.tmp 4) (.tmp 42) rfl w.heap.size (rcA 0 0 0 0 0 0 0 0 0 ⟨#[]⟩ ⟨#[]⟩ 0 0 ⟨#[]⟩ 0 0 (.slice none 0 0) (.slice none 0 0)) _ _ rfl rfl HZ.out (by kernel_rfl) (by kernel_rfl) (by kernel_rfl) ?_))
  refine bodyPost_ret (v := .tuple #[.agg (rcA 0 0 0 0 0 0 0 0 0 ⟨#[]⟩ ⟨#[]⟩ 0 0 ⟨#[]⟩ 0 0 (.slice none 0 0) (.slice none 0 0)), .int .i64 0, .int .i64 3]) (results_cell3 rfl _ _ rfl (load_whole (setRow_heap _ _ _ _ _ _ HZ.out) Tryz.underlying42 (by kernel_rfl) (by kernel_rfl)) rfl rfl) rfl ?_
  exact get_none HN.out (below_row (allocB _ _) _) 3 (by omega)
set_option maxRecDepth 100000 in
set_option maxHeartbeats 4000000 in
theorem get_short8 (s : ByteArray) (a n : Nat) (hm : s.size ≤ 1000000) (hx : a + 4 ≤ s.size) (hn : Oct.getN s.data.toList a 4 = n) (h8 : s.size < a + 8 ∨ s.size < a + 8 + n) (o : Option (Rc.Rec × Nat)) (ho : o = none) (w : World) :
    Calls Tryz.prog 33 #[.string s, .int .i64 (a : Int)] w (GetOut o w) := by
  have HN := Lib.hid ho
  have hsx : (s.extract a s.size).size = s.size - a := by rw [ByteArray.size_extract]; omega
  have HG := Lib.hid (fun W => get_yes (s.extract a s.size) 0 4 (by omega) (by omega) (by omega) (by omega) W)
  rw [get_there s a hx hn] at HG
  have h1 : ¬ (a : Int) < 0 := by omega
  have h2 : (a : Int) ≤ (s.size : Int) := by omega
  have HZ := Lib.hid (heap_alloc_new w (.cells (rcA 0 0 0 0 0 0 0 0 0 ⟨#[]⟩ ⟨#[]⟩ 0 0 ⟨#[]⟩ 0 0 (.slice none 0 0) (.slice none 0 0)) 42))
  clear ho hn
  obtain ⟨t, ht⟩ : ∃ t : Nat, t = s.size - a := ⟨_, rfl⟩
  rw [← ht] at hsx
  generalize hxe : s.extract a s.size = x at hsx HG
  by_cases hs8 : t < 8
  · have h3 : (x.size : Int) < 8 := by omega
    have h3n : x.size < 8 := by omega
    clear hsx ht h8
    go_enter Tryz.func33, Tryz.ntmps33
    go_upto_region 4 with fail
    try rw [hxe]
    clear hxe
    go_wp2_with (first | (go_at_call 57; refine (HG.out _).mono ?_; rintro e w1 ⟨rfl, hb1⟩; have HZ1 := blkNew hb1; have HB1 := joinB (allocB _ _) hb1) | (with_reducible refine listStore (by kernel_rfl) 42 (.tmp 4) (.tmp 42) rfl w.heap.size (rcA 0 0 0 0 0 0 0 0 0 ⟨#[]⟩ ⟨#[]⟩ 0 0 ⟨#[]⟩ 0 0 (.slice none 0 0) (.slice none 0 0)) _ _ rfl rfl HZ1 (by kernel_rfl) (by kernel_rfl) (by kernel_rfl) ?_))
    refine bodyPost_ret (v := .tuple #[.agg (rcA 0 0 0 0 0 0 0 0 0 ⟨#[]⟩ ⟨#[]⟩ 0 0 ⟨#[]⟩ 0 0 (.slice none 0 0) (.slice none 0 0)), .int .i64 0, .int .i64 3]) (results_cell3 rfl _ _ rfl (load_whole (setRow_heap _ _ _ _ _ _ HZ1) Tryz.underlying42 (by kernel_rfl) (by kernel_rfl)) rfl rfl) rfl ?_
    exact get_none HN.out (below_row HB1 _) 3 (by omega)
  · have h3 : ¬ (x.size : Int) < 8 := by omega
    have h3n : ¬ x.size < 8 := by omega
    have h4 : (x.size : Int) - 8 < (n : Int) := by omega
    have w8 : IntKind.i64.wrap ((x.size : Int) - 8) = (x.size : Int) - 8 := IntWalk.i64_in _ (by omega)
    clear hsx ht h8 hs8
    go_enter Tryz.func33, Tryz.ntmps33
    go_upto_region 4 with fail
    try rw [hxe]
    clear hxe
    go_wp2_with (first | (go_at_call 57; refine (HG.out _).mono ?_; rintro e w1 ⟨rfl, hb1⟩; have HZ1 := blkNew hb1; have HB1 := joinB (allocB _ _) hb1) | (with_reducible refine listStore (by kernel_rfl) 42 (.tmp 4) (.tmp 42) rfl w.heap.size (rcA 0 0 0 0 0 0 0 0 0 ⟨#[]⟩ ⟨#[]⟩ 0 0 ⟨#[]⟩ 0 0 (.slice none 0 0) (.slice none 0 0)) _ _ rfl rfl HZ1 (by kernel_rfl) (by kernel_rfl) (by kernel_rfl) ?_))
    refine bodyPost_ret (v := .tuple #[.agg (rcA 0 0 0 0 0 0 0 0 0 ⟨#[]⟩ ⟨#[]⟩ 0 0 ⟨#[]⟩ 0 0 (.slice none 0 0) (.slice none 0 0)), .int .i64 0, .int .i64 3]) (results_cell3 rfl _ _ rfl (load_whole (setRow_heap _ _ _ _ _ _ HZ1) Tryz.underlying42 (by kernel_rfl) (by kernel_rfl)) rfl rfl) rfl ?_
    exact get_none HN.out (below_row HB1 _) 3 (by omega)
set_option maxRecDepth 100000 in
set_option maxHeartbeats 8000000 in
theorem get_long (s : ByteArray) (a n : Nat) (hm : s.size ≤ 1000000) (hn : Oct.getN s.data.toList a 4 = n) (hx : a + 8 + n ≤ s.size) (w : World) :
    Calls Tryz.prog 33 #[.string s, .int .i64 (a : Int)] w (GetOut (Lg.getO s.data.toList a) w) := by
  have hsx : (s.extract a s.size).size = s.size - a := by rw [ByteArray.size_extract]; omega
  have HG := Lib.hid (fun W => get_yes (s.extract a s.size) 0 4 (by omega) (by omega) (by omega) (by omega) W)
  rw [get_there s a (by omega) hn] at HG
  obtain ⟨y, hy⟩ : ∃ y, y = (s.extract a s.size).extract 4 (8 + n) := ⟨_, rfl⟩
  have hyl : y.data.toList = (s.data.toList.drop (a + 4)).take (4 + n) := by
    rw [hy, show 8 + n = 4 + (4 + n) by omega, extract_list]
    show ((_ : List UInt8).drop 4).take (4 + n) = _
    rw [show (s.extract a s.size).data.toList = s.data.toList.drop a from extract_drop s a, List.drop_drop]
  have hys : y.size = 4 + n := by
    have e : y.size = y.data.toList.length := by simp
    rw [e, hyl, List.length_take, List.length_drop]
    have : s.data.toList.length = s.size := by simp
    omega
  have hy4 : Oct.getN y.data.toList 0 4 = Oct.getN s.data.toList (a + 4) 4 := by
    unfold Oct.getN
    rw [hyl, List.drop_zero, List.take_take, Nat.min_eq_left (by omega)]
  have hyd : y.data.toList.drop 4 = Lg.bodyAt s.data.toList a := by
    rw [hyl]; unfold Lg.bodyAt
    rw [hn, List.drop_take, List.drop_drop, show 4 + n - 4 = n by omega]
  have hq := getN_small s.data.toList (a + 4) 4
  have HO := Lib.hid (fun W => open4_any y (by omega) (by omega) (Oct.getN s.data.toList (a + 4) 4) hy4 (by unfold Oct.intOf; rw [if_pos (by have : (256 : Nat) ^ 4 = 4294967296 := rfl; omega)]) W)
  rw [hyd] at HO
  have h1 : ¬ (a : Int) < 0 := by omega
  have h2 : (a : Int) ≤ (s.size : Int) := by omega
  have HZ := Lib.hid (heap_alloc_new w (.cells (rcA 0 0 0 0 0 0 0 0 0 ⟨#[]⟩ ⟨#[]⟩ 0 0 ⟨#[]⟩ 0 0 (.slice none 0 0) (.slice none 0 0)) 42))
  have HNO := @Lg.getO_sum s.data.toList a
  have HNW := @Lg.getO_wrong s.data.toList a
  have HNX := @Lg.getO_other s.data.toList a
  have HYE := @Lg.getO_yes s.data.toList a
  have HIS : Oct.getN s.data.toList (a + 4) 4 = Oct.sumN (Lg.bodyAt s.data.toList a) → Rc.Right (Rc.readM true (Lg.bodyAt s.data.toList a)) → Rc.bodyB (Rc.readM true (Lg.bodyAt s.data.toList a)) = Lg.bodyAt s.data.toList a → Lg.Is s.data.toList a := fun q1 q2 q3 =>
    ⟨by rw [hn]; have : s.data.toList.length = s.size := (by simp); omega, q1, q2, q3⟩
  have hzl : (y.extract 4 y.size).data.toList = Lg.bodyAt s.data.toList a := by rw [extract_drop, hyd]
  have hzs : (y.extract 4 y.size).size = n := by rw [ByteArray.size_extract]; omega
  rw [hn] at HYE
  obtain ⟨x, hxe⟩ : ∃ x, x = s.extract a s.size := ⟨_, rfl⟩
  obtain ⟨z, hze⟩ : ∃ z, z = y.extract 4 y.size := ⟨_, rfl⟩
  rw [← hxe] at HG hsx hy
  rw [← hze] at HO hzl hzs
  have HXE := Lib.hid hxe
  have HYEE := Lib.hid hy
  have HZL := Lib.hid hzl
  have HREC := Lib.hid (fun g W hW => record_any g z (by omega) W hW)
  rw [hzl] at HREC
  generalize Lg.bodyAt s.data.toList a = L at *
  generalize Oct.getN s.data.toList (a + 4) 4 = q at *
  have h3 : ¬ (x.size : Int) < 8 := by omega
  have h3n : ¬ x.size < 8 := by omega
  have h4 : ¬ (x.size : Int) - 8 < (n : Int) := by omega
  have w8 : IntKind.i64.wrap ((x.size : Int) - 8) = (x.size : Int) - 8 := IntWalk.i64_in _ (by omega)
  have w9 : IntKind.i64.wrap (8 + (n : Int)) = 8 + (n : Int) := IntWalk.i64_in _ (by omega)
  have h5 : (4 : Int) ≤ 8 + (n : Int) := by omega
  have h6 : 8 + (n : Int) ≤ (x.size : Int) := by omega
  have h7 : (8 + (n : Int)).toNat = 8 + n := by omega
  have h8 : (0 : Int) ≤ 8 + (n : Int) := by omega
  have w10 : IntKind.i64.wrap ((a : Int) + 8) = (a : Int) + 8 := IntWalk.i64_in _ (by omega)
  have w11 : IntKind.i64.wrap ((a : Int) + 8 + (n : Int)) = (a : Int) + 8 + (n : Int) := IntWalk.i64_in _ (by omega)
  have HFN := Lib.hid (show ((a + 8 + n : Nat) : Int) = (a : Int) + 8 + (n : Int) by omega)
  clear hyl hys hy4 hyd hq hn hx hsx hxe hy hze hzl hzs
  by_cases hs : q = Oct.sumN L
  · rw [if_pos hs] at HO
    have HIS := Lib.hid (HIS hs)
    clear HNO hs
    generalize hr : Rc.readM true L = r at *
    clear hr
    cases hb : Rc.rightB r with
    | false =>
      have HN := Lib.hid (HNW (fun h => by rw [Rc.rightB_yes h] at hb; cases hb))
      have HRI := Lib.hid (fun A c B d W (h : RecR W r A c B d) => cright_rec r A B c d W h)
      rw [hb] at HRI
      clear hb HNW HNX HYE HIS
      generalize Lg.getO s.data.toList a = o at HN ⊢
      obtain ⟨lsn, prev, txn, kind, page, next, nu, ⟨ok, os, oo, on⟩, how, root, ⟨ek, ep, es⟩, ts, ds⟩ := r
      dsimp only [recV, recA] at HRI
      go_enter Tryz.func33, Tryz.ntmps33
      go_upto_region 4 with fail
      rw [← HXE.out]
      go_upto_region 7 with (first | (go_at_call 57; refine (HG.out _).mono ?_; rintro e w1 ⟨rfl, hb1⟩; have HZ1 := Lib.hid (blkNew hb1); have HB1 := Lib.hid (joinB (allocB _ _) hb1)))
      clear hb1
      have hye := HYEE.out
      go_upto_region 10 with (first | (go_at_call 58; rw [← hye]; refine (HO.out _).mono ?_; rintro e w2 ⟨rfl, hb2⟩; have HZ2 := Lib.hid (blkOld HZ1.out hb2); have HB2 := Lib.hid (joinB HB1.out hb2)))
      clear hb2 hye HZ1 HB1
      have HBX := Lib.hid (show (w2.alloc (.cells #[.string z, .int .i64 0, .bool false] 102)).heap[w2.heap.size]? = some (.cells (rdC z 0 false) 102 (0, 0)) from heap_alloc_new w2 _)
      go_upto_region 11 with (first | (go_at_call 59; (with_reducible refine (HREC.out _ _ HBX.out).mono ?_); rintro e w3 ⟨A, c, B, d, rfl, hrr, hk3⟩; (try dsimp only [recV, recA])) | (with_reducible refine wpList_store_new rfl 42 (.tmp 10) (.tmp 57) rfl (rcA lsn prev txn kind page next nu ok os oo on how root ek ep es (.slice A ts.length c) (.slice B ds.length d)) _ _ rfl (by kernel_rfl) (by kernel_rfl) (by kernel_rfl) (by kernel_rfl) ?_))
      have HB3 := Lib.hid (HB2.out.trans (show Below w.heap.size w2 w3 from (Below.refl w.heap.size w2).alloc HB2.out.size _ |>.trans (hk3.below (by have := HB2.out.size; simp; omega) HB2.out.size)))
      have HZ4 := Lib.hid (show (w3.alloc (.cells (rcA lsn prev txn kind page next nu ok os oo on how root ek ep es (.slice A ts.length c) (.slice B ds.length d)) 42)).heap[w.heap.size]? = some (.cells (rcA 0 0 0 0 0 0 0 0 0 ⟨#[]⟩ ⟨#[]⟩ 0 0 ⟨#[]⟩ 0 0 (.slice none 0 0) (.slice none 0 0)) 42 (0, 0)) from by
        have h1 := heapLt HZ2.out
        have h2 := hk3.size
        simp at h2
        rw [Below.heap_alloc _ _ _ (by omega), hk3.block _ (by simp; omega) (by omega), Below.heap_alloc _ _ _ (by omega)]; exact HZ2.out)
      have HX := Lib.hid (heap_alloc_new w3 (.cells (rcA lsn prev txn kind page next nu ok os oo on how root ek ep es (.slice A ts.length c) (.slice B ds.length d)) 42))
      have HRR := Lib.hid (hrr.rr.below (allocB w3 (.cells (rcA lsn prev txn kind page next nu ok os oo on how root ek ep es (.slice A ts.length c) (.slice B ds.length d)) 42)))
      have HB4 := Lib.hid (pastAlloc (o := .cells (rcA lsn prev txn kind page next nu ok os oo on how root ek ep es (.slice A ts.length c) (.slice B ds.length d)) 42) HB3.out)
      have hgw := HB3.out.size
      have HNA := Lib.hid ((hrr.mono (show w.heap.size + 1 ≤ _ by have h1 := heapLt HZ2.out; simp; omega)).below (allocB w3 (.cells (rcA lsn prev txn kind page next nu ok os oo on how root ek ep es (.slice A ts.length c) (.slice B ds.length d)) 42)))
      clear hrr hk3 HZ2 HB2 HBX HB3
      obtain ⟨g, hge⟩ : ∃ g, g = w3.heap.size := ⟨_, rfl⟩
      obtain ⟨w4, hw4⟩ : ∃ W, W = w3.alloc (.cells (rcA lsn prev txn kind page next nu ok os oo on how root ek ep es (.slice A ts.length c) (.slice B ds.length d)) 42) := ⟨_, rfl⟩
      rw [← hge] at HX ⊢
      rw [← hw4] at HX HRR HB4 HZ4 HNA ⊢
      clear hge hw4 hgw
      go_wp2_with (first | (with_reducible refine listLoad (by kernel_rfl) 42 (.tmp 10) rfl g rfl (rcA lsn prev txn kind page next nu ok os oo on how root ek ep es (.slice A ts.length c) (.slice B ds.length d)) _ HX.out _ Tryz.underlying42 (by kernel_rfl) (by kernel_rfl) ?_) | (go_at_call 38; (with_reducible refine (HRI.out _ _ _ _ _ HRR.out).mono ?_); rintro e w5 ⟨rfl, hb5⟩; have HZ5 := blkOld HZ4.out hb5; have HB5 := joinB HB4.out hb5) | (with_reducible refine listStore (by kernel_rfl) 42 (.tmp 4) (.tmp 67) rfl w.heap.size (rcA 0 0 0 0 0 0 0 0 0 ⟨#[]⟩ ⟨#[]⟩ 0 0 ⟨#[]⟩ 0 0 (.slice none 0 0) (.slice none 0 0)) _ _ rfl rfl HZ5 (by kernel_rfl) (by kernel_rfl) (by kernel_rfl) ?_))
      refine bodyPost_ret (v := .tuple #[.agg (rcA 0 0 0 0 0 0 0 0 0 ⟨#[]⟩ ⟨#[]⟩ 0 0 ⟨#[]⟩ 0 0 (.slice none 0 0) (.slice none 0 0)), .int .i64 0, .int .i64 2]) (results_cell3 rfl _ _ rfl (load_whole (setRow_heap _ _ _ _ _ _ HZ5) Tryz.underlying42 (by kernel_rfl) (by kernel_rfl)) rfl rfl) rfl ?_
      exact get_none HN.out (below_row HB5 _) 2 (by omega)
    | true =>
      have hR := Rc.rightB_iff.1 hb
      have HRI := Lib.hid (fun A c B d W (h : RecR W r A c B d) => cright_rec r A B c d W h)
      have HBO := Lib.hid (fun A c B d W (h : RecR W r A c B d) => body_any r hR A B c d W h)
      rw [hb] at HRI
      obtain ⟨yb, hyb⟩ : ∃ yb : ByteArray, yb = ⟨(Rc.bodyB r).toArray⟩ := ⟨_, rfl⟩
      rw [← hyb] at HBO
      by_cases hxx : Rc.bodyB r = L
      · have hYB : yb = z := by
          rw [hyb, hxx, ← HZL.out]
        have HY := Lib.hid (HYE (HIS.out hR hxx))
        subst hYB
        clear hb HNW HNX HYE HIS hxx hR hyb HZL
        generalize Lg.getO s.data.toList a = o at HY ⊢
        have HOK := Lib.hid (fun A c B d w' (h1 : RecN w.heap.size w' r A c B d) (h2 : Below w.heap.size w w') => show GetOut o w (.returned (.tuple #[recV r (.slice A r.txns.length c) (.slice B r.dirty.length d), .int .i64 ((a : Int) + 8 + (n : Int)), .int .i64 0])) w' from by
          rw [HY.out, ← HFN.out]; exact ⟨h2, A, c, B, d, rfl, h1⟩)
        have hself : (yb.toList != yb.toList) = false := by simp
        obtain ⟨lsn, prev, txn, kind, page, next, nu, ⟨ok, os, oo, on⟩, how, root, ⟨ek, ep, es⟩, ts, ds⟩ := r
        dsimp only [recV, recA] at HRI HBO HOK
        go_enter Tryz.func33, Tryz.ntmps33
        go_upto_region 4 with fail
        rw [← HXE.out]
        go_upto_region 7 with (first | (go_at_call 57; refine (HG.out _).mono ?_; rintro e w1 ⟨rfl, hb1⟩; have HZ1 := Lib.hid (blkNew hb1); have HB1 := Lib.hid (joinB (allocB _ _) hb1)))
        clear hb1
        have hye := HYEE.out
        go_upto_region 10 with (first | (go_at_call 58; rw [← hye]; refine (HO.out _).mono ?_; rintro e w2 ⟨rfl, hb2⟩; have HZ2 := Lib.hid (blkOld HZ1.out hb2); have HB2 := Lib.hid (joinB HB1.out hb2)))
        clear hb2 hye HZ1 HB1
        have HBX := Lib.hid (show (w2.alloc (.cells #[.string yb, .int .i64 0, .bool false] 102)).heap[w2.heap.size]? = some (.cells (rdC yb 0 false) 102 (0, 0)) from heap_alloc_new w2 _)
        go_upto_region 11 with (first | (go_at_call 59; (with_reducible refine (HREC.out _ _ HBX.out).mono ?_); rintro e w3 ⟨A, c, B, d, rfl, hrr, hk3⟩; (try dsimp only [recV, recA])) | (with_reducible refine wpList_store_new rfl 42 (.tmp 10) (.tmp 57) rfl (rcA lsn prev txn kind page next nu ok os oo on how root ek ep es (.slice A ts.length c) (.slice B ds.length d)) _ _ rfl (by kernel_rfl) (by kernel_rfl) (by kernel_rfl) (by kernel_rfl) ?_))
        have HB3 := Lib.hid (HB2.out.trans (show Below w.heap.size w2 w3 from (Below.refl w.heap.size w2).alloc HB2.out.size _ |>.trans (hk3.below (by have := HB2.out.size; simp; omega) HB2.out.size)))
        have HZ4 := Lib.hid (show (w3.alloc (.cells (rcA lsn prev txn kind page next nu ok os oo on how root ek ep es (.slice A ts.length c) (.slice B ds.length d)) 42)).heap[w.heap.size]? = some (.cells (rcA 0 0 0 0 0 0 0 0 0 ⟨#[]⟩ ⟨#[]⟩ 0 0 ⟨#[]⟩ 0 0 (.slice none 0 0) (.slice none 0 0)) 42 (0, 0)) from by
          have h1 := heapLt HZ2.out
          have h2 := hk3.size
          simp at h2
          rw [Below.heap_alloc _ _ _ (by omega), hk3.block _ (by simp; omega) (by omega), Below.heap_alloc _ _ _ (by omega)]; exact HZ2.out)
        have HX := Lib.hid (heap_alloc_new w3 (.cells (rcA lsn prev txn kind page next nu ok os oo on how root ek ep es (.slice A ts.length c) (.slice B ds.length d)) 42))
        have HRR := Lib.hid (hrr.rr.below (allocB w3 (.cells (rcA lsn prev txn kind page next nu ok os oo on how root ek ep es (.slice A ts.length c) (.slice B ds.length d)) 42)))
        have HB4 := Lib.hid (pastAlloc (o := .cells (rcA lsn prev txn kind page next nu ok os oo on how root ek ep es (.slice A ts.length c) (.slice B ds.length d)) 42) HB3.out)
        have hgw := HB3.out.size
        have HNA := Lib.hid ((hrr.mono (show w.heap.size + 1 ≤ _ by have h1 := heapLt HZ2.out; simp; omega)).below (allocB w3 (.cells (rcA lsn prev txn kind page next nu ok os oo on how root ek ep es (.slice A ts.length c) (.slice B ds.length d)) 42)))
        clear hrr hk3 HZ2 HB2 HBX HB3
        obtain ⟨g, hge⟩ : ∃ g, g = w3.heap.size := ⟨_, rfl⟩
        obtain ⟨w4, hw4⟩ : ∃ W, W = w3.alloc (.cells (rcA lsn prev txn kind page next nu ok os oo on how root ek ep es (.slice A ts.length c) (.slice B ds.length d)) 42) := ⟨_, rfl⟩
        rw [← hge] at HX ⊢
        rw [← hw4] at HX HRR HB4 HZ4 HNA ⊢
        clear hge hw4 hgw
        go_upto_region 13 with (first | (with_reducible refine listLoad (by kernel_rfl) 42 (.tmp 10) rfl g rfl (rcA lsn prev txn kind page next nu ok os oo on how root ek ep es (.slice A ts.length c) (.slice B ds.length d)) _ HXb.out _ Tryz.underlying42 (by kernel_rfl) (by kernel_rfl) ?_) | (with_reducible refine listLoad (by kernel_rfl) 42 (.tmp 10) rfl g rfl (rcA lsn prev txn kind page next nu ok os oo on how root ek ep es (.slice A ts.length c) (.slice B ds.length d)) _ HX.out _ Tryz.underlying42 (by kernel_rfl) (by kernel_rfl) ?_) | (go_at_call 38; (with_reducible refine (HRI.out _ _ _ _ _ HRR.out).mono ?_); rintro e w5 ⟨rfl, hb5⟩; have HXb := Lib.hid (blkOld HX.out hb5); have HRb := Lib.hid (HRR.out.below hb5); have HBa := Lib.hid hb5; have HZ5 := Lib.hid (blkOld HZ4.out hb5); have HB5 := Lib.hid (joinB HB4.out hb5); clear hb5) | (go_at_call 39; (with_reducible refine (HBO.out _ _ _ _ _ HRb.out).mono ?_); rintro e w6 ⟨rfl, hb6⟩; have HXc := Lib.hid (blkOld HXb.out hb6); have HNb := Lib.hid ((HNA.out.below HBa.out).below hb6); have HZ6 := Lib.hid (blkOld HZ5.out hb6); have HB6 := Lib.hid (joinB HB5.out hb6); clear hb6))
        clear hself
        go_wp2_with (first | (with_reducible refine listLoad (by kernel_rfl) 42 (.tmp 10) rfl g rfl (rcA lsn prev txn kind page next nu ok os oo on how root ek ep es (.slice A ts.length c) (.slice B ds.length d)) _ HXc.out _ Tryz.underlying42 (by kernel_rfl) (by kernel_rfl) ?_) | (with_reducible refine listStore (by kernel_rfl) 42 (.tmp 4) (.tmp 68) rfl w.heap.size (rcA lsn prev txn kind page next nu ok os oo on how root ek ep es (.slice A ts.length c) (.slice B ds.length d)) _ _ rfl rfl HZ6.out (by kernel_rfl) (by kernel_rfl) (by kernel_rfl) ?_))
        refine bodyPost_ret (v := .tuple #[.agg (rcA lsn prev txn kind page next nu ok os oo on how root ek ep es (.slice A ts.length c) (.slice B ds.length d)), .int .i64 ((a : Int) + 8 + (n : Int)), .int .i64 0]) (results_cell3 rfl _ _ rfl (load_whole (setRow_heap _ _ _ _ _ _ HZ6.out) Tryz.underlying42 (by kernel_rfl) (by kernel_rfl)) rfl rfl) rfl ?_
        exact HOK.out A c B d _ (((HNb.out).row w.heap.size (rcA lsn prev txn kind page next nu ok os oo on how root ek ep es (.slice A ts.length c) (.slice B ds.length d)) (by omega)).mono (by omega)) (below_row HB6.out _)
      · have hYB : yb ≠ z := fun e => hxx (by
          have := congrArg (fun b : ByteArray => b.data.toList) (hyb.symm.trans e)
          simp only [HZL.out] at this
          exact this)
        have HN := Lib.hid (HNX hxx)
        have hne := str_neq hYB
        have hne2 : (yb.toList == z.toList) = false := by simpa using hne
        have hne3 : ¬ yb.toList = z.toList := by simpa using hne
        clear hb HNW HNX HYE HIS hxx hR hyb HZL hYB
        generalize Lg.getO s.data.toList a = o at HN ⊢
        obtain ⟨lsn, prev, txn, kind, page, next, nu, ⟨ok, os, oo, on⟩, how, root, ⟨ek, ep, es⟩, ts, ds⟩ := r
        dsimp only [recV, recA] at HRI HBO
        go_enter Tryz.func33, Tryz.ntmps33
        go_upto_region 4 with fail
        rw [← HXE.out]
        go_upto_region 7 with (first | (go_at_call 57; refine (HG.out _).mono ?_; rintro e w1 ⟨rfl, hb1⟩; have HZ1 := Lib.hid (blkNew hb1); have HB1 := Lib.hid (joinB (allocB _ _) hb1)))
        clear hb1
        have hye := HYEE.out
        go_upto_region 10 with (first | (go_at_call 58; rw [← hye]; refine (HO.out _).mono ?_; rintro e w2 ⟨rfl, hb2⟩; have HZ2 := Lib.hid (blkOld HZ1.out hb2); have HB2 := Lib.hid (joinB HB1.out hb2)))
        clear hb2 hye HZ1 HB1
        have HBX := Lib.hid (show (w2.alloc (.cells #[.string z, .int .i64 0, .bool false] 102)).heap[w2.heap.size]? = some (.cells (rdC z 0 false) 102 (0, 0)) from heap_alloc_new w2 _)
        go_upto_region 11 with (first | (go_at_call 59; (with_reducible refine (HREC.out _ _ HBX.out).mono ?_); rintro e w3 ⟨A, c, B, d, rfl, hrr, hk3⟩; (try dsimp only [recV, recA])) | (with_reducible refine wpList_store_new rfl 42 (.tmp 10) (.tmp 57) rfl (rcA lsn prev txn kind page next nu ok os oo on how root ek ep es (.slice A ts.length c) (.slice B ds.length d)) _ _ rfl (by kernel_rfl) (by kernel_rfl) (by kernel_rfl) (by kernel_rfl) ?_))
        have HB3 := Lib.hid (HB2.out.trans (show Below w.heap.size w2 w3 from (Below.refl w.heap.size w2).alloc HB2.out.size _ |>.trans (hk3.below (by have := HB2.out.size; simp; omega) HB2.out.size)))
        have HZ4 := Lib.hid (show (w3.alloc (.cells (rcA lsn prev txn kind page next nu ok os oo on how root ek ep es (.slice A ts.length c) (.slice B ds.length d)) 42)).heap[w.heap.size]? = some (.cells (rcA 0 0 0 0 0 0 0 0 0 ⟨#[]⟩ ⟨#[]⟩ 0 0 ⟨#[]⟩ 0 0 (.slice none 0 0) (.slice none 0 0)) 42 (0, 0)) from by
          have h1 := heapLt HZ2.out
          have h2 := hk3.size
          simp at h2
          rw [Below.heap_alloc _ _ _ (by omega), hk3.block _ (by simp; omega) (by omega), Below.heap_alloc _ _ _ (by omega)]; exact HZ2.out)
        have HX := Lib.hid (heap_alloc_new w3 (.cells (rcA lsn prev txn kind page next nu ok os oo on how root ek ep es (.slice A ts.length c) (.slice B ds.length d)) 42))
        have HRR := Lib.hid (hrr.rr.below (allocB w3 (.cells (rcA lsn prev txn kind page next nu ok os oo on how root ek ep es (.slice A ts.length c) (.slice B ds.length d)) 42)))
        have HB4 := Lib.hid (pastAlloc (o := .cells (rcA lsn prev txn kind page next nu ok os oo on how root ek ep es (.slice A ts.length c) (.slice B ds.length d)) 42) HB3.out)
        have hgw := HB3.out.size
        have HNA := Lib.hid ((hrr.mono (show w.heap.size + 1 ≤ _ by have h1 := heapLt HZ2.out; simp; omega)).below (allocB w3 (.cells (rcA lsn prev txn kind page next nu ok os oo on how root ek ep es (.slice A ts.length c) (.slice B ds.length d)) 42)))
        clear hrr hk3 HZ2 HB2 HBX HB3
        obtain ⟨g, hge⟩ : ∃ g, g = w3.heap.size := ⟨_, rfl⟩
        obtain ⟨w4, hw4⟩ : ∃ W, W = w3.alloc (.cells (rcA lsn prev txn kind page next nu ok os oo on how root ek ep es (.slice A ts.length c) (.slice B ds.length d)) 42) := ⟨_, rfl⟩
        rw [← hge] at HX ⊢
        rw [← hw4] at HX HRR HB4 HZ4 HNA ⊢
        clear hge hw4 hgw
        go_wp2_with (first | (with_reducible refine listLoad (by kernel_rfl) 42 (.tmp 10) rfl g rfl (rcA lsn prev txn kind page next nu ok os oo on how root ek ep es (.slice A ts.length c) (.slice B ds.length d)) _ HXb.out _ Tryz.underlying42 (by kernel_rfl) (by kernel_rfl) ?_) | (with_reducible refine listLoad (by kernel_rfl) 42 (.tmp 10) rfl g rfl (rcA lsn prev txn kind page next nu ok os oo on how root ek ep es (.slice A ts.length c) (.slice B ds.length d)) _ HX.out _ Tryz.underlying42 (by kernel_rfl) (by kernel_rfl) ?_) | (go_at_call 38; (with_reducible refine (HRI.out _ _ _ _ _ HRR.out).mono ?_); rintro e w5 ⟨rfl, hb5⟩; have HXb := Lib.hid (blkOld HX.out hb5); have HRb := Lib.hid (HRR.out.below hb5); have HZ5 := Lib.hid (blkOld HZ4.out hb5); have HB5 := Lib.hid (joinB HB4.out hb5); clear hb5) | (go_at_call 39; (with_reducible refine (HBO.out _ _ _ _ _ HRb.out).mono ?_); rintro e w6 ⟨rfl, hb6⟩; have HZ6 := blkOld HZ5.out hb6; have HB6 := joinB HB5.out hb6) | (with_reducible refine listStore (by kernel_rfl) 42 (.tmp 4) (.tmp 67) rfl w.heap.size (rcA 0 0 0 0 0 0 0 0 0 ⟨#[]⟩ ⟨#[]⟩ 0 0 ⟨#[]⟩ 0 0 (.slice none 0 0) (.slice none 0 0)) _ _ rfl rfl HZ6 (by kernel_rfl) (by kernel_rfl) (by kernel_rfl) ?_))
        refine bodyPost_ret (v := .tuple #[.agg (rcA 0 0 0 0 0 0 0 0 0 ⟨#[]⟩ ⟨#[]⟩ 0 0 ⟨#[]⟩ 0 0 (.slice none 0 0) (.slice none 0 0)), .int .i64 0, .int .i64 2]) (results_cell3 rfl _ _ rfl (load_whole (setRow_heap _ _ _ _ _ _ HZ6) Tryz.underlying42 (by kernel_rfl) (by kernel_rfl)) rfl rfl) rfl ?_
        exact get_none HN.out (below_row HB6 _) 2 (by omega)
  · have HN := Lib.hid (HNO hs)
    rw [if_neg hs] at HO
    clear HNO HNW HNX HYE HIS hs HREC HZL
    generalize Lg.getO s.data.toList a = o at HN ⊢
    go_enter Tryz.func33, Tryz.ntmps33
    go_upto_region 4 with fail
    rw [← HXE.out]
    go_upto_region 7 with (first | (go_at_call 57; refine (HG.out _).mono ?_; rintro e w1 ⟨rfl, hb1⟩; have HZ1 := Lib.hid (blkNew hb1); have HB1 := Lib.hid (joinB (allocB _ _) hb1)))
    have hye := HYEE.out
    clear hb1
    go_wp2_with (first | (go_at_call 58; rw [← hye]; refine (HO.out _).mono ?_; rintro e w2 ⟨rfl, hb2⟩; have HZ2 := blkOld HZ1.out hb2; have HB2 := joinB HB1.out hb2) | (with_reducible refine listStore (by kernel_rfl) 42 (.tmp 4) (.tmp 53) rfl w.heap.size (rcA 0 0 0 0 0 0 0 0 0 ⟨#[]⟩ ⟨#[]⟩ 0 0 ⟨#[]⟩ 0 0 (.slice none 0 0) (.slice none 0 0)) _ _ rfl rfl HZ2 (by kernel_rfl) (by kernel_rfl) (by kernel_rfl) ?_))
    refine bodyPost_ret (v := .tuple #[.agg (rcA 0 0 0 0 0 0 0 0 0 ⟨#[]⟩ ⟨#[]⟩ 0 0 ⟨#[]⟩ 0 0 (.slice none 0 0) (.slice none 0 0)), .int .i64 0, .int .i64 19]) (results_cell3 rfl _ _ rfl (load_whole (setRow_heap _ _ _ _ _ _ HZ2) Tryz.underlying42 (by kernel_rfl) (by kernel_rfl)) rfl rfl) rfl ?_
    exact get_none HN.out (below_row HB2 _) 19 (by omega)
theorem get_rec (s : ByteArray) (a : Nat) (hm : s.size ≤ 1000000) (w : World) :
    Calls Tryz.prog 33 #[.string s, .int .i64 (a : Int)] w (GetOut (Lg.getO s.data.toList a) w) := by
  have hl : s.data.toList.length = s.size := by simp
  by_cases h1 : s.size < a
  · exact get_far s a hm (.inr (by omega)) _ (Lg.getO_short (.inl (by omega))) w
  by_cases h2 : s.size < a + 4
  · exact get_short4 s a hm (by omega) h2 _ (Lg.getO_short (.inl (by omega))) w
  by_cases h3 : s.size < a + 8 ∨ s.size < a + 8 + Oct.getN s.data.toList a 4
  · exact get_short8 s a _ hm (by omega) rfl h3 _ (Lg.getO_short (by rw [hl]; exact h3)) w
  · exact get_long s a _ hm rfl (by omega) w
end Go.Proofs.YtojaagnfjenhoaaGreat
/- The walks over package log: sectors. -/
namespace Lg
/-- What has been read of some sectors. -/
structure Acc (d : Dk) (f : Int) (N k : Nat) (l : List UInt8) : Prop where
  le : k ≤ N
  eq : secsD d f N = match secsD d (f + (k : Int)) (N - k) with
    | .ok r => .ok (l ++ r)
    | .error e => .error e
theorem Acc.zero (d : Dk) (f : Int) (N : Nat) : Acc d f N 0 [] := ⟨Nat.zero_le _, by
  simp only [Nat.sub_zero, List.nil_append]
  rw [show f + ((0 : Nat) : Int) = f by omega]
  cases secsD d f N <;> rfl⟩
theorem Acc.next {d : Dk} {f : Int} {N k : Nat} {l : List UInt8} (h : Acc d f N k l) (hk : k < N) (h0 : (readD d (f + (k : Int))).2 = 0) : Acc d f N (k + 1) (l ++ (readD d (f + (k : Int))).1.data.toList) := by
  refine ⟨hk, ?_⟩
  rw [h.eq, show N - k = (N - (k + 1)) + 1 by omega]
  rw [show f + ((k + 1 : Nat) : Int) = f + (k : Int) + 1 by omega]
  conv => lhs; unfold secsD
  rw [if_pos h0]
  cases secsD d (f + (k : Int) + 1) (N - (k + 1)) with
  | ok r => simp only [List.append_assoc]
  | error e => rfl
theorem Acc.fault {d : Dk} {f : Int} {N k : Nat} {l : List UInt8} (h : Acc d f N k l) (hk : k < N) (h0 : (readD d (f + (k : Int))).2 ≠ 0) : secsD d f N = .error (readD d (f + (k : Int))).2 := by
  rw [h.eq, show N - k = (N - (k + 1)) + 1 by omega]
  conv => lhs; unfold secsD
  rw [if_neg h0]
theorem Acc.done {d : Dk} {f : Int} {N : Nat} {l : List UInt8} (h : Acc d f N N l) : secsD d f N = .ok l := by
  rw [h.eq, Nat.sub_self]
  unfold secsD
  simp
theorem readD_in {d : Dk} {a : Int} (h : (readD d a).2 = 0) : hasD d a ∧ (readD d a).1 = secAt d a := by
  unfold readD at h ⊢
  split at h
  · cases h
  · split at h
    · rename_i h1 h2
      rw [if_neg h1, if_pos h2]
      exact ⟨h2, rfl⟩
    · cases h
theorem secAt_size {d : Dk} {a : Int} (hw : ∀ b ∈ d.sectors, b.size ≤ 1000) : (secAt d a).size ≤ 1000 := by
  unfold secAt
  cases h : d.sectors[a.toNat]? with
  | none => show (0 : Nat) ≤ 1000; omega
  | some b => exact hw b (List.mem_of_getElem? h)
theorem secs_fault {d : Dk} : ∀ (n : Nat) {f k : Int}, secsD d f n = .error k → k ≠ 0 := by
  intro n
  induction n with
  | zero => intro f k h; cases h
  | succ n ih =>
    intro f k h
    unfold secsD at h
    split at h
    · cases h2 : secsD d (f + 1) n with
      | ok l => rw [h2] at h; cases h
      | error e => rw [h2] at h; injection h with h; subst h; exact ih h2
    · rename_i h1; injection h with h; rw [← h]; exact h1
end Lg
namespace Go.Proofs.YtojaagnfjenhoaaGreat
open Go.RowKit
def secV : Except Int (List UInt8) → Value
  | .ok l => .tuple #[.string ⟨l.toArray⟩, .int .i64 0]
  | .error k => .tuple #[.string ⟨#[]⟩, .int .i64 k]
/-- What sectors answers. -/
def SecOut (r : Except Int (List UInt8)) (w : World) (e : Ending) (w' : World) : Prop := Below w.heap.size w w' ∧ e = .returned (secV r)
set_option maxRecDepth 100000 in
set_option maxHeartbeats 4000000 in
theorem sectors_any (d : Lg.Dk) (hw : ∀ b ∈ d.sectors, b.size ≤ 1000) (A : Option Addr) (c : Nat) (f n : Int) (hf1 : -9223372036854775808 ≤ f) (hf2 : f ≤ 9223372036854775807) (hn : n ≤ 100000) (w : World) (h : DiskR w d A c) :
    Calls Tryz.prog 32 #[diskV d A c, .int .i64 f, .int .i64 n] w (SecOut (Lg.secsD d f n.toNat) w) := by
  have HR := Lib.hid (fun a W (hb : Below w.heap.size w W) => dread_any d A c a W (h.below hb))
  have hsm := h.small
  obtain ⟨N, hN⟩ : ∃ N, N = n.toNat := ⟨_, rfl⟩
  rw [← hN]
  have hmax : max n 0 = (N : Int) := by omega
  have hN2 : N ≤ 100000 := by omega
  have HF := Lib.hid (fun r (hr : Lg.secsD d f N = r) w' (hb : Below w.heap.size w w') => show SecOut (Lg.secsD d f N) w (.returned (secV r)) w' from ⟨hb, by rw [hr]⟩)
  have HA := Lib.hid (Lg.Acc.zero d f N)
  have HW := Lib.hid hw
  generalize SecOut (Lg.secsD d f N) w = Q at HF ⊢
  have HS := Lib.hid (show (d.sectors.length : Int) ≤ 1000000 by omega)
  clear h hN hw hsm
  go_enter Tryz.func32, Tryz.ntmps32
  go_upto_region 2 with fail
  have hd0 := new21 w (.cells #[.slice A d.sectors.length c, .int .i64 d.left, .bool d.down] 26) (.cells #[.pointer none, .slice none 0 0] 85)
  have hb0 := new2 w (.cells #[.slice A d.sectors.length c, .int .i64 d.left, .bool d.down] 26) (.cells #[.pointer none, .slice none 0 0] 85)
  have hw0 : Below w.heap.size w ((w.alloc (.cells #[.slice A d.sectors.length c, .int .i64 d.left, .bool d.down] 26)).alloc (.cells #[.pointer none, .slice none 0 0] 85)) := pastAlloc (allocB _ _)
  obtain ⟨W0, hW0⟩ : ∃ W, W = ((w.alloc (.cells #[.slice A d.sectors.length c, .int .i64 d.left, .bool d.down] 26)).alloc (.cells #[.pointer none, .slice none 0 0] 85)) := ⟨_, rfl⟩
  rw [← hW0] at hd0 hb0 hw0 ⊢
  have HD0 := Lib.hid hd0
  have HB0 := Lib.hid hb0
  have HW0 := Lib.hid hw0
  clear hd0 hb0 hw0 hW0
  go_wp2_with fail
  go_loopw [14] (fun i wr => ∃ (k : Nat) (l : List UInt8), i = .int .i64 (k : Int) ∧ Lg.Acc d f N k l ∧ l.length ≤ k * 1000 ∧ (0 < k → 0 ≤ f ∧ f + (k : Int) ≤ 1000000) ∧ Bld (w.heap.size + 2) wr.heap.size (w.heap.size + 1) l wr ∧ KeptB (w.heap.size + 2) (w.heap.size + 1) W0 wr) (fun i _ => N - (intOf i).toNat)
  case atStart => exact ⟨0, [], rfl, HA.out, Nat.le_refl _, fun h => absurd h (by omega), Bld.fresh _ _ _ _ (by omega) HB0.out, KeptB.refl _ _ _⟩
  case round =>
    obtain ⟨k, l, rfl, hacc, hll, hfk, hbld, hkept⟩ := hrel
    have HAC := Lib.hid hacc
    have HBL := Lib.hid hbld
    have HK := Lib.hid hkept
    have HFK := Lib.hid hfk
    have hsz0 := heapLt HB0.out
    have hws : W0.heap.size ≤ wr.heap.size := hkept.size
    have hkN := hacc.le
    have hbw : Below w.heap.size w wr := HW0.out.trans (HK.out.below (by omega) (by omega))
    have HBW := Lib.hid hbw
    clear hacc hbld hkept hbw hfk
    by_cases hlt : k < N
    · have hwr : IntKind.i64.wrap (f + (k : Int)) = f + (k : Int) := by
        refine IntWalk.i64_in _ ?_
        rcases Nat.eq_zero_or_pos k with h0 | h0
        · subst h0; simp; omega
        · have := HFK.out h0; omega
      have HDB := Lib.hid (show wr.heap[w.heap.size]? = some (.cells #[.slice A d.sectors.length c, .int .i64 d.left, .bool d.down] 26 (0, 0)) from (HK.out.block _ (by omega) (by omega)).trans HD0.out)
      have hRD := HR.out (f + (k : Int)) wr HBW.out
      have HACE := Lib.hid (fun h => HAC.out.fault hlt h)
      have HACN := Lib.hid (fun h => HAC.out.next hlt h)
      have HINK := Lib.hid (@Lg.readD_in d (f + (k : Int)))
      have HSZ := Lib.hid (@Lg.secAt_size d (f + (k : Int)) HW.out)
      generalize Lg.readD d (f + (k : Int)) = rd at hRD HACE HACN HINK
      obtain ⟨x, e⟩ := rd
      simp only at hRD HACE HACN HINK
      have HRD := Lib.hid hRD
      clear hRD HAC
      by_cases he : e = 0
      · subst he
        have HACN2 := Lib.hid (HACN.out rfl)
        have hin := HINK.out rfl
        have hxs : x.size ≤ 1000 := by rw [hin.2]; exact HSZ.out
        have hfk2 : 0 ≤ f ∧ f + ((k + 1 : Nat) : Int) ≤ 1000000 := by
          have h1 := hin.1.1
          have h2 := hin.1.2
          have h3 := HS.out
          refine ⟨?_, by omega⟩
          rcases Nat.eq_zero_or_pos k with h0 | h0
          · subst h0; simpa using h1
          · exact (HFK.out h0).1
        have HFK2 := Lib.hid hfk2
        have hlx : l.length + x.size ≤ 140737488355328 := by omega
        have hl2 : (l ++ x.data.toList).length ≤ (k + 1) * 1000 := by rw [List.length_append]; simp; omega
        have HL2 := Lib.hid hl2
        clear hin hfk2 hl2 HACN HACE HINK HSZ HFK
        dsimp only [diskV] at HRD
        go_wp2_with (first
          | (with_reducible refine listLoad (by kernel_rfl) 26 (.tmp 3) rfl w.heap.size rfl #[.slice A d.sectors.length c, .int .i64 d.left, .bool d.down] _ HDB.out _ Tryz.underlying26 (by kernel_rfl) (by kernel_rfl) ?_)
          | (go_at_call 56; (with_reducible refine HRD.out.mono ?_); rintro e w1 ⟨rfl, hb1⟩; have HB1 := Lib.hid (HBL.out.below hb1); have HK1 := Lib.hid (HK.out.trans (KeptB.of_below (by omega) hb1)); have hs1 := hb1.size; clear hb1)
          | (go_at_call 49; (with_reducible refine (write_any _ _ _ _ _ _ HB1.out hlx (by omega)).mono ?_); rintro e w2 ⟨rfl, hbld2, hk2⟩; have HB2 := Lib.hid hbld2; have HK2 := Lib.hid (HK1.out.trans hk2); clear hbld2 hk2))
        go_roundw
        case rel => exact ⟨k + 1, l ++ x.data.toList, by go_num, HACN2.out, HL2.out, fun _ => HFK2.out, HB2.out, HK2.out⟩
        case measure => simp [intOf]; omega
      · have HACE2 := Lib.hid (HACE.out he)
        have he1 : (e == 0) = false := by simpa using he
        have he2 : (e != 0) = true := by simpa using he
        clear he HACN HACE HINK HSZ HFK
        dsimp only [diskV] at HRD
        go_wp2_with (first
          | (with_reducible refine listLoad (by kernel_rfl) 26 (.tmp 3) rfl w.heap.size rfl #[.slice A d.sectors.length c, .int .i64 d.left, .bool d.down] _ HDB.out _ Tryz.underlying26 (by kernel_rfl) (by kernel_rfl) ?_)
          | (go_at_call 56; (with_reducible refine HRD.out.mono ?_); rintro e w1 ⟨rfl, hb1⟩))
        exact HF.out _ HACE2.out _ (joinB HBW.out hb1)
    · obtain rfl : k = N := by omega
      have HDN := Lib.hid HAC.out.done
      go_wp2_with ((go_at_call 51; (with_reducible refine (string_any _ _ _ _ _ HBL.out).mono ?_); rintro e w2 ⟨rfl, hk2⟩))
      exact HF.out _ HDN.out _ (HBW.out.trans (hk2.below (by omega) HBW.out.size))
end Go.Proofs.YtojaagnfjenhoaaGreat
/- The walk over package rec: Put. -/
namespace Go.Proofs.YtojaagnfjenhoaaGreat
open Go.RowKit
theorem putW (n : Nat) (h : n < 18446744073709551616) (size : Nat) (h8 : size ≤ 8) : (Oct.putB (n : Int) size).data.toList = Oct.putL n size := by
  rw [Oct.putB_list _ _ h8]
  congr 1
  unfold Oct.word
  omega
set_option maxRecDepth 100000 in
theorem seal_any (s : ByteArray) (hs : s.size ≤ 1000000) (w : World) :
    Calls Tryz.prog 41 #[.string s] w fun e w' => ∃ x : ByteArray, e = .returned (.string x) ∧ x.data.toList = Oct.putL (Oct.sumN s.data.toList) 4 ++ s.data.toList ∧ Below w.heap.size w w' := by
  have HS := Lib.hid (fun W => sum_any s (by omega) W)
  have hlt : Oct.sumN s.data.toList < 18446744073709551616 := by have := Oct.sumN_lt s.data.toList; omega
  have hfin0 : (Oct.putB ((Oct.sumN s.data.toList : Nat) : Int) 4).data.toList = Oct.putL (Oct.sumN s.data.toList) 4 := putW _ hlt 4 (by omega)
  generalize Oct.sumN s.data.toList = n at HS hfin0 ⊢
  have HP := Lib.hid (fun W => put_any (n : Int) 4 (by omega) (by omega) W)
  have hsz : (Oct.putB (n : Int) 4).size = 4 := Oct.putB_size _ 4 (by omega)
  have hsum : (Oct.putB (n : Int) 4).size + s.size ≤ 281474976710656 := by omega
  have hfin : (Oct.putB (n : Int) 4 ++ s).data.toList = Oct.putL n 4 ++ s.data.toList := by
    rw [ByteArray.data_append, Array.toList_append, hfin0]
  clear hlt hfin0
  generalize Oct.putB (n : Int) 4 = x at HP hsz hsum hfin
  go_enter Tryz.func41, Tryz.ntmps41
  go_wp2_with (first | (go_at_call 76; refine (HS.out _).mono ?_; rintro e w1 ⟨rfl, rfl⟩) | (go_at_call 40; refine (HP.out _).mono ?_; rintro e w2 ⟨rfl, hb2⟩))
  go_ret
  exact ⟨_, rfl, hfin, hb2⟩
/-- What Put answers. -/
def PutOut (r : Rc.Rec) (w : World) (e : Ending) (w' : World) : Prop :=
  (∃ x : ByteArray, Rc.Right r ∧ e = .returned (.tuple #[.string x, .int .i64 0]) ∧ x.data.toList = Lg.putR r ∨ ¬ Rc.Right r ∧ e = .returned (.tuple #[.string ⟨#[]⟩, .int .i64 1])) ∧ Below w.heap.size w w'
set_option maxRecDepth 100000 in
set_option maxHeartbeats 2000000 in
theorem recput_any (r : Rc.Rec) (A D : Option Addr) (c d : Nat) (w : World) (hr : RecR w r A c D d) :
    Calls Tryz.prog 22 #[recV r (.slice A r.txns.length c) (.slice D r.dirty.length d)] w (PutOut r w) := by
  have HR := Lib.hid (fun W (h : Below w.heap.size w W) => cright_rec r A D c d W (hr.below h))
  have HA := Lib.hid (heap_alloc_new w (.cells (recA r (.slice A r.txns.length c) (.slice D r.dirty.length d)) 42))
  cases hb : Rc.rightB r with
  | false =>
    rw [hb] at HR
    have hno : ¬ Rc.Right r := fun h => by rw [Rc.rightB_yes h] at hb; cases hb
    have HO := Lib.hid (fun w' (h : Below w.heap.size w w') => show PutOut r w (.returned (.tuple #[.string ⟨#[]⟩, .int .i64 1])) w' from ⟨⟨⟨#[]⟩, .inr ⟨hno, rfl⟩⟩, h⟩)
    clear hno hb hr
    generalize PutOut r w = Q at HO ⊢
    obtain ⟨lsn, prev, txn, kind, page, next, nu, ⟨ok, os, oo, on⟩, how, root, ⟨ek, ep, es⟩, ts, ds⟩ := r
    dsimp only [recV, recA] at HR HA ⊢
    go_enter Tryz.func22, Tryz.ntmps22
    go_wp2_with (first
      | (with_reducible refine listLoad (by kernel_rfl) 42 (.tmp 1) rfl w.heap.size rfl (rcA lsn prev txn kind page next nu ok os oo on how root ek ep es (.slice A ts.length c) (.slice D ds.length d)) _ HA.out _ Tryz.underlying42 (by kernel_rfl) (by kernel_rfl) ?_)
      | (go_at_call 38; (with_reducible refine (HR.out _ (allocB _ _)).mono ?_); rintro e w1 ⟨rfl, hb1⟩))
    exact HO.out _ (joinB (allocB _ _) hb1)
  | true =>
    rw [hb] at HR
    have hx : Rc.Right r := Rc.rightB_iff.1 hb
    have HB := Lib.hid (fun W (h : Below w.heap.size w W) => body_any r hx A D c d W (hr.below h))
    obtain ⟨y, hy⟩ : ∃ y : ByteArray, y = ⟨(Rc.bodyB r).toArray⟩ := ⟨_, rfl⟩
    rw [← hy] at HB
    have hyl : y.data.toList = Rc.bodyB r := by rw [hy]
    have hlen := Rc.bodyB_len hx
    have hys : y.size = (Rc.bodyB r).length := by rw [← hyl]; simp
    have hsz : y.size ≤ 1000000 := by omega
    have HS := Lib.hid (fun W => seal_any y hsz W)
    have HP := Lib.hid (fun W => put_any (y.size : Int) 4 (by omega) (by omega) W)
    have hpl : (Oct.putB (y.size : Int) 4).data.toList = Oct.putL y.size 4 := putW _ (by omega) 4 (by omega)
    have hpz : (Oct.putB (y.size : Int) 4).size = 4 := Oct.putB_size _ 4 (by omega)
    generalize Oct.putB (y.size : Int) 4 = z at HP hpl hpz
    have HO := Lib.hid (fun w' (x : ByteArray) (hxx : x.data.toList = Oct.putL (Oct.sumN y.data.toList) 4 ++ y.data.toList) (h : Below w.heap.size w w') => show PutOut r w (.returned (.tuple #[.string (z ++ x), .int .i64 0])) w' from ⟨⟨z ++ x, .inl ⟨hx, rfl, by rw [ByteArray.data_append, Array.toList_append, hpl, hxx, hyl, hys]; rfl⟩⟩, h⟩)
    have HX := Lib.hid (fun (x : ByteArray) (hxx : x.data.toList = Oct.putL (Oct.sumN y.data.toList) 4 ++ y.data.toList) => show x.size ≤ 1000004 from by
      have e : x.size = x.data.toList.length := by simp
      rw [e, hxx, List.length_append, Oct.putL_length]
      have e2 : y.data.toList.length = y.size := by simp
      omega)
    clear hx hb hr hy hyl hlen hys hpl
    generalize PutOut r w = Q at HO ⊢
    obtain ⟨lsn, prev, txn, kind, page, next, nu, ⟨ok, os, oo, on⟩, how, root, ⟨ek, ep, es⟩, ts, ds⟩ := r
    dsimp only [recV, recA] at HR HA HB ⊢
    go_enter Tryz.func22, Tryz.ntmps22
    go_upto_region 3 with (first
      | (with_reducible refine listLoad (by kernel_rfl) 42 (.tmp 1) rfl w.heap.size rfl (rcA lsn prev txn kind page next nu ok os oo on how root ek ep es (.slice A ts.length c) (.slice D ds.length d)) _ HA.out _ Tryz.underlying42 (by kernel_rfl) (by kernel_rfl) ?_)
      | (go_at_call 38; (with_reducible refine (HR.out _ (allocB _ _)).mono ?_); rintro e w1 ⟨rfl, hb1⟩))
    have HA1 := Lib.hid (blkOld HA.out hb1)
    have HB1 := Lib.hid (joinB (allocB w _) hb1)
    clear hb1 HA HR
    go_upto_region 4 with (first
      | (with_reducible refine listLoad (by kernel_rfl) 42 (.tmp 1) rfl w.heap.size rfl (rcA lsn prev txn kind page next nu ok os oo on how root ek ep es (.slice A ts.length c) (.slice D ds.length d)) _ HA1.out _ Tryz.underlying42 (by kernel_rfl) (by kernel_rfl) ?_)
      | (go_at_call 39; (with_reducible refine (HB.out _ HB1.out).mono ?_); rintro e w2 ⟨rfl, hb2⟩))
    have HB2 := Lib.hid (joinB HB1.out hb2)
    clear hb2 HB1 HA1 HB
    go_wp2_with (first | (go_at_call 40; refine (HP.out _).mono ?_; rintro e w3 ⟨rfl, hb3⟩) | (go_at_call 41; refine (HS.out _).mono ?_; rintro e w4 ⟨x, rfl, hxx, hb4⟩; have hxs := HX.out x hxx; have hsum : z.size + x.size ≤ 281474976710656 := (by omega)))
    exact HO.out _ x hxx (joinB (joinB HB2.out hb3) hb4)
end Go.Proofs.YtojaagnfjenhoaaGreat
/- The walk over package log: Append. -/
namespace Lg
theorem append_wrong {l : Lo} {r : Rc.Rec} (h : ¬ Rc.Right { r with lsn := l.end_ + 1 }) : appendD l r = (l, 0, 1) := by
  unfold appendD
  simp only
  rw [if_pos h]
theorem append_full {l : Lo} {r : Rc.Rec} (h : Rc.Right { r with lsn := l.end_ + 1 }) (h2 : l.n * 128 - ((putR { r with lsn := l.end_ + 1 }).length : Int) < l.end_) : appendD l r = (l, 0, 18) := by
  unfold appendD
  simp only
  rw [if_neg (fun hn => hn h), if_pos h2]
theorem append_ok {l : Lo} {r : Rc.Rec} (h : Rc.Right { r with lsn := l.end_ + 1 }) (h2 : ¬ l.n * 128 - ((putR { r with lsn := l.end_ + 1 }).length : Int) < l.end_) : appendD l r = ({ l with end_ := l.end_ + ((putR { r with lsn := l.end_ + 1 }).length : Int), tail := l.tail ++ ⟨(putR { r with lsn := l.end_ + 1 }).toArray⟩ }, l.end_ + 1, 0) := by
  unfold appendD
  simp only
  rw [if_neg (fun hn => hn h), if_neg h2]
end Lg
namespace Go.Proofs.YtojaagnfjenhoaaGreat
open Go.RowKit
theorem recput_yes (r : Rc.Rec) (hR : Rc.Right r) (A D : Option Addr) (c d : Nat) (w : World) (hr : RecR w r A c D d) :
    Calls Tryz.prog 22 #[recV r (.slice A r.txns.length c) (.slice D r.dirty.length d)] w fun e w' => e = .returned (.tuple #[.string ⟨(Lg.putR r).toArray⟩, .int .i64 0]) ∧ Below w.heap.size w w' := by
  refine (recput_any r A D c d w hr).mono ?_
  rintro e w' ⟨⟨x, h⟩, hb⟩
  rcases h with ⟨_, rfl, hx⟩ | ⟨h, _⟩
  · exact ⟨by rw [← hx], hb⟩
  · exact absurd hR h
theorem recput_no (r : Rc.Rec) (hR : ¬ Rc.Right r) (A D : Option Addr) (c d : Nat) (w : World) (hr : RecR w r A c D d) :
    Calls Tryz.prog 22 #[recV r (.slice A r.txns.length c) (.slice D r.dirty.length d)] w fun e w' => e = .returned (.tuple #[.string ⟨#[]⟩, .int .i64 1]) ∧ Below w.heap.size w w' := by
  refine (recput_any r A D c d w hr).mono ?_
  rintro e w' ⟨⟨x, h⟩, hb⟩
  rcases h with ⟨h, _⟩ | ⟨_, rfl⟩
  · exact absurd h hR
  · exact ⟨rfl, hb⟩
/-- What Append answers. -/
def AppOut (x : Lg.Lo × Int × Int) (w : World) (e : Ending) (w' : World) : Prop := e = .returned (.tuple #[logV x.1, .int .i64 x.2.1, .int .i64 x.2.2]) ∧ Below w.heap.size w w'
set_option maxRecDepth 100000 in
set_option maxHeartbeats 4000000 in
theorem append_any (l : Lg.Lo) (he0 : 0 ≤ l.end_) (he1 : l.end_ ≤ 1000000000) (hn0 : -1000000000 ≤ l.n) (hn1 : l.n ≤ 1000000000) (ht : l.tail.size ≤ 1000000000) (r : Rc.Rec) (A D : Option Addr) (c d : Nat) (w : World) (hr : RecR w r A c D d) :
    Calls Tryz.prog 8 #[logV l, recV r (.slice A r.txns.length c) (.slice D r.dirty.length d)] w (AppOut (Lg.appendD l r) w) := by
  have HPY := Lib.hid (fun hR W (hb : Below w.heap.size w W) => recput_yes { r with lsn := l.end_ + 1 } hR A D c d W ⟨hr.txns.below hb, hr.dirty.below hb, hr.small⟩)
  have HPN := Lib.hid (fun hR W (hb : Below w.heap.size w W) => recput_no { r with lsn := l.end_ + 1 } hR A D c d W ⟨hr.txns.below hb, hr.dirty.below hb, hr.small⟩)
  have HN := Lib.hid (@Lg.append_wrong l r)
  have HFU := Lib.hid (@Lg.append_full l r)
  have HOK := Lib.hid (@Lg.append_ok l r)
  generalize Lg.appendD l r = o at HN HFU HOK ⊢
  clear hr
  obtain ⟨fr, n, en, sf, tl⟩ := l
  obtain ⟨lsn, prev, txn, kind, page, next, nu, ⟨ok, os, oo, on⟩, how, root, ⟨ek, ep, es⟩, ts, ds⟩ := r
  dsimp only [recV, recA, logV] at HPY HPN HN HFU HOK he0 he1 hn0 hn1 ht ⊢
  have hw1 : IntKind.i64.wrap (en + 1) = en + 1 := IntWalk.i64_in _ (by omega)
  by_cases hR : Rc.Right ⟨en + 1, prev, txn, kind, page, next, nu, ⟨ok, os, oo, on⟩, how, root, ⟨ek, ep, es⟩, ts, ds⟩
  · have HP := Lib.hid (HPY.out hR)
    have HFU2 := Lib.hid (HFU.out hR)
    have HOK2 := Lib.hid (HOK.out hR)
    have hpl0 : (Lg.putR ⟨en + 1, prev, txn, kind, page, next, nu, ⟨ok, os, oo, on⟩, how, root, ⟨ek, ep, es⟩, ts, ds⟩).length ≤ 40008 := by rw [Lg.putR_len]; have := (Rc.bodyB_len hR).2; omega
    obtain ⟨x, hx⟩ : ∃ x : ByteArray, x = ⟨(Lg.putR ⟨en + 1, prev, txn, kind, page, next, nu, ⟨ok, os, oo, on⟩, how, root, ⟨ek, ep, es⟩, ts, ds⟩).toArray⟩ := ⟨_, rfl⟩
    have hxs : (Lg.putR ⟨en + 1, prev, txn, kind, page, next, nu, ⟨ok, os, oo, on⟩, how, root, ⟨ek, ep, es⟩, ts, ds⟩).length = x.size := by rw [hx]; show _ = ((Lg.putR ⟨en + 1, prev, txn, kind, page, next, nu, ⟨ok, os, oo, on⟩, how, root, ⟨ek, ep, es⟩, ts, ds⟩).toArray).size; simp
    rw [hxs] at HFU2 HOK2 hpl0
    rw [← hx] at HP HOK2
    have hpl := hpl0
    clear HPY HPN HN HFU HOK hR hx hxs hpl0
    go_enter Tryz.func8, Tryz.ntmps8
    go_upto_region 1 with fail
    have H0 := Lib.hid (show BxL w.heap.size w [(#[.int .i64 fr, .int .i64 n, .int .i64 en, .int .i64 sf, .string tl], 31), ((rcA lsn prev txn kind page next nu ok os oo on how root ek ep es (.slice A ts.length c) (.slice D ds.length d)), 42), (#[.int .i64 0, .int .i64 0, .int .i64 0, .int .i64 0, .string ⟨#[]⟩], 31)] (((w.alloc (.cells #[.int .i64 fr, .int .i64 n, .int .i64 en, .int .i64 sf, .string tl] 31)).alloc (.cells (rcA lsn prev txn kind page next nu ok os oo on how root ek ep es (.slice A ts.length c) (.slice D ds.length d)) 42)).alloc (.cells #[.int .i64 0, .int .i64 0, .int .i64 0, .int .i64 0, .string ⟨#[]⟩] 31)) from (((BxL.nil (Below.refl w.heap.size w)).new (by simp) #[.int .i64 fr, .int .i64 n, .int .i64 en, .int .i64 sf, .string tl] 31).new (by simp) (rcA lsn prev txn kind page next nu ok os oo on how root ek ep es (.slice A ts.length c) (.slice D ds.length d)) 42).new (by simp) #[.int .i64 0, .int .i64 0, .int .i64 0, .int .i64 0, .string ⟨#[]⟩] 31)
    obtain ⟨W0, hW0⟩ : ∃ W, W = (((w.alloc (.cells #[.int .i64 fr, .int .i64 n, .int .i64 en, .int .i64 sf, .string tl] 31)).alloc (.cells (rcA lsn prev txn kind page next nu ok os oo on how root ek ep es (.slice A ts.length c) (.slice D ds.length d)) 42)).alloc (.cells #[.int .i64 0, .int .i64 0, .int .i64 0, .int .i64 0, .string ⟨#[]⟩] 31)) := ⟨_, rfl⟩
    have hs0 : W0.heap.size = w.heap.size + 3 := by rw [hW0]; simp
    rw [← hW0] at H0 ⊢
    have hc0 := blkCell (H0.out.get 0 _ rfl)
    have hc1 := blkCell (H0.out.get 1 _ rfl)
    have hz1 := blkFrozen (H0.out.get 1 _ rfl)
    simp only [Nat.add_zero] at hc0
    clear hW0
    go_upto_region 2 with fail
    have H1 := Lib.hid (show BxL w.heap.size w [(#[.int .i64 fr, .int .i64 n, .int .i64 en, .int .i64 sf, .string tl], 31), ((rcA (en + 1) prev txn kind page next nu ok os oo on how root ek ep es (.slice A ts.length c) (.slice D ds.length d)), 42), (#[.int .i64 0, .int .i64 0, .int .i64 0, .int .i64 0, .string ⟨#[]⟩], 31)] (W0.setCell ⟨w.heap.size + 1, 0, none⟩ (.int .i64 (en + 1))) from by have h := H0.out.set 1 0 (.int .i64 (en + 1)) _ rfl; simpa using h)
    obtain ⟨W1, hW1⟩ : ∃ W, W = W0.setCell ⟨w.heap.size + 1, 0, none⟩ (.int .i64 (en + 1)) := ⟨_, rfl⟩
    rw [← hW1] at H1 ⊢
    clear hW1 hc0 hc1 hz1 H0 hs0
    have HX1 := Lib.hid (H1.out.get 1 _ rfl)
    go_upto_region 3 with (first
      | (with_reducible refine listLoad (by kernel_rfl) 42 (.tmp 3) rfl (w.heap.size + 1) rfl (rcA (en + 1) prev txn kind page next nu ok os oo on how root ek ep es (.slice A ts.length c) (.slice D ds.length d)) _ HX1.out _ Tryz.underlying42 (by kernel_rfl) (by kernel_rfl) ?_)
      | (go_at_call 22; (with_reducible refine (HP.out _ H1.out.below).mono ?_); rintro e w2 ⟨rfl, hb2⟩))
    have H2 := Lib.hid (H1.out.step hb2)
    clear hb2 H1 HX1 HP
    have hm : IntKind.i64.wrap (n * 128) = n * 128 := IntWalk.i64_in _ (by omega)
    have hm2 : IntKind.i64.wrap (n * 128 - (x.size : Int)) = n * 128 - (x.size : Int) := IntWalk.i64_in _ (by omega)
    have hm3 : IntKind.i64.wrap (en + (x.size : Int)) = en + (x.size : Int) := IntWalk.i64_in _ (by omega)
    by_cases hfull : n * 128 - (x.size : Int) < en
    · have HO := Lib.hid (HFU2.out hfull)
      have HX2 := Lib.hid (show w2.heap[w.heap.size]? = some (.cells #[.int .i64 fr, .int .i64 n, .int .i64 en, .int .i64 sf, .string tl] 31 (0, 0)) from by have h := H2.out.get 0 _ rfl; simpa using h)
      have hc2 := blkCell HX2.out
      clear HFU2 HOK2
      go_wp2_with (first
        | (with_reducible refine listLoad (by kernel_rfl) 31 (.tmp 2) rfl w.heap.size rfl #[.int .i64 fr, .int .i64 n, .int .i64 en, .int .i64 sf, .string tl] _ HX2.out _ Tryz.underlying31 (by kernel_rfl) (by kernel_rfl) ?_)
        | (with_reducible refine listStore (by kernel_rfl) 31 (.tmp 4) (.tmp 31) rfl (w.heap.size + 2) #[.int .i64 fr, .int .i64 n, .int .i64 en, .int .i64 sf, .string tl] _ _ rfl rfl (H2.out.get 2 _ rfl) (by kernel_rfl) (by kernel_rfl) (by kernel_rfl) ?_))
      refine bodyPost_ret (v := .tuple #[.agg #[.int .i64 fr, .int .i64 n, .int .i64 en, .int .i64 sf, .string tl], .int .i64 0, .int .i64 18]) (results_cell3 rfl _ _ rfl (load_whole (setRow_heap _ _ _ _ _ _ (H2.out.get 2 _ rfl)) Tryz.underlying31 (by kernel_rfl) (by kernel_rfl)) rfl rfl) rfl ?_
      rw [HO.out]
      exact ⟨rfl, (H2.out.row 2 _ _ rfl).below⟩
    · have HO := Lib.hid (HOK2.out (by omega))
      have hadd : ∀ W : World, (Op.stringOp .add tl x).run Tryz.prog W = .ok (.string (tl ++ x)) W := fun W => run_string_add_sum W _ _ (by omega)
      have HX2 := Lib.hid (show w2.heap[w.heap.size]? = some (.cells #[.int .i64 fr, .int .i64 n, .int .i64 en, .int .i64 sf, .string tl] 31 (0, 0)) from by have h := H2.out.get 0 _ rfl; simpa using h)
      have hc2 := blkCell HX2.out
      have hz2 := blkFrozen HX2.out
      clear HFU2 HOK2
      go_upto_region 8 with fail
      have H3 := Lib.hid (show BxL w.heap.size w [(#[.int .i64 fr, .int .i64 n, .int .i64 (en + (x.size : Int)), .int .i64 sf, .string tl], 31), ((rcA (en + 1) prev txn kind page next nu ok os oo on how root ek ep es (.slice A ts.length c) (.slice D ds.length d)), 42), (#[.int .i64 0, .int .i64 0, .int .i64 0, .int .i64 0, .string ⟨#[]⟩], 31)] (w2.setCell ⟨w.heap.size, 2, none⟩ (.int .i64 (en + (x.size : Int)))) from by have h := H2.out.set 0 2 (.int .i64 (en + (x.size : Int))) _ rfl; simpa using h)
      obtain ⟨W3, hW3⟩ : ∃ W, W = w2.setCell ⟨w.heap.size, 2, none⟩ (.int .i64 (en + (x.size : Int))) := ⟨_, rfl⟩
      rw [← hW3] at H3 ⊢
      clear hW3 hc2 hz2 HX2 H2
      have hc3 := blkCell (H3.out.get 0 _ rfl)
      have hz3 := blkFrozen (H3.out.get 0 _ rfl)
      simp only [Nat.add_zero] at hc3 hz3
      go_upto_region 9 with fail
      have H4 := Lib.hid (show BxL w.heap.size w [(#[.int .i64 fr, .int .i64 n, .int .i64 (en + (x.size : Int)), .int .i64 sf, .string (tl ++ x)], 31), ((rcA (en + 1) prev txn kind page next nu ok os oo on how root ek ep es (.slice A ts.length c) (.slice D ds.length d)), 42), (#[.int .i64 0, .int .i64 0, .int .i64 0, .int .i64 0, .string ⟨#[]⟩], 31)] (W3.setCell ⟨w.heap.size, 4, none⟩ (.string (tl ++ x))) from by have h := H3.out.set 0 4 (.string (tl ++ x)) _ rfl; simpa using h)
      obtain ⟨W4, hW4⟩ : ∃ W, W = W3.setCell ⟨w.heap.size, 4, none⟩ (.string (tl ++ x)) := ⟨_, rfl⟩
      rw [← hW4] at H4 ⊢
      clear hW4 hc3 hz3 H3 hadd
      have HD4 := Lib.hid H4.out.drew
      refine wp_region_held_drew (S := (fun u => u.heap[w.heap.size]? = some (.cells #[.int .i64 fr, .int .i64 n, .int .i64 (en + (x.size : Int)), .int .i64 sf, .string (tl ++ x)] 31 (0, 0)) ∧ u.heap[w.heap.size + 1]? = some (.cells (rcA (en + 1) prev txn kind page next nu ok os oo on how root ek ep es (.slice A ts.length c) (.slice D ds.length d)) 42 (0, 0)))) (by kernel_rfl) ?_ (fun hHeld => ?_)
      · first | exact hSn | exact ⟨(by have h := HD4.out.get 0 _ rfl; simpa using h), HD4.out.get 1 _ rfl⟩
      refine tkW 0 (some 43) (v := ?_) rfl ?_ (tkW 1 (some 44) (v := ?_) rfl ?_ (tkW 2 (some 45) (v := ?_) rfl ?_ ?_))
      iterate 3 (rotate_left; focus (intro u hSu; have hSa := blkCell hSu.1; have hSb := blkCell hSu.2; clear hSu; go_simp; (try with_reducible rfl)))
      try simp only [Act.put, pS]
      refine rdH 3 none rfl (fun K hK => ?_)
      refine wantedIf (by rfl) ?_
      refine wp_store_whole 31 (.tmp 4) (.tmp 43) rfl (w.heap.size + 2) #[.int .i64 fr, .int .i64 n, .int .i64 (en + (x.size : Int)), .int .i64 sf, .string (tl ++ x)] _ _ rfl rfl (HD4.out.get 2 _ rfl) (by kernel_rfl) (by kernel_rfl) (by kernel_rfl) ?_
      have hB5 := HD4.out.row 2 #[.int .i64 fr, .int .i64 n, .int .i64 (en + (x.size : Int)), .int .i64 sf, .string (tl ++ x)] _ rfl
      have hSn := And.intro (show _ = some (Obj.cells #[.int .i64 fr, .int .i64 n, .int .i64 (en + (x.size : Int)), .int .i64 sf, .string (tl ++ x)] 31 (0, 0)) from by have h := hB5.get 0 _ rfl; simpa using h) (hB5.get 1 _ rfl)
      refine hK.out _ _ ?_ (fun hHeld => ?_)
      · first | exact hSn | exact ⟨(by have h := HD4.out.get 0 _ rfl; simpa using h), HD4.out.get 1 _ rfl⟩
      clear hK K
      try simp only [Act.put]
      refine tkW 4 (some 5) (v := ?_) rfl ?_ (tkW 5 (some 6) (v := ?_) rfl ?_ ?_)
      iterate 2 (rotate_left; focus (intro u hSu; have hSa := blkCell hSu.1; have hSb := blkCell hSu.2; clear hSu; go_simp; (try with_reducible rfl)))
      try simp only [Act.put, pS]
      refine wpAnyH_done (by kernel_rfl) ?_ _
      clear hHeld
      go_wp2_with fail
      refine bodyPost_ret (v := .tuple #[.agg #[.int .i64 fr, .int .i64 n, .int .i64 (en + (x.size : Int)), .int .i64 sf, .string (tl ++ x)], .int .i64 (en + 1), .int .i64 0]) (results_cell3 rfl _ _ rfl (load_whole (setRow_heap _ _ _ _ _ _ (HD4.out.get 2 _ rfl)) Tryz.underlying31 (by kernel_rfl) (by kernel_rfl)) rfl rfl) rfl ?_
      rw [HO.out]
      exact ⟨rfl, hB5.below⟩
  · have HO := Lib.hid (HN.out hR)
    have HP := Lib.hid (HPN.out hR)
    clear HPY HPN HN HFU HOK hR
    go_enter Tryz.func8, Tryz.ntmps8
    go_upto_region 1 with fail
    have H0 := Lib.hid (show BxL w.heap.size w [(#[.int .i64 fr, .int .i64 n, .int .i64 en, .int .i64 sf, .string tl], 31), ((rcA lsn prev txn kind page next nu ok os oo on how root ek ep es (.slice A ts.length c) (.slice D ds.length d)), 42), (#[.int .i64 0, .int .i64 0, .int .i64 0, .int .i64 0, .string ⟨#[]⟩], 31)] (((w.alloc (.cells #[.int .i64 fr, .int .i64 n, .int .i64 en, .int .i64 sf, .string tl] 31)).alloc (.cells (rcA lsn prev txn kind page next nu ok os oo on how root ek ep es (.slice A ts.length c) (.slice D ds.length d)) 42)).alloc (.cells #[.int .i64 0, .int .i64 0, .int .i64 0, .int .i64 0, .string ⟨#[]⟩] 31)) from (((BxL.nil (Below.refl w.heap.size w)).new (by simp) #[.int .i64 fr, .int .i64 n, .int .i64 en, .int .i64 sf, .string tl] 31).new (by simp) (rcA lsn prev txn kind page next nu ok os oo on how root ek ep es (.slice A ts.length c) (.slice D ds.length d)) 42).new (by simp) #[.int .i64 0, .int .i64 0, .int .i64 0, .int .i64 0, .string ⟨#[]⟩] 31)
    obtain ⟨W0, hW0⟩ : ∃ W, W = (((w.alloc (.cells #[.int .i64 fr, .int .i64 n, .int .i64 en, .int .i64 sf, .string tl] 31)).alloc (.cells (rcA lsn prev txn kind page next nu ok os oo on how root ek ep es (.slice A ts.length c) (.slice D ds.length d)) 42)).alloc (.cells #[.int .i64 0, .int .i64 0, .int .i64 0, .int .i64 0, .string ⟨#[]⟩] 31)) := ⟨_, rfl⟩
    have hs0 : W0.heap.size = w.heap.size + 3 := by rw [hW0]; simp
    rw [← hW0] at H0 ⊢
    have hc0 := blkCell (H0.out.get 0 _ rfl)
    have hc1 := blkCell (H0.out.get 1 _ rfl)
    have hz1 := blkFrozen (H0.out.get 1 _ rfl)
    simp only [Nat.add_zero] at hc0
    clear hW0
    go_upto_region 2 with fail
    have H1 := Lib.hid (show BxL w.heap.size w [(#[.int .i64 fr, .int .i64 n, .int .i64 en, .int .i64 sf, .string tl], 31), ((rcA (en + 1) prev txn kind page next nu ok os oo on how root ek ep es (.slice A ts.length c) (.slice D ds.length d)), 42), (#[.int .i64 0, .int .i64 0, .int .i64 0, .int .i64 0, .string ⟨#[]⟩], 31)] (W0.setCell ⟨w.heap.size + 1, 0, none⟩ (.int .i64 (en + 1))) from by have h := H0.out.set 1 0 (.int .i64 (en + 1)) _ rfl; simpa using h)
    obtain ⟨W1, hW1⟩ : ∃ W, W = W0.setCell ⟨w.heap.size + 1, 0, none⟩ (.int .i64 (en + 1)) := ⟨_, rfl⟩
    rw [← hW1] at H1 ⊢
    clear hW1 hc0 hc1 hz1 H0 hs0
    have HX1 := Lib.hid (H1.out.get 1 _ rfl)
    go_upto_region 3 with (first
      | (with_reducible refine listLoad (by kernel_rfl) 42 (.tmp 3) rfl (w.heap.size + 1) rfl (rcA (en + 1) prev txn kind page next nu ok os oo on how root ek ep es (.slice A ts.length c) (.slice D ds.length d)) _ HX1.out _ Tryz.underlying42 (by kernel_rfl) (by kernel_rfl) ?_)
      | (go_at_call 22; (with_reducible refine (HP.out _ H1.out.below).mono ?_); rintro e w2 ⟨rfl, hb2⟩))
    have H2 := Lib.hid (H1.out.step hb2)
    clear hb2 H1 HX1 HP
    have HX2 := Lib.hid (show w2.heap[w.heap.size]? = some (.cells #[.int .i64 fr, .int .i64 n, .int .i64 en, .int .i64 sf, .string tl] 31 (0, 0)) from by have h := H2.out.get 0 _ rfl; simpa using h)
    go_wp2_with (first
      | (with_reducible refine listLoad (by kernel_rfl) 31 (.tmp 2) rfl w.heap.size rfl #[.int .i64 fr, .int .i64 n, .int .i64 en, .int .i64 sf, .string tl] _ HX2.out _ Tryz.underlying31 (by kernel_rfl) (by kernel_rfl) ?_)
      | (with_reducible refine listStore (by kernel_rfl) 31 (.tmp 4) (.tmp 20) rfl (w.heap.size + 2) #[.int .i64 fr, .int .i64 n, .int .i64 en, .int .i64 sf, .string tl] _ _ rfl rfl (H2.out.get 2 _ rfl) (by kernel_rfl) (by kernel_rfl) (by kernel_rfl) ?_))
    refine bodyPost_ret (v := .tuple #[.agg #[.int .i64 fr, .int .i64 n, .int .i64 en, .int .i64 sf, .string tl], .int .i64 0, .int .i64 1]) (results_cell3 rfl _ _ rfl (load_whole (setRow_heap _ _ _ _ _ _ (H2.out.get 2 _ rfl)) Tryz.underlying31 (by kernel_rfl) (by kernel_rfl)) rfl rfl) rfl ?_
    rw [HO.out]
    exact ⟨rfl, (H2.out.row 2 _ _ rfl).below⟩
end Go.Proofs.YtojaagnfjenhoaaGreat
