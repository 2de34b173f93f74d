/- The walk over package rec: a reader's num. -/
import Derived.Test.YtojaagnfjenhoaaHo03
import Derived.Test.YtojaagnfjenhoaaHo02
import Derived.BigRegion
namespace Go.Proofs.Ytojaagnfjenhoaa
open Go.RowKit
abbrev rdC (s : ByteArray) (a : Nat) (bad : Bool) : Array Value := #[.string s, .int .i64 (a : Int), .bool bad]
set_option maxRecDepth 100000 in
set_option maxHeartbeats 1000000 in
theorem rnum_tf (b : Nat) (s : ByteArray) (a k : Nat) (h1 : 1 ≤ k) (h6 : k ≤ 6) (hm : s.size ≤ 1000000000) (ha : a ≤ 2000000000) (hin : a + k ≤ s.size) (w : World) (hb : w.heap[b]? = some (.cells (rdC s a false) 89 (0, 0))) :
    Calls Try.prog 55 #[.pointer (some ⟨b, 0, none⟩), .int .i64 (k : Int)] w fun e w' => e = .returned (.int .i64 (Oct.intOf (Oct.getN s.data.toList a k))) ∧ w'.heap[b]? = some (.cells (rdC s (a + k) false) 89 (0, 0)) ∧ KeptB w.heap.size b w w' := by
  have HG := Lib.hid (fun W => get_yes s a k h1 (by omega) hin (by omega) W)
  have HB := Lib.hid hb
  have w1' : IntKind.i64.wrap ((a : Int) + (k : Int)) = (a : Int) + (k : Int) := IntWalk.i64_in _ (by omega)
  clear hb hin
  generalize Oct.intOf (Oct.getN s.data.toList a k) = n at HG ⊢
  go_enter Try.func55, Try.ntmps55
  go_upto_region 1 with fail
  refine wp_region_held_drew (S := (fun u => u.heap[b]? = some (.cells (rdC s a false) 89 (0, 0)))) (by kernel_rfl) ?_ (fun hHeld => ?_)
  · first | exact hSn | exact HB.out
  refine wpAnyH_take (i := 0) (oi := { dst := some 8, op := _, type := _, pos := _, after := _, guard := _ }) (v := ?_) rfl (by kernel_rfl) (by kernel_rfl) (by kernel_rfl) (fun _ _ _ h => h) (Or.inl ⟨by rfl, ?_⟩) (by assumption) ?_
  rotate_left
  · intro u hSu; have hSv := blkCell hSu; clear hSu; go_simp; (try with_reducible rfl)
  try simp only [Act.put, List.setIfInBounds_toArray, List.set_cons_zero, List.set_cons_succ]
  refine wpAnyH_take (i := 1) (oi := { dst := some 9, op := _, type := _, pos := _, after := _, guard := _ }) (v := ?_) rfl (by kernel_rfl) (by kernel_rfl) (by kernel_rfl) (fun _ _ _ h => h) (Or.inl ⟨by rfl, ?_⟩) (by assumption) ?_
  rotate_left
  · intro u hSu; have hSv := blkCell hSu; clear hSu; go_simp; (try with_reducible rfl)
  try simp only [Act.put, List.setIfInBounds_toArray, List.set_cons_zero, List.set_cons_succ]
  refine wpAnyH_take (i := 2) (oi := { dst := some 10, op := _, type := _, pos := _, after := _, guard := _ }) (v := ?_) rfl (by kernel_rfl) (by kernel_rfl) (by kernel_rfl) (fun _ _ _ h => h) (Or.inl ⟨by rfl, ?_⟩) (by assumption) ?_
  rotate_left
  · intro u hSu; have hSv := blkCell hSu; clear hSu; go_simp; (try with_reducible rfl)
  try simp only [Act.put, List.setIfInBounds_toArray, List.set_cons_zero, List.set_cons_succ]
  refine wpAnyH_take (i := 3) (oi := { dst := some 11, op := _, type := _, pos := _, after := _, guard := _ }) (v := ?_) rfl (by kernel_rfl) (by kernel_rfl) (by kernel_rfl) (fun _ _ _ h => h) (Or.inl ⟨by rfl, ?_⟩) (by assumption) ?_
  rotate_left
  · intro u hSu; have hSv := blkCell hSu; clear hSu; go_simp; (try with_reducible rfl)
  try simp only [Act.put, List.setIfInBounds_toArray, List.set_cons_zero, List.set_cons_succ]
  refine wpAnyH_take (i := 4) (oi := { dst := some 12, op := _, type := _, pos := _, after := _, guard := _ }) (v := ?_) rfl (by kernel_rfl) (by kernel_rfl) (by kernel_rfl) (fun _ _ _ h => h) (Or.inl ⟨by rfl, ?_⟩) (by assumption) ?_
  rotate_left
  · intro u hSu; have hSv := blkCell hSu; clear hSu; go_simp; (try with_reducible rfl)
  try simp only [Act.put, List.setIfInBounds_toArray, List.set_cons_zero, List.set_cons_succ]
  refine wpAnyH_take (i := 5) (oi := { dst := some 13, op := _, type := _, pos := _, after := _, guard := _ }) (v := ?_) rfl (by kernel_rfl) (by kernel_rfl) (by kernel_rfl) (fun _ _ _ h => h) (Or.inl ⟨by rfl, ?_⟩) (by assumption) ?_
  rotate_left
  · intro u hSu; have hSv := blkCell hSu; clear hSu; go_simp; (try with_reducible rfl)
  try simp only [Act.put, List.setIfInBounds_toArray, List.set_cons_zero, List.set_cons_succ]
  refine wpAnyH_take (i := 6) (oi := { dst := some 14, op := _, type := _, pos := _, after := _, guard := _ }) (v := ?_) rfl (by kernel_rfl) (by kernel_rfl) (by kernel_rfl) (fun _ _ _ h => h) (Or.inl ⟨by rfl, ?_⟩) (by assumption) ?_
  rotate_left
  · intro u hSu; have hSv := blkCell hSu; clear hSu; go_simp; (try with_reducible rfl)
  try simp only [Act.put, List.setIfInBounds_toArray, List.set_cons_zero, List.set_cons_succ]
  refine wpAnyH_take (i := 7) (oi := { dst := some 15, op := _, type := _, pos := _, after := _, guard := _ }) (v := ?_) rfl (by kernel_rfl) (by kernel_rfl) (by kernel_rfl) (fun _ _ _ h => h) (Or.inl ⟨by rfl, ?_⟩) (by assumption) ?_
  rotate_left
  · intro u hSu; have hSv := blkCell hSu; clear hSu; go_simp; (try with_reducible rfl)
  try simp only [Act.put, List.setIfInBounds_toArray, List.set_cons_zero, List.set_cons_succ]
  refine wpAnyH_take (i := 8) (oi := { dst := some 16, op := _, type := _, pos := _, after := _, guard := _ }) (v := ?_) rfl (by kernel_rfl) (by kernel_rfl) (by kernel_rfl) (fun _ _ _ h => h) (Or.inl ⟨by rfl, ?_⟩) (by assumption) ?_
  rotate_left
  · intro u hSu; have hSv := blkCell hSu; clear hSu; go_simp; (try with_reducible rfl)
  try simp only [Act.put, List.setIfInBounds_toArray, List.set_cons_zero, List.set_cons_succ]
  refine wpAnyH_ready (rs := [9]) (by kernel_rfl) (by simp) ?_
  refine AllReadyH.cons (o := { dst := some 17, op := _, type := _, pos := _, after := _, guard := _ }) rfl (fun K hK => ?_) ?_
  rotate_left
  · exact AllReadyH.nil
  go_simp
  refine (HG.out _).mono ?_; rintro e w1 ⟨rfl, hb1⟩; have hSn := blkOld HB.out ((Below.refl _ w).drew.trans hb1); try go_simp
  refine hK.out _ _ ?_ (fun hHeld => ?_)
  · first | exact hSn | exact HB.out
  clear hK K
  try simp only [Act.put, List.setIfInBounds_toArray, List.set_cons_zero, List.set_cons_succ]
  refine wpAnyH_take (i := 10) (oi := { dst := some 7, op := _, type := _, pos := _, after := _, guard := _ }) (v := ?_) rfl (by kernel_rfl) (by kernel_rfl) (by kernel_rfl) (fun _ _ _ h => h) (Or.inl ⟨by rfl, ?_⟩) (by assumption) ?_
  rotate_left
  · intro u hSu; have hSv := blkCell hSu; clear hSu; go_simp; (try with_reducible rfl)
  try simp only [Act.put, List.setIfInBounds_toArray, List.set_cons_zero, List.set_cons_succ]
  refine wpAnyH_take (i := 11) (oi := { dst := some 18, op := _, type := _, pos := _, after := _, guard := _ }) (v := ?_) rfl (by kernel_rfl) (by kernel_rfl) (by kernel_rfl) (fun _ _ _ h => h) (Or.inl ⟨by rfl, ?_⟩) (by assumption) ?_
  rotate_left
  · intro u hSu; have hSv := blkCell hSu; clear hSu; go_simp; (try with_reducible rfl)
  try simp only [Act.put, List.setIfInBounds_toArray, List.set_cons_zero, List.set_cons_succ]
  refine wpAnyH_take (i := 12) (oi := { dst := some 19, op := _, type := _, pos := _, after := _, guard := _ }) (v := ?_) rfl (by kernel_rfl) (by kernel_rfl) (by kernel_rfl) (fun _ _ _ h => h) (Or.inl ⟨by rfl, ?_⟩) (by assumption) ?_
  rotate_left
  · intro u hSu; have hSv := blkCell hSu; clear hSu; go_simp; (try with_reducible rfl)
  try simp only [Act.put, List.setIfInBounds_toArray, List.set_cons_zero, List.set_cons_succ]
  refine wpAnyH_take (i := 13) (oi := { dst := some 5, op := _, type := _, pos := _, after := _, guard := _ }) (v := ?_) rfl (by kernel_rfl) (by kernel_rfl) (by kernel_rfl) (fun _ _ _ h => h) (Or.inl ⟨by rfl, ?_⟩) (by assumption) ?_
  rotate_left
  · intro u hSu; have hSv := blkCell hSu; clear hSu; go_simp; (try with_reducible rfl)
  try simp only [Act.put, List.setIfInBounds_toArray, List.set_cons_zero, List.set_cons_succ]
  refine wpAnyH_take (i := 14) (oi := { dst := some 6, op := _, type := _, pos := _, after := _, guard := _ }) (v := ?_) rfl (by kernel_rfl) (by kernel_rfl) (by kernel_rfl) (fun _ _ _ h => h) (Or.inl ⟨by rfl, ?_⟩) (by assumption) ?_
  rotate_left
  · intro u hSu; have hSv := blkCell hSu; clear hSu; go_simp; (try with_reducible rfl)
  try simp only [Act.put, List.setIfInBounds_toArray, List.set_cons_zero, List.set_cons_succ]
  refine wpAnyH_done (by kernel_rfl) ?_ _
  have H1 := Lib.hid hHeld
  have HK := Lib.hid (show Below w.heap.size w w1 from (Below.refl _ w).drew.trans hb1)
  clear hHeld hSn hb1
  have c0 := blkCell H1.out 0
  have c1 := blkCell H1.out 1
  have c2 := blkCell H1.out 2
  have f1 := blkFrozen H1.out 1
  have f2 := blkFrozen H1.out 2
  simp at c0 c1 c2
  go_wp2_with fail
  go_ret
  refine ⟨rfl, ?_, ?_⟩
  · have h := blkSet 2 (blkSet 1 H1.out (.int .i64 ((a : Int) + (k : Int)))) (.bool false)
    first | exact h | simpa using h
  · refine ⟨HK.out.os, HK.out.tape, HK.out.output, by have := HK.out.size; simpa [World.setCell] using this, fun i hi hib => ?_⟩
    rw [Below.heap_setCell _ _ _ _ hib, Below.heap_setCell _ _ _ _ hib]
    exact HK.out.block i hi
set_option maxRecDepth 100000 in
set_option maxHeartbeats 1000000 in
theorem rnum_tt (b : Nat) (s : ByteArray) (a k : Nat) (h1 : 1 ≤ k) (h6 : k ≤ 6) (hm : s.size ≤ 1000000000) (ha : a ≤ 2000000000) (hin : a + k ≤ s.size) (w : World) (hb : w.heap[b]? = some (.cells (rdC s a true) 89 (0, 0))) :
    Calls Try.prog 55 #[.pointer (some ⟨b, 0, none⟩), .int .i64 (k : Int)] w fun e w' => e = .returned (.int .i64 (Oct.intOf (Oct.getN s.data.toList a k))) ∧ w'.heap[b]? = some (.cells (rdC s (a + k) true) 89 (0, 0)) ∧ KeptB w.heap.size b w w' := by
  have HG := Lib.hid (fun W => get_yes s a k h1 (by omega) hin (by omega) W)
  have HB := Lib.hid hb
  have w1' : IntKind.i64.wrap ((a : Int) + (k : Int)) = (a : Int) + (k : Int) := IntWalk.i64_in _ (by omega)
  clear hb hin
  generalize Oct.intOf (Oct.getN s.data.toList a k) = n at HG ⊢
  go_enter Try.func55, Try.ntmps55
  go_upto_region 1 with fail
  refine wp_region_held_drew (S := (fun u => u.heap[b]? = some (.cells (rdC s a true) 89 (0, 0)))) (by kernel_rfl) ?_ (fun hHeld => ?_)
  · first | exact hSn | exact HB.out
  refine wpAnyH_take (i := 0) (oi := { dst := some 8, op := _, type := _, pos := _, after := _, guard := _ }) (v := ?_) rfl (by kernel_rfl) (by kernel_rfl) (by kernel_rfl) (fun _ _ _ h => h) (Or.inl ⟨by rfl, ?_⟩) (by assumption) ?_
  rotate_left
  · intro u hSu; have hSv := blkCell hSu; clear hSu; go_simp; (try with_reducible rfl)
  try simp only [Act.put, List.setIfInBounds_toArray, List.set_cons_zero, List.set_cons_succ]
  refine wpAnyH_take (i := 1) (oi := { dst := some 9, op := _, type := _, pos := _, after := _, guard := _ }) (v := ?_) rfl (by kernel_rfl) (by kernel_rfl) (by kernel_rfl) (fun _ _ _ h => h) (Or.inl ⟨by rfl, ?_⟩) (by assumption) ?_
  rotate_left
  · intro u hSu; have hSv := blkCell hSu; clear hSu; go_simp; (try with_reducible rfl)
  try simp only [Act.put, List.setIfInBounds_toArray, List.set_cons_zero, List.set_cons_succ]
  refine wpAnyH_take (i := 2) (oi := { dst := some 10, op := _, type := _, pos := _, after := _, guard := _ }) (v := ?_) rfl (by kernel_rfl) (by kernel_rfl) (by kernel_rfl) (fun _ _ _ h => h) (Or.inl ⟨by rfl, ?_⟩) (by assumption) ?_
  rotate_left
  · intro u hSu; have hSv := blkCell hSu; clear hSu; go_simp; (try with_reducible rfl)
  try simp only [Act.put, List.setIfInBounds_toArray, List.set_cons_zero, List.set_cons_succ]
  refine wpAnyH_take (i := 3) (oi := { dst := some 11, op := _, type := _, pos := _, after := _, guard := _ }) (v := ?_) rfl (by kernel_rfl) (by kernel_rfl) (by kernel_rfl) (fun _ _ _ h => h) (Or.inl ⟨by rfl, ?_⟩) (by assumption) ?_
  rotate_left
  · intro u hSu; have hSv := blkCell hSu; clear hSu; go_simp; (try with_reducible rfl)
  try simp only [Act.put, List.setIfInBounds_toArray, List.set_cons_zero, List.set_cons_succ]
  refine wpAnyH_take (i := 4) (oi := { dst := some 12, op := _, type := _, pos := _, after := _, guard := _ }) (v := ?_) rfl (by kernel_rfl) (by kernel_rfl) (by kernel_rfl) (fun _ _ _ h => h) (Or.inl ⟨by rfl, ?_⟩) (by assumption) ?_
  rotate_left
  · intro u hSu; have hSv := blkCell hSu; clear hSu; go_simp; (try with_reducible rfl)
  try simp only [Act.put, List.setIfInBounds_toArray, List.set_cons_zero, List.set_cons_succ]
  refine wpAnyH_take (i := 5) (oi := { dst := some 13, op := _, type := _, pos := _, after := _, guard := _ }) (v := ?_) rfl (by kernel_rfl) (by kernel_rfl) (by kernel_rfl) (fun _ _ _ h => h) (Or.inl ⟨by rfl, ?_⟩) (by assumption) ?_
  rotate_left
  · intro u hSu; have hSv := blkCell hSu; clear hSu; go_simp; (try with_reducible rfl)
  try simp only [Act.put, List.setIfInBounds_toArray, List.set_cons_zero, List.set_cons_succ]
  refine wpAnyH_take (i := 6) (oi := { dst := some 14, op := _, type := _, pos := _, after := _, guard := _ }) (v := ?_) rfl (by kernel_rfl) (by kernel_rfl) (by kernel_rfl) (fun _ _ _ h => h) (Or.inl ⟨by rfl, ?_⟩) (by assumption) ?_
  rotate_left
  · intro u hSu; have hSv := blkCell hSu; clear hSu; go_simp; (try with_reducible rfl)
  try simp only [Act.put, List.setIfInBounds_toArray, List.set_cons_zero, List.set_cons_succ]
  refine wpAnyH_take (i := 7) (oi := { dst := some 15, op := _, type := _, pos := _, after := _, guard := _ }) (v := ?_) rfl (by kernel_rfl) (by kernel_rfl) (by kernel_rfl) (fun _ _ _ h => h) (Or.inl ⟨by rfl, ?_⟩) (by assumption) ?_
  rotate_left
  · intro u hSu; have hSv := blkCell hSu; clear hSu; go_simp; (try with_reducible rfl)
  try simp only [Act.put, List.setIfInBounds_toArray, List.set_cons_zero, List.set_cons_succ]
  refine wpAnyH_take (i := 8) (oi := { dst := some 16, op := _, type := _, pos := _, after := _, guard := _ }) (v := ?_) rfl (by kernel_rfl) (by kernel_rfl) (by kernel_rfl) (fun _ _ _ h => h) (Or.inl ⟨by rfl, ?_⟩) (by assumption) ?_
  rotate_left
  · intro u hSu; have hSv := blkCell hSu; clear hSu; go_simp; (try with_reducible rfl)
  try simp only [Act.put, List.setIfInBounds_toArray, List.set_cons_zero, List.set_cons_succ]
  refine wpAnyH_ready (rs := [9]) (by kernel_rfl) (by simp) ?_
  refine AllReadyH.cons (o := { dst := some 17, op := _, type := _, pos := _, after := _, guard := _ }) rfl (fun K hK => ?_) ?_
  rotate_left
  · exact AllReadyH.nil
  go_simp
  refine (HG.out _).mono ?_; rintro e w1 ⟨rfl, hb1⟩; have hSn := blkOld HB.out ((Below.refl _ w).drew.trans hb1); try go_simp
  refine hK.out _ _ ?_ (fun hHeld => ?_)
  · first | exact hSn | exact HB.out
  clear hK K
  try simp only [Act.put, List.setIfInBounds_toArray, List.set_cons_zero, List.set_cons_succ]
  refine wpAnyH_take (i := 10) (oi := { dst := some 7, op := _, type := _, pos := _, after := _, guard := _ }) (v := ?_) rfl (by kernel_rfl) (by kernel_rfl) (by kernel_rfl) (fun _ _ _ h => h) (Or.inl ⟨by rfl, ?_⟩) (by assumption) ?_
  rotate_left
  · intro u hSu; have hSv := blkCell hSu; clear hSu; go_simp; (try with_reducible rfl)
  try simp only [Act.put, List.setIfInBounds_toArray, List.set_cons_zero, List.set_cons_succ]
  refine wpAnyH_take (i := 11) (oi := { dst := some 18, op := _, type := _, pos := _, after := _, guard := _ }) (v := ?_) rfl (by kernel_rfl) (by kernel_rfl) (by kernel_rfl) (fun _ _ _ h => h) (Or.inl ⟨by rfl, ?_⟩) (by assumption) ?_
  rotate_left
  · intro u hSu; have hSv := blkCell hSu; clear hSu; go_simp; (try with_reducible rfl)
  try simp only [Act.put, List.setIfInBounds_toArray, List.set_cons_zero, List.set_cons_succ]
  refine wpAnyH_take (i := 12) (oi := { dst := some 19, op := _, type := _, pos := _, after := _, guard := _ }) (v := ?_) rfl (by kernel_rfl) (by kernel_rfl) (by kernel_rfl) (fun _ _ _ h => h) (Or.inl ⟨by rfl, ?_⟩) (by assumption) ?_
  rotate_left
  · intro u hSu; have hSv := blkCell hSu; clear hSu; go_simp; (try with_reducible rfl)
  try simp only [Act.put, List.setIfInBounds_toArray, List.set_cons_zero, List.set_cons_succ]
  refine wpAnyH_take (i := 13) (oi := { dst := some 5, op := _, type := _, pos := _, after := _, guard := _ }) (v := ?_) rfl (by kernel_rfl) (by kernel_rfl) (by kernel_rfl) (fun _ _ _ h => h) (Or.inl ⟨by rfl, ?_⟩) (by assumption) ?_
  rotate_left
  · intro u hSu; have hSv := blkCell hSu; clear hSu; go_simp; (try with_reducible rfl)
  try simp only [Act.put, List.setIfInBounds_toArray, List.set_cons_zero, List.set_cons_succ]
  refine wpAnyH_take (i := 14) (oi := { dst := some 6, op := _, type := _, pos := _, after := _, guard := _ }) (v := ?_) rfl (by kernel_rfl) (by kernel_rfl) (by kernel_rfl) (fun _ _ _ h => h) (Or.inl ⟨by rfl, ?_⟩) (by assumption) ?_
  rotate_left
  · intro u hSu; have hSv := blkCell hSu; clear hSu; go_simp; (try with_reducible rfl)
  try simp only [Act.put, List.setIfInBounds_toArray, List.set_cons_zero, List.set_cons_succ]
  refine wpAnyH_done (by kernel_rfl) ?_ _
  have H1 := Lib.hid hHeld
  have HK := Lib.hid (show Below w.heap.size w w1 from (Below.refl _ w).drew.trans hb1)
  clear hHeld hSn hb1
  have c0 := blkCell H1.out 0
  have c1 := blkCell H1.out 1
  have c2 := blkCell H1.out 2
  have f1 := blkFrozen H1.out 1
  have f2 := blkFrozen H1.out 2
  simp at c0 c1 c2
  go_wp2_with fail
  go_ret
  refine ⟨rfl, ?_, ?_⟩
  · have h := blkSet 2 (blkSet 1 H1.out (.int .i64 ((a : Int) + (k : Int)))) (.bool true)
    first | exact h | simpa using h
  · refine ⟨HK.out.os, HK.out.tape, HK.out.output, by have := HK.out.size; simpa [World.setCell] using this, fun i hi hib => ?_⟩
    rw [Below.heap_setCell _ _ _ _ hib, Below.heap_setCell _ _ _ _ hib]
    exact HK.out.block i hi
set_option maxRecDepth 100000 in
set_option maxHeartbeats 1000000 in
theorem rnum_ff (b : Nat) (s : ByteArray) (a k : Nat) (h1 : 1 ≤ k) (h6 : k ≤ 6) (hm : s.size ≤ 1000000000) (ha : a ≤ 2000000000) (hin : ¬ a + k ≤ s.size) (w : World) (hb : w.heap[b]? = some (.cells (rdC s a false) 89 (0, 0))) :
    Calls Try.prog 55 #[.pointer (some ⟨b, 0, none⟩), .int .i64 (k : Int)] w fun e w' => e = .returned (.int .i64 (0)) ∧ w'.heap[b]? = some (.cells (rdC s (a + k) true) 89 (0, 0)) ∧ KeptB w.heap.size b w w' := by
  have HG := Lib.hid (fun W => get_no s a k (by omega) (by omega) (by omega) (by unfold Oct.there; simp; omega) W)
  have HB := Lib.hid hb
  have w1' : IntKind.i64.wrap ((a : Int) + (k : Int)) = (a : Int) + (k : Int) := IntWalk.i64_in _ (by omega)
  clear hb hin
  go_enter Try.func55, Try.ntmps55
  go_upto_region 1 with fail
  refine wp_region_held_drew (S := (fun u => u.heap[b]? = some (.cells (rdC s a false) 89 (0, 0)))) (by kernel_rfl) ?_ (fun hHeld => ?_)
  · first | exact hSn | exact HB.out
  refine wpAnyH_take (i := 0) (oi := { dst := some 8, op := _, type := _, pos := _, after := _, guard := _ }) (v := ?_) rfl (by kernel_rfl) (by kernel_rfl) (by kernel_rfl) (fun _ _ _ h => h) (Or.inl ⟨by rfl, ?_⟩) (by assumption) ?_
  rotate_left
  · intro u hSu; have hSv := blkCell hSu; clear hSu; go_simp; (try with_reducible rfl)
  try simp only [Act.put, List.setIfInBounds_toArray, List.set_cons_zero, List.set_cons_succ]
  refine wpAnyH_take (i := 1) (oi := { dst := some 9, op := _, type := _, pos := _, after := _, guard := _ }) (v := ?_) rfl (by kernel_rfl) (by kernel_rfl) (by kernel_rfl) (fun _ _ _ h => h) (Or.inl ⟨by rfl, ?_⟩) (by assumption) ?_
  rotate_left
  · intro u hSu; have hSv := blkCell hSu; clear hSu; go_simp; (try with_reducible rfl)
  try simp only [Act.put, List.setIfInBounds_toArray, List.set_cons_zero, List.set_cons_succ]
  refine wpAnyH_take (i := 2) (oi := { dst := some 10, op := _, type := _, pos := _, after := _, guard := _ }) (v := ?_) rfl (by kernel_rfl) (by kernel_rfl) (by kernel_rfl) (fun _ _ _ h => h) (Or.inl ⟨by rfl, ?_⟩) (by assumption) ?_
  rotate_left
  · intro u hSu; have hSv := blkCell hSu; clear hSu; go_simp; (try with_reducible rfl)
  try simp only [Act.put, List.setIfInBounds_toArray, List.set_cons_zero, List.set_cons_succ]
  refine wpAnyH_take (i := 3) (oi := { dst := some 11, op := _, type := _, pos := _, after := _, guard := _ }) (v := ?_) rfl (by kernel_rfl) (by kernel_rfl) (by kernel_rfl) (fun _ _ _ h => h) (Or.inl ⟨by rfl, ?_⟩) (by assumption) ?_
  rotate_left
  · intro u hSu; have hSv := blkCell hSu; clear hSu; go_simp; (try with_reducible rfl)
  try simp only [Act.put, List.setIfInBounds_toArray, List.set_cons_zero, List.set_cons_succ]
  refine wpAnyH_take (i := 4) (oi := { dst := some 12, op := _, type := _, pos := _, after := _, guard := _ }) (v := ?_) rfl (by kernel_rfl) (by kernel_rfl) (by kernel_rfl) (fun _ _ _ h => h) (Or.inl ⟨by rfl, ?_⟩) (by assumption) ?_
  rotate_left
  · intro u hSu; have hSv := blkCell hSu; clear hSu; go_simp; (try with_reducible rfl)
  try simp only [Act.put, List.setIfInBounds_toArray, List.set_cons_zero, List.set_cons_succ]
  refine wpAnyH_take (i := 5) (oi := { dst := some 13, op := _, type := _, pos := _, after := _, guard := _ }) (v := ?_) rfl (by kernel_rfl) (by kernel_rfl) (by kernel_rfl) (fun _ _ _ h => h) (Or.inl ⟨by rfl, ?_⟩) (by assumption) ?_
  rotate_left
  · intro u hSu; have hSv := blkCell hSu; clear hSu; go_simp; (try with_reducible rfl)
  try simp only [Act.put, List.setIfInBounds_toArray, List.set_cons_zero, List.set_cons_succ]
  refine wpAnyH_take (i := 6) (oi := { dst := some 14, op := _, type := _, pos := _, after := _, guard := _ }) (v := ?_) rfl (by kernel_rfl) (by kernel_rfl) (by kernel_rfl) (fun _ _ _ h => h) (Or.inl ⟨by rfl, ?_⟩) (by assumption) ?_
  rotate_left
  · intro u hSu; have hSv := blkCell hSu; clear hSu; go_simp; (try with_reducible rfl)
  try simp only [Act.put, List.setIfInBounds_toArray, List.set_cons_zero, List.set_cons_succ]
  refine wpAnyH_take (i := 7) (oi := { dst := some 15, op := _, type := _, pos := _, after := _, guard := _ }) (v := ?_) rfl (by kernel_rfl) (by kernel_rfl) (by kernel_rfl) (fun _ _ _ h => h) (Or.inl ⟨by rfl, ?_⟩) (by assumption) ?_
  rotate_left
  · intro u hSu; have hSv := blkCell hSu; clear hSu; go_simp; (try with_reducible rfl)
  try simp only [Act.put, List.setIfInBounds_toArray, List.set_cons_zero, List.set_cons_succ]
  refine wpAnyH_take (i := 8) (oi := { dst := some 16, op := _, type := _, pos := _, after := _, guard := _ }) (v := ?_) rfl (by kernel_rfl) (by kernel_rfl) (by kernel_rfl) (fun _ _ _ h => h) (Or.inl ⟨by rfl, ?_⟩) (by assumption) ?_
  rotate_left
  · intro u hSu; have hSv := blkCell hSu; clear hSu; go_simp; (try with_reducible rfl)
  try simp only [Act.put, List.setIfInBounds_toArray, List.set_cons_zero, List.set_cons_succ]
  refine wpAnyH_ready (rs := [9]) (by kernel_rfl) (by simp) ?_
  refine AllReadyH.cons (o := { dst := some 17, op := _, type := _, pos := _, after := _, guard := _ }) rfl (fun K hK => ?_) ?_
  rotate_left
  · exact AllReadyH.nil
  go_simp
  refine (HG.out _).mono ?_; rintro e w1 ⟨rfl, hw1⟩; have hb1 : Below w.drew.heap.size w.drew w1 := (by rw [← hw1]; exact Below.refl _ _); have hSn := blkOld HB.out ((Below.refl _ w).drew.trans hb1); try go_simp
  refine hK.out _ _ ?_ (fun hHeld => ?_)
  · first | exact hSn | exact HB.out
  clear hK K
  try simp only [Act.put, List.setIfInBounds_toArray, List.set_cons_zero, List.set_cons_succ]
  refine wpAnyH_take (i := 10) (oi := { dst := some 7, op := _, type := _, pos := _, after := _, guard := _ }) (v := ?_) rfl (by kernel_rfl) (by kernel_rfl) (by kernel_rfl) (fun _ _ _ h => h) (Or.inl ⟨by rfl, ?_⟩) (by assumption) ?_
  rotate_left
  · intro u hSu; have hSv := blkCell hSu; clear hSu; go_simp; (try with_reducible rfl)
  try simp only [Act.put, List.setIfInBounds_toArray, List.set_cons_zero, List.set_cons_succ]
  refine wpAnyH_take (i := 11) (oi := { dst := some 18, op := _, type := _, pos := _, after := _, guard := _ }) (v := ?_) rfl (by kernel_rfl) (by kernel_rfl) (by kernel_rfl) (fun _ _ _ h => h) (Or.inl ⟨by rfl, ?_⟩) (by assumption) ?_
  rotate_left
  · intro u hSu; have hSv := blkCell hSu; clear hSu; go_simp; (try with_reducible rfl)
  try simp only [Act.put, List.setIfInBounds_toArray, List.set_cons_zero, List.set_cons_succ]
  refine wpAnyH_take (i := 12) (oi := { dst := some 19, op := _, type := _, pos := _, after := _, guard := _ }) (v := ?_) rfl (by kernel_rfl) (by kernel_rfl) (by kernel_rfl) (fun _ _ _ h => h) (Or.inl ⟨by rfl, ?_⟩) (by assumption) ?_
  rotate_left
  · intro u hSu; have hSv := blkCell hSu; clear hSu; go_simp; (try with_reducible rfl)
  try simp only [Act.put, List.setIfInBounds_toArray, List.set_cons_zero, List.set_cons_succ]
  refine wpAnyH_take (i := 13) (oi := { dst := some 5, op := _, type := _, pos := _, after := _, guard := _ }) (v := ?_) rfl (by kernel_rfl) (by kernel_rfl) (by kernel_rfl) (fun _ _ _ h => h) (Or.inl ⟨by rfl, ?_⟩) (by assumption) ?_
  rotate_left
  · intro u hSu; have hSv := blkCell hSu; clear hSu; go_simp; (try with_reducible rfl)
  try simp only [Act.put, List.setIfInBounds_toArray, List.set_cons_zero, List.set_cons_succ]
  refine wpAnyH_take (i := 14) (oi := { dst := some 6, op := _, type := _, pos := _, after := _, guard := _ }) (v := ?_) rfl (by kernel_rfl) (by kernel_rfl) (by kernel_rfl) (fun _ _ _ h => h) (Or.inl ⟨by rfl, ?_⟩) (by assumption) ?_
  rotate_left
  · intro u hSu; have hSv := blkCell hSu; clear hSu; go_simp; (try with_reducible rfl)
  try simp only [Act.put, List.setIfInBounds_toArray, List.set_cons_zero, List.set_cons_succ]
  refine wpAnyH_done (by kernel_rfl) ?_ _
  have H1 := Lib.hid hHeld
  have HK := Lib.hid (show Below w.heap.size w w1 from (Below.refl _ w).drew.trans hb1)
  clear hHeld hSn hb1
  have c0 := blkCell H1.out 0
  have c1 := blkCell H1.out 1
  have c2 := blkCell H1.out 2
  have f1 := blkFrozen H1.out 1
  have f2 := blkFrozen H1.out 2
  simp at c0 c1 c2
  go_wp2_with fail
  go_ret
  refine ⟨rfl, ?_, ?_⟩
  · have h := blkSet 2 (blkSet 1 H1.out (.int .i64 ((a : Int) + (k : Int)))) (.bool true)
    first | exact h | simpa using h
  · refine ⟨HK.out.os, HK.out.tape, HK.out.output, by have := HK.out.size; simpa [World.setCell] using this, fun i hi hib => ?_⟩
    rw [Below.heap_setCell _ _ _ _ hib, Below.heap_setCell _ _ _ _ hib]
    exact HK.out.block i hi
set_option maxRecDepth 100000 in
set_option maxHeartbeats 1000000 in
theorem rnum_ft (b : Nat) (s : ByteArray) (a k : Nat) (h1 : 1 ≤ k) (h6 : k ≤ 6) (hm : s.size ≤ 1000000000) (ha : a ≤ 2000000000) (hin : ¬ a + k ≤ s.size) (w : World) (hb : w.heap[b]? = some (.cells (rdC s a true) 89 (0, 0))) :
    Calls Try.prog 55 #[.pointer (some ⟨b, 0, none⟩), .int .i64 (k : Int)] w fun e w' => e = .returned (.int .i64 (0)) ∧ w'.heap[b]? = some (.cells (rdC s (a + k) true) 89 (0, 0)) ∧ KeptB w.heap.size b w w' := by
  have HG := Lib.hid (fun W => get_no s a k (by omega) (by omega) (by omega) (by unfold Oct.there; simp; omega) W)
  have HB := Lib.hid hb
  have w1' : IntKind.i64.wrap ((a : Int) + (k : Int)) = (a : Int) + (k : Int) := IntWalk.i64_in _ (by omega)
  clear hb hin
  go_enter Try.func55, Try.ntmps55
  go_upto_region 1 with fail
  refine wp_region_held_drew (S := (fun u => u.heap[b]? = some (.cells (rdC s a true) 89 (0, 0)))) (by kernel_rfl) ?_ (fun hHeld => ?_)
  · first | exact hSn | exact HB.out
  refine wpAnyH_take (i := 0) (oi := { dst := some 8, op := _, type := _, pos := _, after := _, guard := _ }) (v := ?_) rfl (by kernel_rfl) (by kernel_rfl) (by kernel_rfl) (fun _ _ _ h => h) (Or.inl ⟨by rfl, ?_⟩) (by assumption) ?_
  rotate_left
  · intro u hSu; have hSv := blkCell hSu; clear hSu; go_simp; (try with_reducible rfl)
  try simp only [Act.put, List.setIfInBounds_toArray, List.set_cons_zero, List.set_cons_succ]
  refine wpAnyH_take (i := 1) (oi := { dst := some 9, op := _, type := _, pos := _, after := _, guard := _ }) (v := ?_) rfl (by kernel_rfl) (by kernel_rfl) (by kernel_rfl) (fun _ _ _ h => h) (Or.inl ⟨by rfl, ?_⟩) (by assumption) ?_
  rotate_left
  · intro u hSu; have hSv := blkCell hSu; clear hSu; go_simp; (try with_reducible rfl)
  try simp only [Act.put, List.setIfInBounds_toArray, List.set_cons_zero, List.set_cons_succ]
  refine wpAnyH_take (i := 2) (oi := { dst := some 10, op := _, type := _, pos := _, after := _, guard := _ }) (v := ?_) rfl (by kernel_rfl) (by kernel_rfl) (by kernel_rfl) (fun _ _ _ h => h) (Or.inl ⟨by rfl, ?_⟩) (by assumption) ?_
  rotate_left
  · intro u hSu; have hSv := blkCell hSu; clear hSu; go_simp; (try with_reducible rfl)
  try simp only [Act.put, List.setIfInBounds_toArray, List.set_cons_zero, List.set_cons_succ]
  refine wpAnyH_take (i := 3) (oi := { dst := some 11, op := _, type := _, pos := _, after := _, guard := _ }) (v := ?_) rfl (by kernel_rfl) (by kernel_rfl) (by kernel_rfl) (fun _ _ _ h => h) (Or.inl ⟨by rfl, ?_⟩) (by assumption) ?_
  rotate_left
  · intro u hSu; have hSv := blkCell hSu; clear hSu; go_simp; (try with_reducible rfl)
  try simp only [Act.put, List.setIfInBounds_toArray, List.set_cons_zero, List.set_cons_succ]
  refine wpAnyH_take (i := 4) (oi := { dst := some 12, op := _, type := _, pos := _, after := _, guard := _ }) (v := ?_) rfl (by kernel_rfl) (by kernel_rfl) (by kernel_rfl) (fun _ _ _ h => h) (Or.inl ⟨by rfl, ?_⟩) (by assumption) ?_
  rotate_left
  · intro u hSu; have hSv := blkCell hSu; clear hSu; go_simp; (try with_reducible rfl)
  try simp only [Act.put, List.setIfInBounds_toArray, List.set_cons_zero, List.set_cons_succ]
  refine wpAnyH_take (i := 5) (oi := { dst := some 13, op := _, type := _, pos := _, after := _, guard := _ }) (v := ?_) rfl (by kernel_rfl) (by kernel_rfl) (by kernel_rfl) (fun _ _ _ h => h) (Or.inl ⟨by rfl, ?_⟩) (by assumption) ?_
  rotate_left
  · intro u hSu; have hSv := blkCell hSu; clear hSu; go_simp; (try with_reducible rfl)
  try simp only [Act.put, List.setIfInBounds_toArray, List.set_cons_zero, List.set_cons_succ]
  refine wpAnyH_take (i := 6) (oi := { dst := some 14, op := _, type := _, pos := _, after := _, guard := _ }) (v := ?_) rfl (by kernel_rfl) (by kernel_rfl) (by kernel_rfl) (fun _ _ _ h => h) (Or.inl ⟨by rfl, ?_⟩) (by assumption) ?_
  rotate_left
  · intro u hSu; have hSv := blkCell hSu; clear hSu; go_simp; (try with_reducible rfl)
  try simp only [Act.put, List.setIfInBounds_toArray, List.set_cons_zero, List.set_cons_succ]
  refine wpAnyH_take (i := 7) (oi := { dst := some 15, op := _, type := _, pos := _, after := _, guard := _ }) (v := ?_) rfl (by kernel_rfl) (by kernel_rfl) (by kernel_rfl) (fun _ _ _ h => h) (Or.inl ⟨by rfl, ?_⟩) (by assumption) ?_
  rotate_left
  · intro u hSu; have hSv := blkCell hSu; clear hSu; go_simp; (try with_reducible rfl)
  try simp only [Act.put, List.setIfInBounds_toArray, List.set_cons_zero, List.set_cons_succ]
  refine wpAnyH_take (i := 8) (oi := { dst := some 16, op := _, type := _, pos := _, after := _, guard := _ }) (v := ?_) rfl (by kernel_rfl) (by kernel_rfl) (by kernel_rfl) (fun _ _ _ h => h) (Or.inl ⟨by rfl, ?_⟩) (by assumption) ?_
  rotate_left
  · intro u hSu; have hSv := blkCell hSu; clear hSu; go_simp; (try with_reducible rfl)
  try simp only [Act.put, List.setIfInBounds_toArray, List.set_cons_zero, List.set_cons_succ]
  refine wpAnyH_ready (rs := [9]) (by kernel_rfl) (by simp) ?_
  refine AllReadyH.cons (o := { dst := some 17, op := _, type := _, pos := _, after := _, guard := _ }) rfl (fun K hK => ?_) ?_
  rotate_left
  · exact AllReadyH.nil
  go_simp
  refine (HG.out _).mono ?_; rintro e w1 ⟨rfl, hw1⟩; have hb1 : Below w.drew.heap.size w.drew w1 := (by rw [← hw1]; exact Below.refl _ _); have hSn := blkOld HB.out ((Below.refl _ w).drew.trans hb1); try go_simp
  refine hK.out _ _ ?_ (fun hHeld => ?_)
  · first | exact hSn | exact HB.out
  clear hK K
  try simp only [Act.put, List.setIfInBounds_toArray, List.set_cons_zero, List.set_cons_succ]
  refine wpAnyH_take (i := 10) (oi := { dst := some 7, op := _, type := _, pos := _, after := _, guard := _ }) (v := ?_) rfl (by kernel_rfl) (by kernel_rfl) (by kernel_rfl) (fun _ _ _ h => h) (Or.inl ⟨by rfl, ?_⟩) (by assumption) ?_
  rotate_left
  · intro u hSu; have hSv := blkCell hSu; clear hSu; go_simp; (try with_reducible rfl)
  try simp only [Act.put, List.setIfInBounds_toArray, List.set_cons_zero, List.set_cons_succ]
  refine wpAnyH_take (i := 11) (oi := { dst := some 18, op := _, type := _, pos := _, after := _, guard := _ }) (v := ?_) rfl (by kernel_rfl) (by kernel_rfl) (by kernel_rfl) (fun _ _ _ h => h) (Or.inl ⟨by rfl, ?_⟩) (by assumption) ?_
  rotate_left
  · intro u hSu; have hSv := blkCell hSu; clear hSu; go_simp; (try with_reducible rfl)
  try simp only [Act.put, List.setIfInBounds_toArray, List.set_cons_zero, List.set_cons_succ]
  refine wpAnyH_take (i := 12) (oi := { dst := some 19, op := _, type := _, pos := _, after := _, guard := _ }) (v := ?_) rfl (by kernel_rfl) (by kernel_rfl) (by kernel_rfl) (fun _ _ _ h => h) (Or.inl ⟨by rfl, ?_⟩) (by assumption) ?_
  rotate_left
  · intro u hSu; have hSv := blkCell hSu; clear hSu; go_simp; (try with_reducible rfl)
  try simp only [Act.put, List.setIfInBounds_toArray, List.set_cons_zero, List.set_cons_succ]
  refine wpAnyH_take (i := 13) (oi := { dst := some 5, op := _, type := _, pos := _, after := _, guard := _ }) (v := ?_) rfl (by kernel_rfl) (by kernel_rfl) (by kernel_rfl) (fun _ _ _ h => h) (Or.inl ⟨by rfl, ?_⟩) (by assumption) ?_
  rotate_left
  · intro u hSu; have hSv := blkCell hSu; clear hSu; go_simp; (try with_reducible rfl)
  try simp only [Act.put, List.setIfInBounds_toArray, List.set_cons_zero, List.set_cons_succ]
  refine wpAnyH_take (i := 14) (oi := { dst := some 6, op := _, type := _, pos := _, after := _, guard := _ }) (v := ?_) rfl (by kernel_rfl) (by kernel_rfl) (by kernel_rfl) (fun _ _ _ h => h) (Or.inl ⟨by rfl, ?_⟩) (by assumption) ?_
  rotate_left
  · intro u hSu; have hSv := blkCell hSu; clear hSu; go_simp; (try with_reducible rfl)
  try simp only [Act.put, List.setIfInBounds_toArray, List.set_cons_zero, List.set_cons_succ]
  refine wpAnyH_done (by kernel_rfl) ?_ _
  have H1 := Lib.hid hHeld
  have HK := Lib.hid (show Below w.heap.size w w1 from (Below.refl _ w).drew.trans hb1)
  clear hHeld hSn hb1
  have c0 := blkCell H1.out 0
  have c1 := blkCell H1.out 1
  have c2 := blkCell H1.out 2
  have f1 := blkFrozen H1.out 1
  have f2 := blkFrozen H1.out 2
  simp at c0 c1 c2
  go_wp2_with fail
  go_ret
  refine ⟨rfl, ?_, ?_⟩
  · have h := blkSet 2 (blkSet 1 H1.out (.int .i64 ((a : Int) + (k : Int)))) (.bool true)
    first | exact h | simpa using h
  · refine ⟨HK.out.os, HK.out.tape, HK.out.output, by have := HK.out.size; simpa [World.setCell] using this, fun i hi hib => ?_⟩
    rw [Below.heap_setCell _ _ _ _ hib, Below.heap_setCell _ _ _ _ hib]
    exact HK.out.block i hi
end Go.Proofs.Ytojaagnfjenhoaa
/- The walk over package rec: a reader's num, as the plain reader has it. -/
namespace Go.Proofs.Ytojaagnfjenhoaa
open Go.RowKit
theorem rnum_any (b : Nat) (s : ByteArray) (x : Rc.St) (k : Nat) (h1 : 1 ≤ k) (h6 : k ≤ 6) (hm : s.size ≤ 1000000000) (ha : x.at_ ≤ 2000000000) (w : World) (hb : w.heap[b]? = some (.cells (rdC s x.at_ x.bad) 89 (0, 0))) :
    Calls Try.prog 55 #[.pointer (some ⟨b, 0, none⟩), .int .i64 (k : Int)] w fun e w' => e = .returned (.int .i64 (Rc.numM true s.data.toList x k).1) ∧ w'.heap[b]? = some (.cells (rdC s (Rc.numM true s.data.toList x k).2.at_ (Rc.numM true s.data.toList x k).2.bad) 89 (0, 0)) ∧ KeptB w.heap.size b w w' := by
  obtain ⟨a, bad⟩ := x
  have hl : s.data.toList.length = s.size := by simp
  by_cases hin : a + k ≤ s.size
  · have hp := getN_small s.data.toList a k
    have h2 : 256 ^ k ≤ 256 ^ 6 := Nat.pow_le_pow_right (by omega) h6
    have h3 : Oct.getN s.data.toList a k < 281474976710656 := Nat.lt_of_lt_of_le hp h2
    have hi : Oct.intOf (Oct.getN s.data.toList a k) = ((Oct.getN s.data.toList a k : Nat) : Int) := by unfold Oct.intOf; rw [if_pos (by omega)]
    have hN : Rc.numM true s.data.toList ⟨a, bad⟩ k = (((Oct.getN s.data.toList a k : Nat) : Int), (⟨a + k, bad⟩ : Rc.St)) := by unfold Rc.numM; rw [if_pos (by show a + k ≤ _; omega)]
    rw [hN, ← hi]
    cases bad with
    | false => exact rnum_tf b s a k h1 h6 hm ha hin w hb
    | true => exact rnum_tt b s a k h1 h6 hm ha hin w hb
  · have hN : Rc.numM true s.data.toList ⟨a, bad⟩ k = ((0 : Int), (⟨a + k, true⟩ : Rc.St)) := by unfold Rc.numM; rw [if_neg (by show ¬ a + k ≤ _; omega)]; rfl
    rw [hN]
    cases bad with
    | false => exact rnum_ff b s a k h1 h6 hm ha hin w hb
    | true => exact rnum_ft b s a k h1 h6 hm ha hin w hb
end Go.Proofs.Ytojaagnfjenhoaa
/- The walk over package rec: a reader's text. -/
namespace Go.Proofs.Ytojaagnfjenhoaa
open Go.RowKit
theorem extract_list (s : ByteArray) (a n : Nat) : s.extract a (a + n) = ⟨((s.data.toList.drop a).take n).toArray⟩ := by
  apply ByteArray.ext
  rw [ByteArray.data_extract]
  apply Array.toList_inj.1
  rw [Array.toList_extract, List.extract_eq_take_drop]
  simp
set_option maxRecDepth 100000 in
set_option maxHeartbeats 1000000 in
theorem rtext_t (b : Nat) (s : ByteArray) (a : Nat) (bad : Bool) (x : ByteArray) (q : Nat) (hg : ∀ W, Calls Try.prog 93 #[.string s, .int .i64 (a : Int)] W fun e w' => e = .returned (.tuple #[.string x, .int .i64 (q : Int), .bool true]) ∧ Below W.heap.size W w') (w : World) (hb : w.heap[b]? = some (.cells (rdC s a bad) 89 (0, 0))) :
    Calls Try.prog 57 #[.pointer (some ⟨b, 0, none⟩)] w fun e w' => e = .returned (.string x) ∧ w'.heap[b]? = some (.cells (rdC s q bad) 89 (0, 0)) ∧ KeptB w.heap.size b w w' := by
  have HG := Lib.hid hg
  have HB := Lib.hid hb
  clear hb hg
  go_enter Try.func57, Try.ntmps57
  go_upto_region 1 with fail
  refine wp_region_held_drew (S := (fun u => u.heap[b]? = some (.cells (rdC s a bad) 89 (0, 0)))) (by kernel_rfl) ?_ (fun hHeld => ?_)
  · first | exact hSn | exact HB.out
  refine wpAnyH_take (i := 0) (oi := { dst := some 7, op := _, type := _, pos := _, after := _, guard := _ }) (v := ?_) rfl (by kernel_rfl) (by kernel_rfl) (by kernel_rfl) (fun _ _ _ h => h) (Or.inl ⟨by rfl, ?_⟩) (by assumption) ?_
  rotate_left
  · intro u hSu; have hSv := blkCell hSu; clear hSu; go_simp; (try with_reducible rfl)
  try simp only [Act.put, List.setIfInBounds_toArray, List.set_cons_zero, List.set_cons_succ]
  refine wpAnyH_take (i := 1) (oi := { dst := some 8, op := _, type := _, pos := _, after := _, guard := _ }) (v := ?_) rfl (by kernel_rfl) (by kernel_rfl) (by kernel_rfl) (fun _ _ _ h => h) (Or.inl ⟨by rfl, ?_⟩) (by assumption) ?_
  rotate_left
  · intro u hSu; have hSv := blkCell hSu; clear hSu; go_simp; (try with_reducible rfl)
  try simp only [Act.put, List.setIfInBounds_toArray, List.set_cons_zero, List.set_cons_succ]
  refine wpAnyH_take (i := 2) (oi := { dst := some 9, op := _, type := _, pos := _, after := _, guard := _ }) (v := ?_) rfl (by kernel_rfl) (by kernel_rfl) (by kernel_rfl) (fun _ _ _ h => h) (Or.inl ⟨by rfl, ?_⟩) (by assumption) ?_
  rotate_left
  · intro u hSu; have hSv := blkCell hSu; clear hSu; go_simp; (try with_reducible rfl)
  try simp only [Act.put, List.setIfInBounds_toArray, List.set_cons_zero, List.set_cons_succ]
  refine wpAnyH_take (i := 3) (oi := { dst := some 10, op := _, type := _, pos := _, after := _, guard := _ }) (v := ?_) rfl (by kernel_rfl) (by kernel_rfl) (by kernel_rfl) (fun _ _ _ h => h) (Or.inl ⟨by rfl, ?_⟩) (by assumption) ?_
  rotate_left
  · intro u hSu; have hSv := blkCell hSu; clear hSu; go_simp; (try with_reducible rfl)
  try simp only [Act.put, List.setIfInBounds_toArray, List.set_cons_zero, List.set_cons_succ]
  refine wpAnyH_take (i := 4) (oi := { dst := some 11, op := _, type := _, pos := _, after := _, guard := _ }) (v := ?_) rfl (by kernel_rfl) (by kernel_rfl) (by kernel_rfl) (fun _ _ _ h => h) (Or.inl ⟨by rfl, ?_⟩) (by assumption) ?_
  rotate_left
  · intro u hSu; have hSv := blkCell hSu; clear hSu; go_simp; (try with_reducible rfl)
  try simp only [Act.put, List.setIfInBounds_toArray, List.set_cons_zero, List.set_cons_succ]
  refine wpAnyH_take (i := 5) (oi := { dst := some 12, op := _, type := _, pos := _, after := _, guard := _ }) (v := ?_) rfl (by kernel_rfl) (by kernel_rfl) (by kernel_rfl) (fun _ _ _ h => h) (Or.inl ⟨by rfl, ?_⟩) (by assumption) ?_
  rotate_left
  · intro u hSu; have hSv := blkCell hSu; clear hSu; go_simp; (try with_reducible rfl)
  try simp only [Act.put, List.setIfInBounds_toArray, List.set_cons_zero, List.set_cons_succ]
  refine wpAnyH_take (i := 6) (oi := { dst := some 13, op := _, type := _, pos := _, after := _, guard := _ }) (v := ?_) rfl (by kernel_rfl) (by kernel_rfl) (by kernel_rfl) (fun _ _ _ h => h) (Or.inl ⟨by rfl, ?_⟩) (by assumption) ?_
  rotate_left
  · intro u hSu; have hSv := blkCell hSu; clear hSu; go_simp; (try with_reducible rfl)
  try simp only [Act.put, List.setIfInBounds_toArray, List.set_cons_zero, List.set_cons_succ]
  refine wpAnyH_take (i := 7) (oi := { dst := some 14, op := _, type := _, pos := _, after := _, guard := _ }) (v := ?_) rfl (by kernel_rfl) (by kernel_rfl) (by kernel_rfl) (fun _ _ _ h => h) (Or.inl ⟨by rfl, ?_⟩) (by assumption) ?_
  rotate_left
  · intro u hSu; have hSv := blkCell hSu; clear hSu; go_simp; (try with_reducible rfl)
  try simp only [Act.put, List.setIfInBounds_toArray, List.set_cons_zero, List.set_cons_succ]
  refine wpAnyH_ready (rs := [8]) (by kernel_rfl) (by simp) ?_
  refine AllReadyH.cons (o := { dst := some 15, op := _, type := _, pos := _, after := _, guard := _ }) rfl (fun K hK => ?_) ?_
  rotate_left
  · exact AllReadyH.nil
  go_simp
  refine (HG.out _).mono ?_; rintro e w1 ⟨rfl, hb1⟩; have hSn := blkOld HB.out ((Below.refl _ w).drew.trans hb1); try go_simp
  refine hK.out _ _ ?_ (fun hHeld => ?_)
  · first | exact hSn | exact HB.out
  clear hK K
  try simp only [Act.put, List.setIfInBounds_toArray, List.set_cons_zero, List.set_cons_succ]
  refine wpAnyH_take (i := 9) (oi := { dst := some 6, op := _, type := _, pos := _, after := _, guard := _ }) (v := ?_) rfl (by kernel_rfl) (by kernel_rfl) (by kernel_rfl) (fun _ _ _ h => h) (Or.inl ⟨by rfl, ?_⟩) (by assumption) ?_
  rotate_left
  · intro u hSu; have hSv := blkCell hSu; clear hSu; go_simp; (try with_reducible rfl)
  try simp only [Act.put, List.setIfInBounds_toArray, List.set_cons_zero, List.set_cons_succ]
  refine wpAnyH_take (i := 10) (oi := { dst := some 16, op := _, type := _, pos := _, after := _, guard := _ }) (v := ?_) rfl (by kernel_rfl) (by kernel_rfl) (by kernel_rfl) (fun _ _ _ h => h) (Or.inl ⟨by rfl, ?_⟩) (by assumption) ?_
  rotate_left
  · intro u hSu; have hSv := blkCell hSu; clear hSu; go_simp; (try with_reducible rfl)
  try simp only [Act.put, List.setIfInBounds_toArray, List.set_cons_zero, List.set_cons_succ]
  refine wpAnyH_take (i := 11) (oi := { dst := some 17, op := _, type := _, pos := _, after := _, guard := _ }) (v := ?_) rfl (by kernel_rfl) (by kernel_rfl) (by kernel_rfl) (fun _ _ _ h => h) (Or.inl ⟨by rfl, ?_⟩) (by assumption) ?_
  rotate_left
  · intro u hSu; have hSv := blkCell hSu; clear hSu; go_simp; (try with_reducible rfl)
  try simp only [Act.put, List.setIfInBounds_toArray, List.set_cons_zero, List.set_cons_succ]
  refine wpAnyH_take (i := 12) (oi := { dst := some 18, op := _, type := _, pos := _, after := _, guard := _ }) (v := ?_) rfl (by kernel_rfl) (by kernel_rfl) (by kernel_rfl) (fun _ _ _ h => h) (Or.inl ⟨by rfl, ?_⟩) (by assumption) ?_
  rotate_left
  · intro u hSu; have hSv := blkCell hSu; clear hSu; go_simp; (try with_reducible rfl)
  try simp only [Act.put, List.setIfInBounds_toArray, List.set_cons_zero, List.set_cons_succ]
  refine wpAnyH_take (i := 13) (oi := { dst := some 3, op := _, type := _, pos := _, after := _, guard := _ }) (v := ?_) rfl (by kernel_rfl) (by kernel_rfl) (by kernel_rfl) (fun _ _ _ h => h) (Or.inl ⟨by rfl, ?_⟩) (by assumption) ?_
  rotate_left
  · intro u hSu; have hSv := blkCell hSu; clear hSu; go_simp; (try with_reducible rfl)
  try simp only [Act.put, List.setIfInBounds_toArray, List.set_cons_zero, List.set_cons_succ]
  refine wpAnyH_take (i := 14) (oi := { dst := some 4, op := _, type := _, pos := _, after := _, guard := _ }) (v := ?_) rfl (by kernel_rfl) (by kernel_rfl) (by kernel_rfl) (fun _ _ _ h => h) (Or.inl ⟨by rfl, ?_⟩) (by assumption) ?_
  rotate_left
  · intro u hSu; have hSv := blkCell hSu; clear hSu; go_simp; (try with_reducible rfl)
  try simp only [Act.put, List.setIfInBounds_toArray, List.set_cons_zero, List.set_cons_succ]
  refine wpAnyH_take (i := 15) (oi := { dst := some 5, op := _, type := _, pos := _, after := _, guard := _ }) (v := ?_) rfl (by kernel_rfl) (by kernel_rfl) (by kernel_rfl) (fun _ _ _ h => h) (Or.inl ⟨by rfl, ?_⟩) (by assumption) ?_
  rotate_left
  · intro u hSu; have hSv := blkCell hSu; clear hSu; go_simp; (try with_reducible rfl)
  try simp only [Act.put, List.setIfInBounds_toArray, List.set_cons_zero, List.set_cons_succ]
  refine wpAnyH_done (by kernel_rfl) ?_ _
  have H1 := Lib.hid hHeld
  have HK := Lib.hid (show Below w.heap.size w w1 from (Below.refl _ w).drew.trans hb1)
  clear hHeld hSn hb1
  have c0 := blkCell H1.out 0
  have c1 := blkCell H1.out 1
  have c2 := blkCell H1.out 2
  have f1 := blkFrozen H1.out 1
  have f2 := blkFrozen H1.out 2
  simp at c0 c1 c2
  go_wp2_with fail
  go_ret
  refine ⟨rfl, ?_, ?_⟩
  · have h := blkSet 1 H1.out (.int .i64 (q : Int))
    first | exact h | simpa using h
  · refine ⟨HK.out.os, HK.out.tape, HK.out.output, by have := HK.out.size; simpa [World.setCell] using this, fun i hi hib => ?_⟩
    rw [Below.heap_setCell _ _ _ _ hib]
    exact HK.out.block i hi
set_option maxRecDepth 100000 in
set_option maxHeartbeats 1000000 in
theorem rtext_f (b : Nat) (s : ByteArray) (a : Nat) (bad : Bool) (hg : ∀ W, Calls Try.prog 93 #[.string s, .int .i64 (a : Int)] W fun e w' => e = .returned (.tuple #[.string ⟨#[]⟩, .int .i64 0, .bool false]) ∧ Below W.heap.size W w') (w : World) (hb : w.heap[b]? = some (.cells (rdC s a bad) 89 (0, 0))) :
    Calls Try.prog 57 #[.pointer (some ⟨b, 0, none⟩)] w fun e w' => e = .returned (.string ⟨#[]⟩) ∧ w'.heap[b]? = some (.cells (rdC s a true) 89 (0, 0)) ∧ KeptB w.heap.size b w w' := by
  have HG := Lib.hid hg
  have HB := Lib.hid hb
  clear hb hg
  go_enter Try.func57, Try.ntmps57
  go_upto_region 1 with fail
  refine wp_region_held_drew (S := (fun u => u.heap[b]? = some (.cells (rdC s a bad) 89 (0, 0)))) (by kernel_rfl) ?_ (fun hHeld => ?_)
  · first | exact hSn | exact HB.out
  refine wpAnyH_take (i := 0) (oi := { dst := some 7, op := _, type := _, pos := _, after := _, guard := _ }) (v := ?_) rfl (by kernel_rfl) (by kernel_rfl) (by kernel_rfl) (fun _ _ _ h => h) (Or.inl ⟨by rfl, ?_⟩) (by assumption) ?_
  rotate_left
  · intro u hSu; have hSv := blkCell hSu; clear hSu; go_simp; (try with_reducible rfl)
  try simp only [Act.put, List.setIfInBounds_toArray, List.set_cons_zero, List.set_cons_succ]
  refine wpAnyH_take (i := 1) (oi := { dst := some 8, op := _, type := _, pos := _, after := _, guard := _ }) (v := ?_) rfl (by kernel_rfl) (by kernel_rfl) (by kernel_rfl) (fun _ _ _ h => h) (Or.inl ⟨by rfl, ?_⟩) (by assumption) ?_
  rotate_left
  · intro u hSu; have hSv := blkCell hSu; clear hSu; go_simp; (try with_reducible rfl)
  try simp only [Act.put, List.setIfInBounds_toArray, List.set_cons_zero, List.set_cons_succ]
  refine wpAnyH_take (i := 2) (oi := { dst := some 9, op := _, type := _, pos := _, after := _, guard := _ }) (v := ?_) rfl (by kernel_rfl) (by kernel_rfl) (by kernel_rfl) (fun _ _ _ h => h) (Or.inl ⟨by rfl, ?_⟩) (by assumption) ?_
  rotate_left
  · intro u hSu; have hSv := blkCell hSu; clear hSu; go_simp; (try with_reducible rfl)
  try simp only [Act.put, List.setIfInBounds_toArray, List.set_cons_zero, List.set_cons_succ]
  refine wpAnyH_take (i := 3) (oi := { dst := some 10, op := _, type := _, pos := _, after := _, guard := _ }) (v := ?_) rfl (by kernel_rfl) (by kernel_rfl) (by kernel_rfl) (fun _ _ _ h => h) (Or.inl ⟨by rfl, ?_⟩) (by assumption) ?_
  rotate_left
  · intro u hSu; have hSv := blkCell hSu; clear hSu; go_simp; (try with_reducible rfl)
  try simp only [Act.put, List.setIfInBounds_toArray, List.set_cons_zero, List.set_cons_succ]
  refine wpAnyH_take (i := 4) (oi := { dst := some 11, op := _, type := _, pos := _, after := _, guard := _ }) (v := ?_) rfl (by kernel_rfl) (by kernel_rfl) (by kernel_rfl) (fun _ _ _ h => h) (Or.inl ⟨by rfl, ?_⟩) (by assumption) ?_
  rotate_left
  · intro u hSu; have hSv := blkCell hSu; clear hSu; go_simp; (try with_reducible rfl)
  try simp only [Act.put, List.setIfInBounds_toArray, List.set_cons_zero, List.set_cons_succ]
  refine wpAnyH_take (i := 5) (oi := { dst := some 12, op := _, type := _, pos := _, after := _, guard := _ }) (v := ?_) rfl (by kernel_rfl) (by kernel_rfl) (by kernel_rfl) (fun _ _ _ h => h) (Or.inl ⟨by rfl, ?_⟩) (by assumption) ?_
  rotate_left
  · intro u hSu; have hSv := blkCell hSu; clear hSu; go_simp; (try with_reducible rfl)
  try simp only [Act.put, List.setIfInBounds_toArray, List.set_cons_zero, List.set_cons_succ]
  refine wpAnyH_take (i := 6) (oi := { dst := some 13, op := _, type := _, pos := _, after := _, guard := _ }) (v := ?_) rfl (by kernel_rfl) (by kernel_rfl) (by kernel_rfl) (fun _ _ _ h => h) (Or.inl ⟨by rfl, ?_⟩) (by assumption) ?_
  rotate_left
  · intro u hSu; have hSv := blkCell hSu; clear hSu; go_simp; (try with_reducible rfl)
  try simp only [Act.put, List.setIfInBounds_toArray, List.set_cons_zero, List.set_cons_succ]
  refine wpAnyH_take (i := 7) (oi := { dst := some 14, op := _, type := _, pos := _, after := _, guard := _ }) (v := ?_) rfl (by kernel_rfl) (by kernel_rfl) (by kernel_rfl) (fun _ _ _ h => h) (Or.inl ⟨by rfl, ?_⟩) (by assumption) ?_
  rotate_left
  · intro u hSu; have hSv := blkCell hSu; clear hSu; go_simp; (try with_reducible rfl)
  try simp only [Act.put, List.setIfInBounds_toArray, List.set_cons_zero, List.set_cons_succ]
  refine wpAnyH_ready (rs := [8]) (by kernel_rfl) (by simp) ?_
  refine AllReadyH.cons (o := { dst := some 15, op := _, type := _, pos := _, after := _, guard := _ }) rfl (fun K hK => ?_) ?_
  rotate_left
  · exact AllReadyH.nil
  go_simp
  refine (HG.out _).mono ?_; rintro e w1 ⟨rfl, hb1⟩; have hSn := blkOld HB.out ((Below.refl _ w).drew.trans hb1); try go_simp
  refine hK.out _ _ ?_ (fun hHeld => ?_)
  · first | exact hSn | exact HB.out
  clear hK K
  try simp only [Act.put, List.setIfInBounds_toArray, List.set_cons_zero, List.set_cons_succ]
  refine wpAnyH_take (i := 9) (oi := { dst := some 6, op := _, type := _, pos := _, after := _, guard := _ }) (v := ?_) rfl (by kernel_rfl) (by kernel_rfl) (by kernel_rfl) (fun _ _ _ h => h) (Or.inl ⟨by rfl, ?_⟩) (by assumption) ?_
  rotate_left
  · intro u hSu; have hSv := blkCell hSu; clear hSu; go_simp; (try with_reducible rfl)
  try simp only [Act.put, List.setIfInBounds_toArray, List.set_cons_zero, List.set_cons_succ]
  refine wpAnyH_take (i := 10) (oi := { dst := some 16, op := _, type := _, pos := _, after := _, guard := _ }) (v := ?_) rfl (by kernel_rfl) (by kernel_rfl) (by kernel_rfl) (fun _ _ _ h => h) (Or.inl ⟨by rfl, ?_⟩) (by assumption) ?_
  rotate_left
  · intro u hSu; have hSv := blkCell hSu; clear hSu; go_simp; (try with_reducible rfl)
  try simp only [Act.put, List.setIfInBounds_toArray, List.set_cons_zero, List.set_cons_succ]
  refine wpAnyH_take (i := 11) (oi := { dst := some 17, op := _, type := _, pos := _, after := _, guard := _ }) (v := ?_) rfl (by kernel_rfl) (by kernel_rfl) (by kernel_rfl) (fun _ _ _ h => h) (Or.inl ⟨by rfl, ?_⟩) (by assumption) ?_
  rotate_left
  · intro u hSu; have hSv := blkCell hSu; clear hSu; go_simp; (try with_reducible rfl)
  try simp only [Act.put, List.setIfInBounds_toArray, List.set_cons_zero, List.set_cons_succ]
  refine wpAnyH_take (i := 12) (oi := { dst := some 18, op := _, type := _, pos := _, after := _, guard := _ }) (v := ?_) rfl (by kernel_rfl) (by kernel_rfl) (by kernel_rfl) (fun _ _ _ h => h) (Or.inl ⟨by rfl, ?_⟩) (by assumption) ?_
  rotate_left
  · intro u hSu; have hSv := blkCell hSu; clear hSu; go_simp; (try with_reducible rfl)
  try simp only [Act.put, List.setIfInBounds_toArray, List.set_cons_zero, List.set_cons_succ]
  refine wpAnyH_take (i := 13) (oi := { dst := some 3, op := _, type := _, pos := _, after := _, guard := _ }) (v := ?_) rfl (by kernel_rfl) (by kernel_rfl) (by kernel_rfl) (fun _ _ _ h => h) (Or.inl ⟨by rfl, ?_⟩) (by assumption) ?_
  rotate_left
  · intro u hSu; have hSv := blkCell hSu; clear hSu; go_simp; (try with_reducible rfl)
  try simp only [Act.put, List.setIfInBounds_toArray, List.set_cons_zero, List.set_cons_succ]
  refine wpAnyH_take (i := 14) (oi := { dst := some 4, op := _, type := _, pos := _, after := _, guard := _ }) (v := ?_) rfl (by kernel_rfl) (by kernel_rfl) (by kernel_rfl) (fun _ _ _ h => h) (Or.inl ⟨by rfl, ?_⟩) (by assumption) ?_
  rotate_left
  · intro u hSu; have hSv := blkCell hSu; clear hSu; go_simp; (try with_reducible rfl)
  try simp only [Act.put, List.setIfInBounds_toArray, List.set_cons_zero, List.set_cons_succ]
  refine wpAnyH_take (i := 15) (oi := { dst := some 5, op := _, type := _, pos := _, after := _, guard := _ }) (v := ?_) rfl (by kernel_rfl) (by kernel_rfl) (by kernel_rfl) (fun _ _ _ h => h) (Or.inl ⟨by rfl, ?_⟩) (by assumption) ?_
  rotate_left
  · intro u hSu; have hSv := blkCell hSu; clear hSu; go_simp; (try with_reducible rfl)
  try simp only [Act.put, List.setIfInBounds_toArray, List.set_cons_zero, List.set_cons_succ]
  refine wpAnyH_done (by kernel_rfl) ?_ _
  have H1 := Lib.hid hHeld
  have HK := Lib.hid (show Below w.heap.size w w1 from (Below.refl _ w).drew.trans hb1)
  clear hHeld hSn hb1
  have c0 := blkCell H1.out 0
  have c1 := blkCell H1.out 1
  have c2 := blkCell H1.out 2
  have f1 := blkFrozen H1.out 1
  have f2 := blkFrozen H1.out 2
  simp at c0 c1 c2
  go_wp2_with fail
  go_ret
  refine ⟨rfl, ?_, ?_⟩
  · have h := blkSet 2 H1.out (.bool true)
    first | exact h | simpa using h
  · refine ⟨HK.out.os, HK.out.tape, HK.out.output, by have := HK.out.size; simpa [World.setCell] using this, fun i hi hib => ?_⟩
    rw [Below.heap_setCell _ _ _ _ hib]
    exact HK.out.block i hi
theorem rtext_any (b : Nat) (s : ByteArray) (x : Rc.St) (hm : s.size ≤ 1000000000) (ha : x.at_ ≤ 2000000000) (w : World) (hb : w.heap[b]? = some (.cells (rdC s x.at_ x.bad) 89 (0, 0))) :
    Calls Try.prog 57 #[.pointer (some ⟨b, 0, none⟩)] w fun e w' => e = .returned (.string (Rc.textM s.data.toList x).1) ∧ w'.heap[b]? = some (.cells (rdC s (Rc.textM s.data.toList x).2.at_ (Rc.textM s.data.toList x).2.bad) 89 (0, 0)) ∧ KeptB w.heap.size b w w' := by
  obtain ⟨a, bad⟩ := x
  have hl : s.data.toList.length = s.size := by simp
  have HG := fun W => getText_any s a hm ha W
  by_cases hin : a + 2 + Oct.getN s.data.toList a 2 ≤ s.size
  · have hN : Rc.textM s.data.toList ⟨a, bad⟩ = (s.extract (a + 2) (a + 2 + Oct.getN s.data.toList a 2), (⟨a + 2 + Oct.getN s.data.toList a 2, bad⟩ : Rc.St)) := by
      unfold Rc.textM
      rw [if_pos (by show a + 2 + Oct.getN s.data.toList a 2 ≤ _; omega), extract_list]
    rw [hN]
    simp only [if_pos hin] at HG
    exact rtext_t b s a bad _ _ HG w hb
  · have hN : Rc.textM s.data.toList ⟨a, bad⟩ = (⟨#[]⟩, (⟨a, true⟩ : Rc.St)) := by
      unfold Rc.textM
      rw [if_neg (by show ¬ a + 2 + Oct.getN s.data.toList a 2 ≤ _; omega)]
    rw [hN]
    simp only [if_neg hin] at HG
    exact rtext_f b s a bad HG w hb
end Go.Proofs.Ytojaagnfjenhoaa
/- The walks over package rec: the forms of records. -/
namespace Go.Proofs.Ytojaagnfjenhoaa
open Go.RowKit
/-- The forms of all kinds. -/
def formsA : Array Value := ((List.range 10).flatMap fun k => [Value.bool (k == 2 || k == 3 || k == 8), .bool (k == 2), .bool (k == 3 || k == 4), .bool (k == 9), .bool (k != 0)]).toArray
theorem info_forms : (Try.prog.info? 144).map (·.size) = some formsA.size := by kernel_rfl
set_option maxRecDepth 100000 in
set_option maxHeartbeats 400000 in
theorem forms_any (w : World) :
    Calls Try.prog 92 #[] w fun e w' => e = .returned (.agg formsA) ∧ Below w.heap.size w w' := by
  go_enter Try.func92, Try.ntmps92
  go_wp2_with (with_reducible refine wpList_store_new rfl 144 (.tmp 0) (.tmp 10) rfl formsA _ _ rfl (by kernel_rfl) (by kernel_rfl) info_forms (by kernel_rfl) ?_)
  exact bodyPost_ret (v := .agg formsA) (results_cell rfl _ _ rfl (load_whole (heap_alloc_new w _) Try.underlying144 rfl info_forms)) rfl ⟨rfl, allocB _ _⟩
abbrev formV (a b c d e : Bool) : Value := .agg #[.bool a, .bool b, .bool c, .bool d, .bool e]
/-- What of returns. -/
def ofV (k : Int) : Value := .tuple #[formV (k == 2 || k == 3 || k == 8) (k == 2) (k == 3 || k == 4) (k == 9) (decide (1 ≤ k ∧ k ≤ 9)), .bool (decide (1 ≤ k ∧ k ≤ 9))]
theorem ofV_out {k : Int} (h : ¬ (0 ≤ k ∧ k ≤ 9)) : ofV k = .tuple #[formV false false false false false, .bool false] := by
  have h1 : (k == 2) = false := by simp; omega
  have h2 : (k == 3) = false := by simp; omega
  have h3 : (k == 4) = false := by simp; omega
  have h4 : (k == 8) = false := by simp; omega
  have h5 : (k == 9) = false := by simp; omega
  have h6 : decide (1 ≤ k ∧ k ≤ 9) = false := decide_eq_false (by omega)
  unfold ofV
  rw [h1, h2, h3, h4, h5, h6]
  rfl
theorem index_form0 (W : World) : (Instr.index 144 (.agg formsA) (.int .i64 ((0 : Nat) : Int))).run Try.prog W = .ok (.agg (formsA.extract (0 * 5) (0 * 5 + 5))) W := by kernel_rfl
theorem index_form1 (W : World) : (Instr.index 144 (.agg formsA) (.int .i64 ((1 : Nat) : Int))).run Try.prog W = .ok (.agg (formsA.extract (1 * 5) (1 * 5 + 5))) W := by kernel_rfl
theorem index_form2 (W : World) : (Instr.index 144 (.agg formsA) (.int .i64 ((2 : Nat) : Int))).run Try.prog W = .ok (.agg (formsA.extract (2 * 5) (2 * 5 + 5))) W := by kernel_rfl
theorem index_form3 (W : World) : (Instr.index 144 (.agg formsA) (.int .i64 ((3 : Nat) : Int))).run Try.prog W = .ok (.agg (formsA.extract (3 * 5) (3 * 5 + 5))) W := by kernel_rfl
theorem index_form4 (W : World) : (Instr.index 144 (.agg formsA) (.int .i64 ((4 : Nat) : Int))).run Try.prog W = .ok (.agg (formsA.extract (4 * 5) (4 * 5 + 5))) W := by kernel_rfl
theorem index_form5 (W : World) : (Instr.index 144 (.agg formsA) (.int .i64 ((5 : Nat) : Int))).run Try.prog W = .ok (.agg (formsA.extract (5 * 5) (5 * 5 + 5))) W := by kernel_rfl
theorem index_form6 (W : World) : (Instr.index 144 (.agg formsA) (.int .i64 ((6 : Nat) : Int))).run Try.prog W = .ok (.agg (formsA.extract (6 * 5) (6 * 5 + 5))) W := by kernel_rfl
theorem index_form7 (W : World) : (Instr.index 144 (.agg formsA) (.int .i64 ((7 : Nat) : Int))).run Try.prog W = .ok (.agg (formsA.extract (7 * 5) (7 * 5 + 5))) W := by kernel_rfl
theorem index_form8 (W : World) : (Instr.index 144 (.agg formsA) (.int .i64 ((8 : Nat) : Int))).run Try.prog W = .ok (.agg (formsA.extract (8 * 5) (8 * 5 + 5))) W := by kernel_rfl
theorem index_form9 (W : World) : (Instr.index 144 (.agg formsA) (.int .i64 ((9 : Nat) : Int))).run Try.prog W = .ok (.agg (formsA.extract (9 * 5) (9 * 5 + 5))) W := by kernel_rfl
theorem index_form (k : Nat) (hk : k < 10) (W : World) : (Instr.index 144 (.agg formsA) (.int .i64 (k : Int))).run Try.prog W = .ok (.agg (formsA.extract (k * 5) (k * 5 + 5))) W := by
  have hk : k = 0 ∨ k = 1 ∨ k = 2 ∨ k = 3 ∨ k = 4 ∨ k = 5 ∨ k = 6 ∨ k = 7 ∨ k = 8 ∨ k = 9 := by omega
  rcases hk with rfl | rfl | rfl | rfl | rfl | rfl | rfl | rfl | rfl | rfl
  · exact index_form0 W
  · exact index_form1 W
  · exact index_form2 W
  · exact index_form3 W
  · exact index_form4 W
  · exact index_form5 W
  · exact index_form6 W
  · exact index_form7 W
  · exact index_form8 W
  · exact index_form9 W
set_option maxRecDepth 100000 in
set_option maxHeartbeats 1000000 in
theorem of_in (k : Nat) (a b c d e : Bool) (hk : k < 10) (h : (formsA.extract (k * 5) (k * 5 + 5)) = #[.bool a, .bool b, .bool c, .bool d, .bool e]) (w : World) :
    Calls Try.prog 56 #[.int .i64 (k : Int)] w fun x w' => x = .returned (.tuple #[formV a b c d e, .bool e]) ∧ Below w.heap.size w w' := by
  have hix := index_form k hk
  rw [h] at hix
  clear h
  have h1 : ((k : Int) < 0) = False := by simp
  have hk2 : (k : Int) ≤ 9 := by omega
  generalize hF : formsA = F at hix
  clear hk
  go_enter Try.func56, Try.ntmps56
  go_upto_region 4 with ((go_at_call 92; (with_reducible refine (forms_any _).mono ?_); rintro x w2 ⟨rfl, hb2⟩; rw [hF]; have HB := Lib.hid hb2; clear hb2))
  have hne : w2.heap.size ≠ w.heap.size := by have := HB.out.size; simp at this; omega
  have hlt : w.heap.size < w2.heap.size := by have := HB.out.size; simp at this; omega
  have HR := Lib.hid (show (w2.alloc (.cells #[.bool a, .bool b, .bool c, .bool d, .bool e] 113)).heap[w.heap.size]? = some (.cells #[.bool false, .bool false, .bool false, .bool false, .bool false] 113 (0, 0)) from by
    rw [Below.heap_alloc _ _ _ hlt]; exact blkNew HB.out)
  have HN := Lib.hid (heap_alloc_new w2 (.cells #[.bool a, .bool b, .bool c, .bool d, .bool e] 113))
  have HV := Lib.hid (pastAlloc (o := .cells #[.bool a, .bool b, .bool c, .bool d, .bool e] 113) (joinB (allocB _ _) HB.out))
  generalize w2.alloc (.cells #[.bool a, .bool b, .bool c, .bool d, .bool e] 113) = V at HR HN HV ⊢
  have c0 := blkCell HN.out 0
  have c1 := blkCell HN.out 1
  have c2 := blkCell HN.out 2
  have c3 := blkCell HN.out 3
  have c4 := blkCell HN.out 4
  have r0 := blkCell HR.out 0
  have r1 := blkCell HR.out 1
  have r2 := blkCell HR.out 2
  have r3 := blkCell HR.out 3
  have r4 := blkCell HR.out 4
  have z0 := blkFrozen HR.out 0
  have z1 := blkFrozen HR.out 1
  have z2 := blkFrozen HR.out 2
  have z3 := blkFrozen HR.out 3
  have z4 := blkFrozen HR.out 4
  simp at c0 c1 c2 c3 c4 r0 r1 r2 r3 r4
  clear hix hF
  go_region
  all_goals
    go_wp2_with fail
    refine bodyPost_ret (v := .tuple #[formV a b c d e, .bool e]) (by simp [results, Try.results56, go_sem, *]) rfl ⟨rfl, (((((HV.out.setCell (Nat.le_refl _) _).setCell (Nat.le_refl _) _).setCell (Nat.le_refl _) _).setCell (Nat.le_refl _) _).setCell (Nat.le_refl _) _).drew⟩
set_option maxRecDepth 100000 in
set_option maxHeartbeats 1000000 in
theorem of_any (k : Int) (w : World) :
    Calls Try.prog 56 #[.int .i64 k] w fun x w' => x = .returned (ofV k) ∧ Below w.heap.size w w' := by
  by_cases h : 0 ≤ k ∧ k ≤ 9
  · obtain ⟨n, rfl⟩ := Int.eq_ofNat_of_zero_le h.1
    have hk : n = 0 ∨ n = 1 ∨ n = 2 ∨ n = 3 ∨ n = 4 ∨ n = 5 ∨ n = 6 ∨ n = 7 ∨ n = 8 ∨ n = 9 := by omega
    rcases hk with rfl | rfl | rfl | rfl | rfl | rfl | rfl | rfl | rfl | rfl
    · exact of_in 0 _ _ _ _ _ (by omega) (by kernel_rfl) w
    · exact of_in 1 _ _ _ _ _ (by omega) (by kernel_rfl) w
    · exact of_in 2 _ _ _ _ _ (by omega) (by kernel_rfl) w
    · exact of_in 3 _ _ _ _ _ (by omega) (by kernel_rfl) w
    · exact of_in 4 _ _ _ _ _ (by omega) (by kernel_rfl) w
    · exact of_in 5 _ _ _ _ _ (by omega) (by kernel_rfl) w
    · exact of_in 6 _ _ _ _ _ (by omega) (by kernel_rfl) w
    · exact of_in 7 _ _ _ _ _ (by omega) (by kernel_rfl) w
    · exact of_in 8 _ _ _ _ _ (by omega) (by kernel_rfl) w
    · exact of_in 9 _ _ _ _ _ (by omega) (by kernel_rfl) w
  · rw [ofV_out h]
    by_cases h0 : k < 0
    · clear h
      go_enter Try.func56, Try.ntmps56
      go_wp2_with fail
      exact bodyPost_ret (v := .tuple #[formV false false false false false, .bool false]) (by simp [results, Try.results56, go_sem]) rfl ⟨rfl, allocB _ _⟩
    · have h1 : 0 ≤ k := by omega
      have h2 : 9 < k := by omega
      clear h h0
      go_enter Try.func56, Try.ntmps56
      go_wp2_with fail
      exact bodyPost_ret (v := .tuple #[formV false false false false false, .bool false]) (by simp [results, Try.results56, go_sem]) rfl ⟨rfl, allocB _ _⟩
end Go.Proofs.Ytojaagnfjenhoaa
/- The walk over package rec: a reader's record: its boxes, and what each num and text does to them. -/
namespace Rc
theorem numM_le {l : List UInt8} {st st' : St} {k : Nat} {n : Int} (h : numM true l st k = (n, st')) : st'.at_ ≤ st.at_ + k := by
  unfold numM at h
  split at h
  · injection h with h1 h2; subst h2; exact Nat.le_refl _
  · injection h with h1 h2; subst h2; exact Nat.le_refl _
theorem textM_le {l : List UInt8} {st st' : St} {t : ByteArray} (h : textM l st = (t, st')) : st'.at_ ≤ st.at_ + l.length := by
  unfold textM at h
  split at h
  · rename_i h0
    injection h with h1 h2; subst h2; show _ + 2 + _ ≤ _; omega
  · injection h with h1 h2; subst h2; exact Nat.le_add_right _ _
theorem numM_in {l : List UInt8} {st st' : St} {k : Nat} {n : Int} {adv : Bool} (h : numM adv l st k = (n, st')) (hb : st'.bad = false) : st'.at_ ≤ l.length ∧ st.bad = false := by
  unfold numM at h
  split at h
  · rename_i h0
    injection h with h1 h2; subst h2; exact ⟨h0, hb⟩
  · injection h with h1 h2; subst h2; cases hb
theorem numM_nat {l : List UInt8} {st st' : St} {k : Nat} {n : Int} {adv : Bool} (h : numM adv l st k = (n, st')) : 0 ≤ n ∧ n < ((256 ^ k : Nat) : Int) := by
  have h0 : Oct.getN l st.at_ k < 256 ^ k := by
    have h1 := Oct.getL_lt ((l.drop st.at_).take k)
    have h2 : 256 ^ ((l.drop st.at_).take k).length ≤ 256 ^ k := Nat.pow_le_pow_right (by omega) (by rw [List.length_take]; omega)
    unfold Oct.getN; omega
  unfold numM at h
  split at h
  · injection h with h1 h2; subst h1; omega
  · injection h with h1 h2; subst h1
    have : 0 < 256 ^ k := Nat.pow_pos (by omega)
    omega
end Rc
namespace Go.Proofs.Ytojaagnfjenhoaa
open Go.RowKit
/-- A record without anything, in memory. -/
abbrev zeroA : Array Value := #[.int .i64 0, .int .i64 0, .int .i64 0, .int .i64 0, .int .i64 0, .int .i64 0, .int .i64 0, .int .i64 0, .int .i64 0, .string ⟨#[]⟩, .string ⟨#[]⟩, .int .i64 0, .int .i64 0, .string ⟨#[]⟩, .int .i64 0, .int .i64 0, .slice none 0 0, .slice none 0 0]
/-- The boxes of a reader's record: the reader, the result, the record, (behind the head) its form. -/
structure Rd (w : World) (b : Nat) (s : ByteArray) (st : Rc.St) (X : Array Value) (f : Nat) (F : Array Value) (u : World) : Prop where
  rd : u.heap[b]? = some (.cells (rdC s st.at_ st.bad) 89 (0, 0))
  br : u.heap[w.heap.size]? = some (.cells zeroA 49 (0, 0))
  bx : u.heap[w.heap.size + 1]? = some (.cells X 49 (0, 0))
  bf : f = w.heap.size ∨ w.heap.size + 1 < f ∧ u.heap[f]? = some (.cells F 113 (0, 0))
  bw : b < w.heap.size
  kept : KeptB w.heap.size b w u
theorem Rd.size {w u : World} {b f : Nat} {s : ByteArray} {st : Rc.St} {X F : Array Value} (h : Rd w b s st X f F u) : w.heap.size + 2 ≤ u.heap.size := heapLt h.bx
theorem Rd.turn {w u v : World} {b f : Nat} {s : ByteArray} {st st' : Rc.St} {X F : Array Value} (h : Rd w b s st X f F u) (hr : v.heap[b]? = some (.cells (rdC s st'.at_ st'.bad) 89 (0, 0))) (hk : KeptB u.heap.size b u v) : Rd w b s st' X f F v := by
  have hs := h.size
  have hw := h.bw
  refine ⟨hr, (hk.block _ (by omega) (by omega)).trans h.br, (hk.block _ (by omega) (by omega)).trans h.bx, ?_, hw, h.kept.trans ⟨hk.os, hk.tape, hk.output, hk.size, fun k hk1 hk2 => hk.block k (by omega) hk2⟩⟩
  rcases h.bf with h1 | ⟨h1, h2⟩
  · exact .inl h1
  · exact .inr ⟨h1, (hk.block _ (heapLt h2) (by omega)).trans h2⟩
theorem Rd.step {w u v : World} {b f : Nat} {s : ByteArray} {st : Rc.St} {X F : Array Value} (h : Rd w b s st X f F u) (hb : Below u.heap.size u v) : Rd w b s st X f F v :=
  h.turn (blkOld h.rd hb) ⟨hb.os, hb.tape, hb.output, hb.size, fun k hk _ => hb.block k hk⟩
theorem Rd.drew {w u : World} {b f : Nat} {s : ByteArray} {st : Rc.St} {X F : Array Value} (h : Rd w b s st X f F u) : Rd w b s st X f F u.drew := h.step (Below.refl _ _).drew
theorem Rd.set {w u : World} {b f : Nat} {s : ByteArray} {st : Rc.St} {X F : Array Value} (h : Rd w b s st X f F u) (i : Nat) (v : Value) : Rd w b s st (X.setIfInBounds i v) f F (u.setCell ⟨w.heap.size + 1, i, none⟩ v) := by
  have hw := h.bw
  have hh : ∀ k, k ≠ w.heap.size + 1 → (u.setCell ⟨w.heap.size + 1, i, none⟩ v).heap[k]? = u.heap[k]? := fun k hk => Below.heap_setCell _ _ _ _ hk
  refine ⟨(hh _ (by omega)).trans h.rd, (hh _ (by omega)).trans h.br, blkSet i h.bx v, ?_, hw, h.kept.trans ⟨rfl, rfl, rfl, by simp [World.setCell], fun k hk1 hk2 => hh k (by omega)⟩⟩
  rcases h.bf with h1 | ⟨h1, h2⟩
  · exact .inl h1
  · exact .inr ⟨h1, (hh _ (by omega)).trans h2⟩
theorem Rd.form {w u : World} {b f : Nat} {s : ByteArray} {st : Rc.St} {X F : Array Value} (h : Rd w b s st X f F u) (hf : w.heap.size < f) : u.heap[f]? = some (.cells F 113 (0, 0)) := by
  rcases h.bf with h1 | ⟨h1, h2⟩
  · omega
  · exact h2
theorem Rd.formed {w u : World} {b f : Nat} {s : ByteArray} {st : Rc.St} {X F : Array Value} (h : Rd w b s st X f F u) (G : Array Value) : Rd w b s st X u.heap.size G (u.alloc (.cells G 113)) := by
  have hs := h.size
  have h1 := h.step (allocB u (.cells G 113))
  exact ⟨h1.rd, h1.br, h1.bx, .inr ⟨by omega, heap_alloc_new u _⟩, h1.bw, h1.kept⟩
theorem rd_new {w : World} {b : Nat} {s : ByteArray} {st : Rc.St} (hb : w.heap[b]? = some (.cells (rdC s st.at_ st.bad) 89 (0, 0))) :
    Rd w b s st zeroA w.heap.size #[] ((w.alloc (.cells zeroA 49)).alloc (.cells zeroA 49)) :=
  ⟨blkOld hb (pastAlloc (allocB _ _)), new21 _ _ _, by simpa using new2 w _ _, .inl rfl, heapLt hb, KeptB.of_below (Nat.le_refl _) (pastAlloc (allocB _ _))⟩
theorem Rd.num {w u : World} {b f : Nat} {s : ByteArray} {st st' : Rc.St} {X F : Array Value} {n : Int} (h : Rd w b s st X f F u) (k : Nat) (h1 : 1 ≤ k) (h6 : k ≤ 6) (hn : Rc.numM true s.data.toList st k = (n, st')) (hm : s.size ≤ 1000000) (ha : st.at_ ≤ 2000000000) :
    Calls Try.prog 55 #[.pointer (some ⟨b, 0, none⟩), .int .i64 (k : Int)] u fun e v => e = .returned (.int .i64 n) ∧ Rd w b s st' X f F v := by
  refine (rnum_any b s st k h1 h6 (by omega) ha u h.rd).mono ?_
  rintro e v ⟨rfl, h2, h3⟩
  rw [hn] at h2 ⊢
  exact ⟨rfl, h.turn h2 h3⟩
theorem Rd.num1 {w u : World} {b f : Nat} {s : ByteArray} {st st' : Rc.St} {X F : Array Value} {n : Int} (h : Rd w b s st X f F u) (hn : Rc.numM true s.data.toList st 1 = (n, st')) (hm : s.size ≤ 1000000) (ha : st.at_ ≤ 2000000000) :
    Calls Try.prog 55 #[.pointer (some ⟨b, 0, none⟩), .int .i64 1] u fun e v => e = .returned (.int .i64 n) ∧ Rd w b s st' X f F v := h.num 1 (by omega) (by omega) hn hm ha
theorem Rd.num2 {w u : World} {b f : Nat} {s : ByteArray} {st st' : Rc.St} {X F : Array Value} {n : Int} (h : Rd w b s st X f F u) (hn : Rc.numM true s.data.toList st 2 = (n, st')) (hm : s.size ≤ 1000000) (ha : st.at_ ≤ 2000000000) :
    Calls Try.prog 55 #[.pointer (some ⟨b, 0, none⟩), .int .i64 2] u fun e v => e = .returned (.int .i64 n) ∧ Rd w b s st' X f F v := h.num 2 (by omega) (by omega) hn hm ha
theorem Rd.num3 {w u : World} {b f : Nat} {s : ByteArray} {st st' : Rc.St} {X F : Array Value} {n : Int} (h : Rd w b s st X f F u) (hn : Rc.numM true s.data.toList st 3 = (n, st')) (hm : s.size ≤ 1000000) (ha : st.at_ ≤ 2000000000) :
    Calls Try.prog 55 #[.pointer (some ⟨b, 0, none⟩), .int .i64 3] u fun e v => e = .returned (.int .i64 n) ∧ Rd w b s st' X f F v := h.num 3 (by omega) (by omega) hn hm ha
theorem Rd.num6 {w u : World} {b f : Nat} {s : ByteArray} {st st' : Rc.St} {X F : Array Value} {n : Int} (h : Rd w b s st X f F u) (hn : Rc.numM true s.data.toList st 6 = (n, st')) (hm : s.size ≤ 1000000) (ha : st.at_ ≤ 2000000000) :
    Calls Try.prog 55 #[.pointer (some ⟨b, 0, none⟩), .int .i64 6] u fun e v => e = .returned (.int .i64 n) ∧ Rd w b s st' X f F v := h.num 6 (by omega) (by omega) hn hm ha
/-- A record whose lists, if there are any, lie in memory from block n on. -/
structure RecN (n : Nat) (w : World) (r : Rc.Rec) (A : Option Addr) (c : Nat) (B : Option Addr) (d : Nat) : Prop where
  rr : RecR w r A c B d
  ta : NewT n w 106 A
  tb : NewT n w 108 B
theorem RecN.mono {n m : Nat} {w : World} {r : Rc.Rec} {A B : Option Addr} {c d : Nat} (h : RecN n w r A c B d) (hm : m ≤ n) : RecN m w r A c B d := ⟨h.rr, h.ta.mono hm, h.tb.mono hm⟩
theorem RecN.below {n : Nat} {w w' : World} {r : Rc.Rec} {A B : Option Addr} {c d : Nat} (h : RecN n w r A c B d) (hb : Below w.heap.size w w') : RecN n w' r A c B d := ⟨h.rr.below hb, h.ta.below hb, h.tb.below hb⟩
/-- Some blocks turn, none of which the record has. -/
theorem RecN.turn {n : Nat} {w v : World} {r : Rc.Rec} {A B : Option Addr} {c d : Nat} (h : RecN n w r A c B d) (hs : w.heap.size ≤ v.heap.size) (hk : ∀ k cs T fr, n ≤ k → w.heap[k]? = some (.cells cs T fr) → T = 106 ∨ T = 108 → v.heap[k]? = w.heap[k]?) : RecN n v r A c B d := by
  refine ⟨⟨fun h0 => ?_, fun h0 => ?_, h.rr.small⟩, fun ad e => ?_, fun ad e => ?_⟩
  · obtain ⟨g, off, e1, e2, e3, e4⟩ := h.rr.txns h0
    obtain ⟨h1, cs, fr, h2⟩ := h.ta _ e1
    refine ⟨g, off, e1, e2, Nat.lt_of_lt_of_le e3 hs, fun j u hj => ?_⟩
    have := e4 j u hj
    unfold World.cell? at this ⊢
    rw [hk _ _ _ _ h1 h2 (.inl rfl)]
    exact this
  · obtain ⟨g, off, e1, e2, e3, e4⟩ := h.rr.dirty h0
    obtain ⟨h1, cs, fr, h2⟩ := h.tb _ e1
    refine ⟨g, off, e1, e2, Nat.lt_of_lt_of_le e3 hs, fun j u hj => ?_⟩
    have := e4 j u hj
    unfold World.cell? at this ⊢
    rw [hk _ _ _ _ h1 h2 (.inr rfl)]
    exact this
  · obtain ⟨h1, cs, fr, h2⟩ := h.ta ad e
    exact ⟨h1, cs, fr, (hk _ _ _ _ h1 h2 (.inl rfl)).trans h2⟩
  · obtain ⟨h1, cs, fr, h2⟩ := h.tb ad e
    exact ⟨h1, cs, fr, (hk _ _ _ _ h1 h2 (.inr rfl)).trans h2⟩
/-- A store into a block of another kind, or into an older one. -/
theorem RecN.row {n : Nat} {w : World} {r : Rc.Rec} {A B : Option Addr} {c d : Nat} (h : RecN n w r A c B d) (b : Nat) (cs : Array Value) (hb : b < n) : RecN n (w.setRow b cs) r A c B d :=
  h.turn (by show _ ≤ (w.heap.modify _ _).size; simp) (fun k _ _ _ hk _ _ => heap_setRow_other _ _ _ _ (by omega))
theorem RecN.set {n : Nat} {w : World} {r : Rc.Rec} {A B : Option Addr} {c d : Nat} (h : RecN n w r A c B d) (b j : Nat) (v : Value) (hb : b < n) : RecN n (w.setCell ⟨b, j, none⟩ v) r A c B d :=
  h.turn (by simp [World.setCell]) (fun k _ _ _ hk _ _ => Below.heap_setCell _ _ _ _ (by show k ≠ b; omega))
theorem RecN.other {n : Nat} {w : World} {r : Rc.Rec} {A B : Option Addr} {c d : Nat} (h : RecN n w r A c B d) {b : Nat} {cur : Array Value} {T : TypeId} {fr : Nat × Nat} (hb : w.heap[b]? = some (.cells cur T fr)) (h1 : T ≠ 106) (h2 : T ≠ 108) (cs : Array Value) : RecN n (w.setRow b cs) r A c B d :=
  h.turn (by show _ ≤ (w.heap.modify _ _).size; simp) (fun k cs' T' fr' _ hk hT => heap_setRow_other _ _ _ _ (fun e => by
    subst e
    rw [hb] at hk
    injection hk with hk
    injection hk with _ hk
    rcases hT with h3 | h3
    · exact h1 (hk.trans h3)
    · exact h2 (hk.trans h3)))
/-- A row of another kind grows. -/
theorem RecN.grown {n m size B0 : Nat} {w w' : World} {r : Rc.Rec} {A B : Option Addr} {c d : Nat} {e : TypeId} {v : Value} {xs : List Value} (h : RecN n w r A c B d) (ho : w.ownsRow B0 e size v m xs) (h1 : e ≠ 106) (h2 : e ≠ 108) (hg : w.grownBy w' v.ownBlock) : RecN n w' r A c B d :=
  h.turn hg.size (fun k cs' T' fr' _ hk hT => hg.block k (heapLt hk) (fun e1 => ownApart ho hk (fun e2 => by
    rcases hT with h3 | h3
    · exact h1 (e2.trans h3)
    · exact h2 (e2.trans h3)) e1.symm))
/-- What record returns. -/
def RecOut (r : Rc.Rec) (b : Nat) (w : World) (e : Ending) (w' : World) : Prop :=
  ∃ A c B d, e = .returned (recV r (.slice A r.txns.length c) (.slice B r.dirty.length d)) ∧ RecN w.heap.size w' r A c B d ∧ KeptB w.heap.size b w w'
theorem Rd.text {w u : World} {b f : Nat} {s : ByteArray} {st st' : Rc.St} {X F : Array Value} {t : ByteArray} (h : Rd w b s st X f F u) (hn : Rc.textM s.data.toList st = (t, st')) (hm : s.size ≤ 1000000) (ha : st.at_ ≤ 2000000000) :
    Calls Try.prog 57 #[.pointer (some ⟨b, 0, none⟩)] u fun e v => e = .returned (.string t) ∧ Rd w b s st' X f F v := by
  refine (rtext_any b s st (by omega) ha u h.rd).mono ?_
  rintro e v ⟨rfl, h2, h3⟩
  rw [hn] at h2 ⊢
  exact ⟨rfl, h.turn h2 h3⟩
theorem heap_setRow_ne (w : World) (b : Nat) (cs : Array Value) (k : Nat) (h : k ≠ b) : (w.setRow b cs).heap[k]? = w.heap[k]? := by
  show (w.heap.modify b _)[k]? = _
  rw [Array.getElem?_modify, if_neg (fun e => h e.symm)]
theorem Rd.done {w u : World} {b f : Nat} {s : ByteArray} {st : Rc.St} {X F : Array Value} (h : Rd w b s st X f F u) : (u.setRow w.heap.size X).heap[w.heap.size]? = some (.cells X 49 (0, 0)) ∧ KeptB w.heap.size b w (u.setRow w.heap.size X) :=
  ⟨setRow_heap _ _ _ _ _ _ h.br, h.kept.trans ⟨rfl, rfl, rfl, by show _ ≤ (u.heap.modify _ _).size; simp, fun k hk _ => heap_setRow_ne _ _ _ _ (by omega)⟩⟩
end Go.Proofs.Ytojaagnfjenhoaa
/- The walk over package rec: a reader's record, of kinds without more. -/
namespace Go.Proofs.Ytojaagnfjenhoaa
open Go.RowKit
set_option maxRecDepth 100000 in
set_option maxHeartbeats 2000000 in
theorem record_other (b : Nat) (s : ByteArray) (hm : s.size ≤ 1000000) (s1 : Rc.St) (kd : Int) (hk2 : kd ≠ 2) (hk3 : kd ≠ 3) (hk4 : kd ≠ 4) (hk8 : kd ≠ 8) (hk9 : kd ≠ 9) (h0 : Rc.numM true s.data.toList ⟨0, false⟩ 1 = (kd, s1)) (w : World) (hb : w.heap[b]? = some (.cells (rdC s 0 false) 89 (0, 0))) :
    Calls Try.prog 36 #[.pointer (some ⟨b, 0, none⟩)] w (RecOut (Rc.readM true s.data.toList) b w) := by
  have hl : s.data.toList.length = s.size := by simp
  have a1 : s1.at_ ≤ 1 := Rc.numM_le h0
  have C0 := Lib.hid (fun X f F u (hu : Rd w b s ⟨0, false⟩ X f F u) => hu.num1 h0 hm (by show 0 ≤ _; omega))
  rcases h1 : Rc.numM true s.data.toList s1 6 with ⟨lsn, s2⟩
  have a2 : s2.at_ ≤ s1.at_ + 6 := Rc.numM_le h1
  have C1 := Lib.hid (fun X f F u (hu : Rd w b s s1 X f F u) => hu.num6 h1 hm (by omega))
  rcases h2 : Rc.numM true s.data.toList s2 6 with ⟨prev, s3⟩
  have a3 : s3.at_ ≤ s2.at_ + 6 := Rc.numM_le h2
  have C2 := Lib.hid (fun X f F u (hu : Rd w b s s2 X f F u) => hu.num6 h2 hm (by omega))
  rcases h3 : Rc.numM true s.data.toList s3 6 with ⟨txn, s4⟩
  have a4 : s4.at_ ≤ s3.at_ + 6 := Rc.numM_le h3
  have C3 := Lib.hid (fun X f F u (hu : Rd w b s s3 X f F u) => hu.num6 h3 hm (by omega))
  have e0 : Rc.headM true s.data.toList = (Rc.bare kd lsn prev txn, s4) := by
    unfold Rc.headM; simp only [h0, h1, h2, h3]
  have RD : Rc.readM true s.data.toList = Rc.bare kd lsn prev txn := by
    unfold Rc.readM
    rw [e0]
    show Rc.restM true _ (Rc.bare kd lsn prev txn) s4 = _
    unfold Rc.restM
    have hkk : (Rc.bare kd lsn prev txn).kind = kd := rfl
    rw [hkk, if_neg hk2, if_neg hk3, if_neg hk4, if_neg hk8, if_neg hk9]
  obtain ⟨e, HOF⟩ : ∃ e, Hid (∀ W, Calls Try.prog 56 #[.int .i64 kd] W fun x W' => x = .returned (.tuple #[formV false false false false e, .bool e]) ∧ Below W.heap.size W W') := by
    refine ⟨decide (1 ≤ kd ∧ kd ≤ 9), Lib.hid (fun W => ?_)⟩
    have h := of_any kd W
    rw [show ofV kd = .tuple #[formV false false false false (decide (1 ≤ kd ∧ kd ≤ 9)), .bool (decide (1 ≤ kd ∧ kd ≤ 9))] from by unfold ofV; simp [hk2, hk3, hk4, hk8, hk9]] at h
    exact h
  clear hk2 hk3 hk4 hk8 hk9
  have RDH := Lib.hid RD
  clear RD
  have HX := Lib.hid (rd_new (st := ⟨0, false⟩) hb)
  clear hb e0 h0 a1 h1 a2 h2 a3 h3 a4
  go_enter Try.func36, Try.ntmps36
  go_upto_region 2 with fail
  obtain ⟨W0, hW0⟩ : ∃ W, W = (w.alloc (.cells #[.int .i64 0, .int .i64 0, .int .i64 0, .int .i64 0, .int .i64 0, .int .i64 0, .int .i64 0, .int .i64 0, .int .i64 0, .string ⟨#[]⟩, .string ⟨#[]⟩, .int .i64 0, .int .i64 0, .string ⟨#[]⟩, .int .i64 0, .int .i64 0, .slice none 0 0, .slice none 0 0] 49)).alloc (.cells #[.int .i64 0, .int .i64 0, .int .i64 0, .int .i64 0, .int .i64 0, .int .i64 0, .int .i64 0, .int .i64 0, .int .i64 0, .string ⟨#[]⟩, .string ⟨#[]⟩, .int .i64 0, .int .i64 0, .string ⟨#[]⟩, .int .i64 0, .int .i64 0, .slice none 0 0, .slice none 0 0] 49) := ⟨_, rfl⟩
  rw [← hW0] at HX ⊢
  clear hW0
  go_upto_region 3 with (first | (go_at_call 55; (with_reducible refine (C0.out _ _ _ _ HX.out).mono ?_); rintro e w1 ⟨rfl, hS1⟩; have hz1 := blkFrozen hS1.bx; have hy1 := blkCell hS1.bx))
  obtain ⟨U1, hU1⟩ : ∃ W, W = (w1.setCell ⟨w.heap.size + 1, 3, none⟩ (.int .i64 kd)) := ⟨_, rfl⟩
  have H1 : Hid (Rd w b s s1 #[.int .i64 0, .int .i64 0, .int .i64 0, .int .i64 kd, .int .i64 0, .int .i64 0, .int .i64 0, .int .i64 0, .int .i64 0, .string ⟨#[]⟩, .string ⟨#[]⟩, .int .i64 0, .int .i64 0, .string ⟨#[]⟩, .int .i64 0, .int .i64 0, .slice none 0 0, .slice none 0 0] w.heap.size #[] (w1.setCell ⟨w.heap.size + 1, 3, none⟩ (.int .i64 kd))) := Lib.hid (by have h := (hS1.set 3 (.int .i64 kd)); first | exact h | simpa using h)
  rw [← hU1] at H1 ⊢
  clear hU1 hS1 hz1 hy1 HX
  have hcx := blkCell H1.out.bx
  go_upto_region 4 with (go_at_call 56; (with_reducible refine (HOF.out _).mono ?_); rintro e w9 ⟨rfl, hb9⟩)
  have HF := Lib.hid ((H1.out.step hb9).formed #[.bool false, .bool false, .bool false, .bool false, .bool e])
  have hf : w.heap.size + 1 < w9.heap.size := by have h1 := H1.out.size; have h2 := hb9.size; omega
  obtain ⟨f, hfe⟩ : ∃ f, f = w9.heap.size := ⟨_, rfl⟩
  rw [← hfe] at HF hf ⊢
  obtain ⟨WF, hWF⟩ : ∃ W, W = w9.alloc (.cells #[.bool false, .bool false, .bool false, .bool false, .bool e] 113) := ⟨_, rfl⟩
  rw [← hWF] at HF ⊢
  clear hWF hfe hb9 hcx H1
  have hF := blkCell (HF.out.form (by omega))
  go_upto_region 5 with (first | (go_at_call 55; (with_reducible refine (C1.out _ _ _ _ HF.out).mono ?_); rintro e w2 ⟨rfl, hS2⟩; have hz2 := blkFrozen hS2.bx; have hy2 := blkCell hS2.bx) | (go_at_call 55; (with_reducible refine (C2.out _ _ _ _ hS2).mono ?_); rintro e w3 ⟨rfl, hS3⟩; have hz3 := blkFrozen hS3.bx; have hy3 := blkCell hS3.bx) | (go_at_call 55; (with_reducible refine (C3.out _ _ _ _ hS3).mono ?_); rintro e w4 ⟨rfl, hS4⟩; have hz4 := blkFrozen hS4.bx; have hy4 := blkCell hS4.bx))
  obtain ⟨U4, hU4⟩ : ∃ W, W = (((w4.setCell ⟨w.heap.size + 1, 0, none⟩ (.int .i64 lsn)).setCell ⟨w.heap.size + 1, 1, none⟩ (.int .i64 prev)).setCell ⟨w.heap.size + 1, 2, none⟩ (.int .i64 txn)) := ⟨_, rfl⟩
  have H4 : Hid (Rd w b s s4 #[.int .i64 lsn, .int .i64 prev, .int .i64 txn, .int .i64 kd, .int .i64 0, .int .i64 0, .int .i64 0, .int .i64 0, .int .i64 0, .string ⟨#[]⟩, .string ⟨#[]⟩, .int .i64 0, .int .i64 0, .string ⟨#[]⟩, .int .i64 0, .int .i64 0, .slice none 0 0, .slice none 0 0] f #[.bool false, .bool false, .bool false, .bool false, .bool e] (((w4.setCell ⟨w.heap.size + 1, 0, none⟩ (.int .i64 lsn)).setCell ⟨w.heap.size + 1, 1, none⟩ (.int .i64 prev)).setCell ⟨w.heap.size + 1, 2, none⟩ (.int .i64 txn))) := Lib.hid (by have h := (((hS4.set 0 (.int .i64 lsn)).set 1 (.int .i64 prev)).set 2 (.int .i64 txn)); first | exact h | simpa using h)
  rw [← hU4] at H4 ⊢
  clear hU4 hS4 hz4 hy4 hS3 hz3 hy3 hS2 hz2 hy2 HF hF
  have hF := blkCell (H4.out.form (by omega))
  go_upto_region 26 with fail
  clear hF
  go_wp2_with (first | (with_reducible refine listLoad (by kernel_rfl) 49 (.tmp 3) rfl (w.heap.size + 1) rfl #[.int .i64 lsn, .int .i64 prev, .int .i64 txn, .int .i64 kd, .int .i64 0, .int .i64 0, .int .i64 0, .int .i64 0, .int .i64 0, .string ⟨#[]⟩, .string ⟨#[]⟩, .int .i64 0, .int .i64 0, .string ⟨#[]⟩, .int .i64 0, .int .i64 0, .slice none 0 0, .slice none 0 0] _ H4.out.bx _ Try.underlying49 (by kernel_rfl) (by kernel_rfl) ?_) | (with_reducible refine listStore (by kernel_rfl) 49 (.tmp 2) (.tmp 124) rfl w.heap.size #[.int .i64 lsn, .int .i64 prev, .int .i64 txn, .int .i64 kd, .int .i64 0, .int .i64 0, .int .i64 0, .int .i64 0, .int .i64 0, .string ⟨#[]⟩, .string ⟨#[]⟩, .int .i64 0, .int .i64 0, .string ⟨#[]⟩, .int .i64 0, .int .i64 0, .slice none 0 0, .slice none 0 0] _ _ rfl rfl H4.out.br (by kernel_rfl) (by kernel_rfl) (by kernel_rfl) ?_))
  refine bodyPost_ret (v := .agg #[.int .i64 lsn, .int .i64 prev, .int .i64 txn, .int .i64 kd, .int .i64 0, .int .i64 0, .int .i64 0, .int .i64 0, .int .i64 0, .string ⟨#[]⟩, .string ⟨#[]⟩, .int .i64 0, .int .i64 0, .string ⟨#[]⟩, .int .i64 0, .int .i64 0, .slice none 0 0, .slice none 0 0]) (results_cell rfl _ _ rfl (load_whole H4.out.done.1 Try.underlying49 (by kernel_rfl) (by kernel_rfl))) rfl ?_
  rw [RDH.out]
  exact ⟨none, 0, none, 0, rfl, ⟨⟨Reads.none_ _ _ _ _, Reads.none_ _ _ _ _, ⟨Nat.zero_le _, Nat.zero_le _⟩⟩, NewT.none_ _ _ _, NewT.none_ _ _ _⟩, H4.out.done.2⟩
end Go.Proofs.Ytojaagnfjenhoaa
