/- The walks over the reference of the disk: New, Arm, Start. -/
import Derived.Test.YtojaagnfjenhoaaGs04
import Derived.BigRegion
import Derived.Test.YtojaagnfjenhoaaGs02
import Derived.Test.YtojaagnfjenhoaaGs03
namespace Go.Proofs.Ytojaagnfjenhoaa
open Go.RowKit
theorem make_zeros (n : Nat) (hn : n ≤ 4096) (W : World) : (Instr.makeSlice 75 (.int .i64 (n : Int)) (.int .i64 (n : Int))).run Try.prog W = .ok (.slice (some ⟨W.heap.size, 0, none⟩) n n) (W.alloc (.cells (madeCells #[Value.int .u8 0] n) 5)) := by
  obtain ⟨i0, hi, hz0, hz1, hz2⟩ := info_parts info_byte
  have h := run_make (P := Try.prog) W 75 5 i0 (.int .u8 0) Try.underlying75 hi hz0 .i64 .i64 n n (by omega) (by omega) (by rw [hz2]; omega) (by omega)
  rw [hz1, Int.toNat_natCast, Nat.mul_one] at h
  exact h
theorem zeros_back (n : Nat) (W : World) : (convert 75 9 (.slice (some ⟨W.heap.size, 0, none⟩) n n)).run Try.prog (W.alloc (.cells (madeCells #[Value.int .u8 0] n) 5)) = .ok (.string ⟨(List.replicate n 0).toArray⟩) (W.alloc (.cells (madeCells #[Value.int .u8 0] n) 5)) := by
  have h := run_convert_bytes_back (P := Try.prog) (W.alloc (.cells (madeCells #[Value.int .u8 0] n) 5)) 75 9 5 ⟨W.heap.size, 0, none⟩ n (List.replicate n 0) Try.underlying75 Try.underlying5 Try.underlying9 (fun j hj => by
    have hj' : j < n := by simpa using hj
    have ha : (⟨W.heap.size, 0, none⟩ : Addr).add j = ⟨W.heap.size, j, none⟩ := by
      unfold Addr.add; split
      · rename_i h; rw [h]
      · simp
    rw [ha, World.cell?_alloc_new]
    simp [madeCells, hj', Nat.mod_one])
  rw [List.length_replicate] at h
  exact h
theorem info_string : (Try.prog.info? 9).map (fun i => (i.zero, i.size, i.bytes)) = some (some (.string ⟨#[]⟩), 1, 16) := by kernel_rfl
set_option maxRecDepth 100000 in
theorem zeros_any (w : World) :
    Calls Try.prog 24 #[] w fun e w' => e = .returned (.string Lg.zero128) ∧ Below w.heap.size w w' := by
  have hmk := make_zeros 128 (by omega)
  have hcv := zeros_back 128
  unfold Lg.zero128
  generalize hR : (⟨(List.replicate 128 0).toArray⟩ : ByteArray) = R at hcv ⊢
  clear hR
  have hmk2 : ∀ W : World, (Instr.makeSlice 75 (.int .i64 128) (.int .i64 128)).run Try.prog W = .ok (.slice (some ⟨W.heap.size, 0, none⟩) 128 128) (W.alloc (.cells (madeCells #[Value.int .u8 0] 128) 5)) := hmk
  clear hmk
  go_enter Try.func24, Try.ntmps24
  go_wp2_with fail
  go_ret
  exact ⟨rfl, allocB _ _⟩
/-- What New answers. -/
def NewOut (d : Lg.Dk) (w : World) (e : Ending) (w' : World) : Prop :=
  ∃ A c, e = .returned (.tuple #[diskV d A c, .int .i64 0]) ∧ DiskR w' d A c ∧ NewT w.heap.size w' 9 A ∧ Below w.heap.size w w'
set_option maxRecDepth 100000 in
set_option maxHeartbeats 4000000 in
theorem dnew_any (n : Nat) (h1 : 1 ≤ n) (h2 : n ≤ 65536) (w : World) :
    Calls Try.prog 11 #[.int .i64 (n : Int)] w (NewOut (Lg.newD n) w) := by
  have HZ := Lib.hid (fun W => zeros_any W)
  have HF := Lib.hid (fun v c A w' (ho : OwnL strC 1 9 (w.heap.size + 2) w' v (List.replicate n Lg.zero128)) (hv : v = .slice A n c) (hr : Reads w' A c n ((List.replicate n Lg.zero128).flatMap strC)) (hb : Below w.heap.size w w') => show NewOut (Lg.newD n) w (.returned (.tuple #[.agg #[.slice A n c, .int .i64 (-1), .bool false], .int .i64 0])) w' from by
    refine ⟨A, c, ?_, ⟨?_, ?_⟩, ?_, hb⟩
    · unfold diskV Lg.newD; simp
    · unfold Lg.newD; simpa using hr
    · unfold Lg.newD; simp; omega
    · unfold OwnL at ho
      rw [List.length_replicate, hv] at ho
      exact (NewT.own ho).mono (by omega))
  generalize Lg.zero128 = z at HZ HF ⊢
  generalize NewOut (Lg.newD n) w = Q at HF ⊢
  have h1' : ¬ (n : Int) < 1 := by omega
  have h2' : (n : Int) ≤ 65536 := by omega
  go_enter Try.func11, Try.ntmps11
  go_upto_region 4 with fail
  have H0 := Lib.hid (show BxL w.heap.size w [(#[.slice none 0 0, .int .i64 0, .bool false], 24), (#[.slice none 0 0, .int .i64 (-1), .bool false], 24)] ((w.alloc (.cells #[.slice none 0 0, .int .i64 0, .bool false] 24)).alloc (.cells #[.slice none 0 0, .int .i64 (-1), .bool false] 24)) from ((BxL.nil (Below.refl w.heap.size w)).new (by simp) #[.slice none 0 0, .int .i64 0, .bool false] 24).new (by simp) #[.slice none 0 0, .int .i64 (-1), .bool false] 24)
  obtain ⟨W0, hW0⟩ : ∃ W, W = ((w.alloc (.cells #[.slice none 0 0, .int .i64 0, .bool false] 24)).alloc (.cells #[.slice none 0 0, .int .i64 (-1), .bool false] 24)) := ⟨_, rfl⟩
  rw [← hW0] at H0 ⊢
  clear hW0
  go_wp2_with fail
  go_loopw [5] (fun i wr => ∃ (k : Nat) (v : Value), k ≤ n ∧ i = .int .i64 (k : Int) ∧ BxL w.heap.size w [(#[.slice none 0 0, .int .i64 0, .bool false], 24), (#[v, .int .i64 (-1), .bool false], 24)] wr ∧ OwnL strC 1 9 (w.heap.size + 2) wr v (List.replicate k z)) (fun i _ => n - (intOf i).toNat)
  case atStart => exact ⟨0, .slice none 0 0, Nat.zero_le _, rfl, H0.out, ownNil _ _ _ _⟩
  case round =>
    obtain ⟨k, v, hk, rfl, hbx, hown⟩ := hrel
    have HB := Lib.hid hbx
    have hO : wr.ownsRow (w.heap.size + 2) 9 1 v k ((List.replicate k z).flatMap strC) := by
      have h := hown
      unfold OwnL at h
      rwa [List.length_replicate] at h
    have hsz := hbx.lt (i := 1) (by simp)
    obtain ⟨A, c, rfl⟩ := ownLen hO
    clear hbx hown
    by_cases hlt : k < n
    · go_upto_region 7 with fail
      have HBd := Lib.hid (HB.out.drew)
      have hO0 := ownBelow hO (Below.refl _ wr).drew
      refine wp_region_Z (S := (fun u => u.heap[w.heap.size + 1]? = some (.cells #[.slice A k c, .int .i64 (-1), .bool false] 24 (0, 0)))) 6 (by kernel_rfl) ?_ (fun hHeld => ?_)
      · first | exact hSn | exact HBd.out.get 1 _ rfl
      refine wpAnyZ_take (i := 0) (oi := { dst := some 19, op := _, type := _, pos := _, after := _, guard := _ }) (v := ?_) (p := [6]) rfl (by kernel_rfl) (by kernel_rfl) (by kernel_rfl) (by kernel_rfl) (by kernel_rfl) (by kernel_rfl) (fun _ _ _ h => h) (Or.inl ⟨by rfl, ?_⟩) (by assumption) ?_
      rotate_left
      · intro u hSu; have hSv := blkCell hSu; clear hSu; go_simp; (try with_reducible rfl)
      try simp only [Act.put, List.setIfInBounds_toArray, List.set_cons_zero, List.set_cons_succ]
      refine wpAnyZ_take (i := 1) (oi := { dst := some 20, op := _, type := _, pos := _, after := _, guard := _ }) (v := ?_) (p := [6]) rfl (by kernel_rfl) (by kernel_rfl) (by kernel_rfl) (by kernel_rfl) (by kernel_rfl) (by kernel_rfl) (fun _ _ _ h => h) (Or.inl ⟨by rfl, ?_⟩) (by assumption) ?_
      rotate_left
      · intro u hSu; have hSv := blkCell hSu; clear hSu; go_simp; (try with_reducible rfl)
      try simp only [Act.put, List.setIfInBounds_toArray, List.set_cons_zero, List.set_cons_succ]
      refine wpAnyZ_ready (rs := [2]) (by kernel_rfl) (by simp) ?_
      refine AllReadyZ.cons (o := { dst := some 21, op := _, type := _, pos := _, after := _, guard := _ }) rfl (fun K hK => ?_) ?_
      rotate_left
      · exact AllReadyZ.nil
      go_simp
      refine (HZ.out _).mono ?_; rintro e w1 ⟨rfl, hb1⟩; have hB1 := HBd.out.step hb1; have hSn := hB1.get 1 _ rfl; have hO1 := ownBelow hO0 hb1; try go_simp
      refine hK.out _ _ ?_ (fun hHeld => ?_)
      · first | exact hSn | exact HBd.out.get 1 _ rfl
      clear hK K
      try simp only [Act.put, List.setIfInBounds_toArray, List.set_cons_zero, List.set_cons_succ]
      refine wpAnyZ_ready (rs := [3]) (by kernel_rfl) (by simp) ?_
      refine AllReadyZ.cons (o := { dst := some 22, op := _, type := _, pos := _, after := _, guard := _ }) rfl (fun K hK => ?_) ?_
      rotate_left
      · exact AllReadyZ.nil
      go_simp
      have hB2 := hB1.step (allocB w1 (.cells #[.string z] 9)); have hSn := hB2.get 1 _ rfl; have hO2 := ownBelow hO1 (allocB w1 (.cells #[.string z] 9)); have hG := heap_alloc_new w1 (.cells #[.string z] 9)
      refine hK.out _ _ ?_ (fun hHeld => ?_)
      · first | exact hSn | exact HBd.out.get 1 _ rfl
      clear hK K
      try simp only [Act.put, List.setIfInBounds_toArray, List.set_cons_zero, List.set_cons_succ]
      refine wpAnyZ_ready (rs := [4]) (by kernel_rfl) (by simp) ?_
      refine AllReadyZ.cons (o := { dst := some 23, op := _, type := _, pos := _, after := _, guard := _ }) rfl (fun K hK => ?_) ?_
      rotate_left
      · exact AllReadyZ.nil
      refine wantedIf (by rfl) ?_
      refine wp_push _ (.tmp 20) (.tmp 22) 22 9 Try.underlying22 info_string rfl (by omega) (by omega) rfl (w.heap.size + 2) _ k ((List.replicate k z).flatMap strC) rfl hO2 w1.heap.size (strC z) 9 rfl hG rfl (by simp [strC, Value.oneCell']) (by omega) (by have h1 := hB2.lt (i := 1) (by simp); omega) ?_
      intro v7 w7 ho hg hb
      obtain ⟨A7, c7, rfl⟩ := ownLen ho
      have hB7 := hB2.under (M := w.heap.size + 2) (Nat.le_refl _) hb
      have hSn := hB7.get 1 _ rfl
      have hcx7 := blkCell (hB7.get 1 _ rfl)
      have hz7 := blkFrozen (hB7.get 1 _ rfl)
      refine hK.out _ _ ?_ (fun hHeld => ?_)
      · first | exact hSn | exact HBd.out.get 1 _ rfl
      clear hK K
      try simp only [Act.put, List.setIfInBounds_toArray, List.set_cons_zero, List.set_cons_succ]
      refine wpAnyZ_take (i := 5) (oi := { dst := some 24, op := _, type := _, pos := _, after := _, guard := _ }) (v := ?_) (p := [6]) rfl (by kernel_rfl) (by kernel_rfl) (by kernel_rfl) (by kernel_rfl) (by kernel_rfl) (by kernel_rfl) (fun _ _ _ h => h) (Or.inl ⟨by rfl, ?_⟩) (by assumption) ?_
      rotate_left
      · intro u hSu; have hSv := blkCell hSu; clear hSu; go_simp; (try with_reducible rfl)
      try simp only [Act.put, List.setIfInBounds_toArray, List.set_cons_zero, List.set_cons_succ]
      refine wpAnyZ_ready (rs := [6]) (by kernel_rfl) (by simp) ?_
      refine AllReadyZ.last (o := { dst := none, op := _, type := _, pos := _, after := _, guard := _ }) rfl (by kernel_rfl) (fun K hK => ?_) ?_
      rotate_left
      · exact AllReadyZ.nil
      go_simp
      refine hK.out _ _ ?_
      clear hK K
      try simp only [Act.put, List.setIfInBounds_toArray, List.set_cons_zero, List.set_cons_succ]
      refine wpAnyZ_done (by kernel_rfl) ?_ _
      have HB8 := Lib.hid (hB7.set 1 0 (.slice A7 (k + 1) c7) _ rfl)
      have HO8 := Lib.hid (ownSet ho ⟨w.heap.size + 1, 0, none⟩ (.slice A7 (k + 1) c7) (by show w.heap.size + 1 < _; omega))
      clear hO hO0 hO1 hO2 ho hg hb hB1 hB2 hB7 hSn hcx7 hz7 hG hHeld HBd HB
      go_wp2_with fail
      go_roundw
      case rel => exact ⟨k + 1, _, by omega, by go_num, (by have h := HB8.out; first | exact h | simpa using h), (by
        have h := HO8.out
        unfold OwnL
        rw [List.length_replicate, List.replicate_succ', List.flatMap_append]
        simpa using h)⟩
      case measure => simp [intOf]; omega
    · obtain rfl : k = n := by omega
      have HX1 := Lib.hid (HB.out.get 1 _ rfl)
      have HX0 := Lib.hid (show wr.heap[w.heap.size]? = some (.cells #[.slice none 0 0, .int .i64 0, .bool false] 24 (0, 0)) from by have h := HB.out.get 0 _ rfl; simpa using h)
      go_wp2_with (first | (with_reducible refine listLoad (by kernel_rfl) 24 (.tmp 4) rfl (w.heap.size + 1) rfl #[.slice A k c, .int .i64 (-1), .bool false] _ HX1.out _ Try.underlying24 (by kernel_rfl) (by kernel_rfl) ?_) | (with_reducible refine listStore (by kernel_rfl) 24 (.tmp 2) (.tmp 25) rfl w.heap.size #[.slice A k c, .int .i64 (-1), .bool false] _ _ rfl rfl HX0.out (by kernel_rfl) (by kernel_rfl) (by kernel_rfl) ?_))
      refine bodyPost_ret (v := .tuple #[.agg #[.slice A k c, .int .i64 (-1), .bool false], .int .i64 0]) (results_cell2 rfl _ _ rfl (load_whole (setRow_heap _ _ _ _ _ _ HX0.out) Try.underlying24 (by kernel_rfl) (by kernel_rfl)) rfl) rfl ?_
      have ho9 := ownRowOff hO w.heap.size #[.slice A k c, .int .i64 (-1), .bool false] (by omega)
      exact HF.out _ c A _ (by unfold OwnL; rw [List.length_replicate]; exact ho9) rfl (own_reads ho9) (by have h := (HB.out.row 0 #[.slice A k c, .int .i64 (-1), .bool false] _ rfl).below; simpa using h)
set_option maxRecDepth 100000 in
set_option maxHeartbeats 1000000 in
theorem arm_any (d : Lg.Dk) (A : Option Addr) (c : Nat) (n : Int) (w : World) :
    Calls Try.prog 17 #[diskV d A c, .int .i64 n] w fun e w' => e = .returned (diskV (Lg.armD d n) A c) ∧ Below w.heap.size w w' := by
  obtain ⟨L, left, down⟩ := d
  unfold Lg.armD
  dsimp only [diskV]
  by_cases hn : n < 0
  · rw [if_pos hn]
    go_enter Try.func17, Try.ntmps17
    go_upto_region 1 with fail
    have H0 := Lib.hid (show BxL w.heap.size w [(#[.slice A L.length c, .int .i64 left, .bool down], 24), (#[.slice none 0 0, .int .i64 0, .bool false], 24)] ((w.alloc (.cells #[.slice A L.length c, .int .i64 left, .bool down] 24)).alloc (.cells #[.slice none 0 0, .int .i64 0, .bool false] 24)) from ((BxL.nil (Below.refl w.heap.size w)).new (by simp) #[.slice A L.length c, .int .i64 left, .bool down] 24).new (by simp) #[.slice none 0 0, .int .i64 0, .bool false] 24)
    obtain ⟨W0, hW0⟩ : ∃ W, W = (w.alloc (.cells #[.slice A L.length c, .int .i64 left, .bool down] 24)).alloc (.cells #[.slice none 0 0, .int .i64 0, .bool false] 24) := ⟨_, rfl⟩
    rw [← hW0] at H0 ⊢
    have hc0 := blkCell (H0.out.get 0 _ rfl)
    have hz0 := blkFrozen (H0.out.get 0 _ rfl)
    simp only [Nat.add_zero] at hc0 hz0
    clear hW0
    go_upto_region 4 with fail
    have H1 := Lib.hid (H0.out.set 0 1 (.int .i64 (-1)) _ rfl)
    have HX1 := Lib.hid (show (W0.setCell ⟨w.heap.size, 1, none⟩ (.int .i64 (-1))).heap[w.heap.size]? = some (.cells #[.slice A L.length c, .int .i64 (-1), .bool down] 24 (0, 0)) from by have h := H1.out.get 0 _ rfl; simpa using h)
    go_wp2_with (first | (with_reducible refine listLoad (by kernel_rfl) 24 (.tmp 2) rfl w.heap.size rfl #[.slice A L.length c, .int .i64 (-1), .bool down] _ HX1.out _ Try.underlying24 (by kernel_rfl) (by kernel_rfl) ?_) | (with_reducible refine listStore (by kernel_rfl) 24 (.tmp 4) (.tmp 9) rfl (w.heap.size + 1) #[.slice A L.length c, .int .i64 (-1), .bool down] _ _ rfl rfl (H1.out.get 1 _ rfl) (by kernel_rfl) (by kernel_rfl) (by kernel_rfl) ?_))
    refine bodyPost_ret (v := .agg #[.slice A L.length c, .int .i64 (-1), .bool down]) (results_cell rfl _ _ rfl (load_whole (setRow_heap _ _ _ _ _ _ (H1.out.get 1 _ rfl)) Try.underlying24 (by kernel_rfl) (by kernel_rfl))) rfl ?_
    exact ⟨rfl, (H1.out.row 1 _ _ rfl).below⟩
  · rw [if_neg hn]
    go_enter Try.func17, Try.ntmps17
    go_upto_region 1 with fail
    have H0 := Lib.hid (show BxL w.heap.size w [(#[.slice A L.length c, .int .i64 left, .bool down], 24), (#[.slice none 0 0, .int .i64 0, .bool false], 24)] ((w.alloc (.cells #[.slice A L.length c, .int .i64 left, .bool down] 24)).alloc (.cells #[.slice none 0 0, .int .i64 0, .bool false] 24)) from ((BxL.nil (Below.refl w.heap.size w)).new (by simp) #[.slice A L.length c, .int .i64 left, .bool down] 24).new (by simp) #[.slice none 0 0, .int .i64 0, .bool false] 24)
    obtain ⟨W0, hW0⟩ : ∃ W, W = (w.alloc (.cells #[.slice A L.length c, .int .i64 left, .bool down] 24)).alloc (.cells #[.slice none 0 0, .int .i64 0, .bool false] 24) := ⟨_, rfl⟩
    rw [← hW0] at H0 ⊢
    have hc0 := blkCell (H0.out.get 0 _ rfl)
    have hz0 := blkFrozen (H0.out.get 0 _ rfl)
    simp only [Nat.add_zero] at hc0 hz0
    clear hW0
    go_upto_region 4 with fail
    have H1 := Lib.hid (H0.out.set 0 1 (.int .i64 n) _ rfl)
    have HX1 := Lib.hid (show (W0.setCell ⟨w.heap.size, 1, none⟩ (.int .i64 n)).heap[w.heap.size]? = some (.cells #[.slice A L.length c, .int .i64 n, .bool down] 24 (0, 0)) from by have h := H1.out.get 0 _ rfl; simpa using h)
    go_wp2_with (first | (with_reducible refine listLoad (by kernel_rfl) 24 (.tmp 2) rfl w.heap.size rfl #[.slice A L.length c, .int .i64 n, .bool down] _ HX1.out _ Try.underlying24 (by kernel_rfl) (by kernel_rfl) ?_) | (with_reducible refine listStore (by kernel_rfl) 24 (.tmp 4) (.tmp 9) rfl (w.heap.size + 1) #[.slice A L.length c, .int .i64 n, .bool down] _ _ rfl rfl (H1.out.get 1 _ rfl) (by kernel_rfl) (by kernel_rfl) (by kernel_rfl) ?_))
    refine bodyPost_ret (v := .agg #[.slice A L.length c, .int .i64 n, .bool down]) (results_cell rfl _ _ rfl (load_whole (setRow_heap _ _ _ _ _ _ (H1.out.get 1 _ rfl)) Try.underlying24 (by kernel_rfl) (by kernel_rfl))) rfl ?_
    exact ⟨rfl, (H1.out.row 1 _ _ rfl).below⟩
set_option maxRecDepth 100000 in
set_option maxHeartbeats 1000000 in
theorem start_any (d : Lg.Dk) (A : Option Addr) (c : Nat) (w : World) :
    Calls Try.prog 18 #[diskV d A c] w fun e w' => e = .returned (diskV (Lg.startD d) A c) ∧ Below w.heap.size w w' := by
  obtain ⟨L, left, down⟩ := d
  unfold Lg.startD
  dsimp only [diskV]
  go_enter Try.func18, Try.ntmps18
  go_upto_region 1 with fail
  have H0 := Lib.hid (show BxL w.heap.size w [(#[.slice A L.length c, .int .i64 left, .bool down], 24), (#[.slice none 0 0, .int .i64 0, .bool false], 24)] ((w.alloc (.cells #[.slice A L.length c, .int .i64 left, .bool down] 24)).alloc (.cells #[.slice none 0 0, .int .i64 0, .bool false] 24)) from ((BxL.nil (Below.refl w.heap.size w)).new (by simp) #[.slice A L.length c, .int .i64 left, .bool down] 24).new (by simp) #[.slice none 0 0, .int .i64 0, .bool false] 24)
  obtain ⟨W0, hW0⟩ : ∃ W, W = (w.alloc (.cells #[.slice A L.length c, .int .i64 left, .bool down] 24)).alloc (.cells #[.slice none 0 0, .int .i64 0, .bool false] 24) := ⟨_, rfl⟩
  rw [← hW0] at H0 ⊢
  have hc0 := blkCell (H0.out.get 0 _ rfl)
  have hz0 := blkFrozen (H0.out.get 0 _ rfl)
  simp only [Nat.add_zero] at hc0 hz0
  clear hW0
  go_upto_region 3 with fail
  have H1 := Lib.hid ((H0.out.set 0 1 (.int .i64 (-1)) _ rfl).set 0 2 (.bool false) _ rfl)
  have HX1 := Lib.hid (show ((W0.setCell ⟨w.heap.size, 1, none⟩ (.int .i64 (-1))).setCell ⟨w.heap.size, 2, none⟩ (.bool false)).heap[w.heap.size]? = some (.cells #[.slice A L.length c, .int .i64 (-1), .bool false] 24 (0, 0)) from by have h := H1.out.get 0 _ rfl; simpa using h)
  go_wp2_with (first | (with_reducible refine listLoad (by kernel_rfl) 24 (.tmp 1) rfl w.heap.size rfl #[.slice A L.length c, .int .i64 (-1), .bool false] _ HX1.out _ Try.underlying24 (by kernel_rfl) (by kernel_rfl) ?_) | (with_reducible refine listStore (by kernel_rfl) 24 (.tmp 2) (.tmp 5) rfl (w.heap.size + 1) #[.slice A L.length c, .int .i64 (-1), .bool false] _ _ rfl rfl (H1.out.get 1 _ rfl) (by kernel_rfl) (by kernel_rfl) (by kernel_rfl) ?_))
  refine bodyPost_ret (v := .agg #[.slice A L.length c, .int .i64 (-1), .bool false]) (results_cell rfl _ _ rfl (load_whole (setRow_heap _ _ _ _ _ _ (H1.out.get 1 _ rfl)) Try.underlying24 (by kernel_rfl) (by kernel_rfl))) rfl ?_
  exact ⟨rfl, (H1.out.row 1 _ _ rfl).below⟩
end Go.Proofs.Ytojaagnfjenhoaa
/- The walks over package log: New, cut, sectors. -/
namespace Lg
theorem repeat_zero (n : Nat) : (⟨(Go.Lib.repeatL [(0 : UInt8)] n).toArray⟩ : ByteArray) = ⟨(List.replicate n 0).toArray⟩ := by
  congr 2
  induction n with
  | zero => rfl
  | succ n ih =>
    rw [List.replicate_succ, ← ih]
    rfl
theorem pad_join (t : ByteArray) (m : Nat) (hm : m = min t.size 128) : t.extract 0 m ++ (⟨(Go.Lib.repeatL [(0 : UInt8)] (128 - m)).toArray⟩ : ByteArray) = pad128 (t.data.toList.take 128) := by
  rw [repeat_zero]
  unfold pad128
  apply ByteArray.ext
  rw [ByteArray.data_append]
  apply Array.toList_inj.1
  rw [Array.toList_append]
  have e : (t.extract 0 m).data.toList = t.data.toList.take 128 := by
    simp only [ByteArray.data_extract, Array.toList_extract, List.extract_eq_take_drop, Nat.sub_zero, List.drop_zero]
    have hl : t.data.toList.length = t.size := by simp
    by_cases h : t.size ≤ 128
    · rw [List.take_of_length_le (by omega), List.take_of_length_le (by omega)]
    · rw [show m = 128 by omega]
  have hl : (t.data.toList.take 128).length = m := by rw [List.length_take]; simp; omega
  rw [e, hl]
theorem cut_next (t : ByteArray) (m : Nat) (hm : m = min t.size 128) (h0 : 0 < t.size) : cutB t = pad128 (t.data.toList.take 128) :: cutB (t.extract m t.size) := by
  unfold cutB
  have h1 : t.data.toList ≠ [] := fun e => by
    have hl : t.data.toList.length = t.size := by simp
    rw [e, List.length_nil] at hl
    omega
  rw [cutW_cons h1]
  congr 2
  simp only [ByteArray.data_extract, Array.toList_extract, List.extract_eq_take_drop]
  have hl : t.data.toList.length = t.size := by simp
  rw [List.take_of_length_le (by rw [List.length_drop]; omega)]
  by_cases h : t.size ≤ 128
  · rw [List.drop_of_length_le (i := 128) (by omega), List.drop_of_length_le (i := m) (by omega)]
  · rw [show m = 128 by omega]
theorem cut_none (t : ByteArray) (h0 : t.size = 0) : cutB t = [] := by
  unfold cutB
  have h1 : t.data.toList = [] := List.eq_nil_of_length_eq_zero (by simpa using h0)
  rw [h1, cutW_nil]
end Lg
namespace Go.Proofs.Ytojaagnfjenhoaa
open Go.RowKit
abbrev logV (l : Lg.Lo) : Value := .agg #[.int .i64 l.from_, .int .i64 l.n, .int .i64 l.end_, .int .i64 l.safe, .string l.tail]
set_option maxRecDepth 100000 in
theorem lnew_any (a n : Int) (w : World) :
    Calls Try.prog 12 #[.int .i64 a, .int .i64 n] w fun e w' => e = .returned (logV ⟨a, n, 0, 0, ⟨#[]⟩⟩) ∧ Below w.heap.size w w' := by
  have HZ := Lib.hid (heap_alloc_new w (.cells #[.int .i64 0, .int .i64 0, .int .i64 0, .int .i64 0, .string ⟨#[]⟩] 28))
  go_enter Try.func12, Try.ntmps12
  go_wp2_with (with_reducible refine listStore (by kernel_rfl) 28 (.tmp 4) (.tmp 7) rfl w.heap.size #[.int .i64 a, .int .i64 n, .int .i64 0, .int .i64 0, .string ⟨#[]⟩] _ _ rfl rfl HZ.out (by kernel_rfl) (by kernel_rfl) (by kernel_rfl) ?_)
  refine bodyPost_ret (v := .agg #[.int .i64 a, .int .i64 n, .int .i64 0, .int .i64 0, .string ⟨#[]⟩]) (results_cell rfl _ _ rfl (load_whole (setRow_heap _ _ _ _ _ _ HZ.out) Try.underlying28 (by kernel_rfl) (by kernel_rfl))) rfl ?_
  exact ⟨rfl, ((BxL.nil (Below.refl w.heap.size w)).new (by simp) #[.int .i64 0, .int .i64 0, .int .i64 0, .int .i64 0, .string ⟨#[]⟩] 28).row 0 _ _ rfl |>.below⟩
/-- What cut answers: texts in memory of its own. -/
def CutOut (l : List ByteArray) (w : World) (e : Ending) (w' : World) : Prop := ∃ v, e = .returned v ∧ OwnL strC 1 9 w.heap.size w' v l ∧ Below w.heap.size w w'
set_option maxRecDepth 100000 in
set_option maxHeartbeats 4000000 in
theorem cut_any (s : ByteArray) (hs : s.size ≤ 1000000) (w : World) :
    Calls Try.prog 26 #[.string s] w (CutOut (Lg.cutB s) w) := by
  have HF := Lib.hid (fun v w' (ho : OwnL strC 1 9 w.heap.size w' v (Lg.cutB s)) (hb : Below w.heap.size w w') => show CutOut (Lg.cutB s) w (.returned v) w' from ⟨v, rfl, ho, hb⟩)
  generalize CutOut (Lg.cutB s) w = Q at HF ⊢
  obtain ⟨C, hC⟩ : ∃ C, C = Lg.cutB s := ⟨_, rfl⟩
  have hcl : C.length ≤ 8000 := by rw [hC, Lg.cutB_length]; omega
  rw [← hC] at HF
  have HC := Lib.hid hC
  have HR := Lib.hid (fun (c : Nat) (hc : c ≤ 128) W => Try.strings_Repeat ⟨#[0]⟩ c W (by omega) (show (⟨#[0]⟩ : ByteArray).size * c ≤ 140737488355328 from (by show 1 * c ≤ _; have : c ≤ 128 := hc; omega)))
  clear hC
  go_enter Try.func26, Try.ntmps26
  go_wp2_with fail
  go_loopw [0, 3] (fun s0 v wr => ∃ (t : ByteArray) (ls : List ByteArray), s0 = .string t ∧ t.size ≤ 1000000 ∧ ls ++ Lg.cutB t = C ∧ OwnL strC 1 9 w.heap.size wr v ls ∧ Below w.heap.size w wr) (fun s0 _ _ => (match s0 with | .string t => t.size | _ => 0))
  case atStart => exact ⟨s, [], rfl, hs, HC.out.symm, ownNil _ _ _ _, Below.refl _ _⟩
  case round =>
    obtain ⟨t, ls, rfl, hts, hC2, hO, hB⟩ := hrel
    have HB := Lib.hid hB
    have hll : ls.length ≤ 8000 := by have := congrArg List.length hC2; rw [List.length_append] at this; omega
    have HC2 := Lib.hid hC2
    clear hB hC2
    by_cases h0 : 0 < t.size
    · obtain ⟨m, hm⟩ : ∃ m, m = min t.size 128 := ⟨_, rfl⟩
      have hmm : min (t.size : Int) 128 = (m : Int) := by omega
      have hm1 : m ≤ t.size := by omega
      have hm2 : m ≤ 128 := by omega
      have hm3 : (0 : Int) ≤ (m : Int) := by omega
      have hm4 : (m : Int) ≤ (t.size : Int) := by omega
      have hsub : (128 : Int) - (m : Int) = ((128 - m : Nat) : Int) := by omega
      have hwr : IntKind.i64.wrap ((128 : Int) - (m : Int)) = ((128 - m : Nat) : Int) := by rw [hsub]; exact IntWalk.i64_in _ (by omega)
      have hwr2 : IntKind.i64.wrap ((128 - m : Nat) : Int) = ((128 - m : Nat) : Int) := IntWalk.i64_in _ (by omega)
      have HJ := Lib.hid (Lg.pad_join t m hm)
      have HN := Lib.hid (Lg.cut_next t m hm h0)
      have hpz := Lg.pad128_size (l := t.data.toList.take 128) (by rw [List.length_take]; omega)
      have hxs : (t.extract m t.size).size < t.size := by rw [ByteArray.size_extract]; omega
      have HXS := Lib.hid hxs
      have hR := HR.out (128 - m) (show 128 - m ≤ 128 by omega)
      have hsum : (t.extract 0 m).size + (⟨(Lib.repeatL [(0 : UInt8)] (128 - m)).toArray⟩ : ByteArray).size ≤ 9223372036854775807 := by
        rw [Lg.repeat_zero, ByteArray.size_extract]
        show _ + (List.replicate (128 - m) (0 : UInt8)).toArray.size ≤ _
        simp
        omega
      have HRR := Lib.hid hR
      obtain ⟨z, hz⟩ : ∃ z : ByteArray, z = ⟨(Lib.repeatL [(0 : UInt8)] (128 - m)).toArray⟩ := ⟨_, rfl⟩
      obtain ⟨y, hy⟩ : ∃ y : ByteArray, y = Lg.pad128 (t.data.toList.take 128) := ⟨_, rfl⟩
      have HRZ : Hid (∀ W, Calls Try.prog 27 #[.string ⟨#[0]⟩, .int .i64 ((128 - m : Nat) : Int)] W fun e w' => e = .returned (.string z) ∧ Below W.heap.size W w') := Lib.hid (by rw [hz]; exact hR)
      rw [← hz] at HJ hsum
      rw [← hy] at HJ HN hpz
      have hadd : ∀ W : World, (Op.stringOp .add (t.extract 0 m) z).run Try.prog W = .ok (.string y) W := fun W => by rw [← HJ.out]; exact run_string_add_sum W _ _ hsum
      obtain ⟨r, hr⟩ : ∃ r : Nat, r = 128 - m := ⟨_, rfl⟩
      rw [← hr] at hsub hwr hwr2 HRZ
      clear hR HR HRR hm hz hy hxs hr hsum
      obtain ⟨A, c, rfl⟩ := ownLen hO
      go_upto_region 4 with fail
      have hO0 := ownBelow hO (Below.refl _ wr).drew
      have hB0 := HB.out.drew
      refine wp_region_held_drew (S := (fun _ => True)) (by kernel_rfl) ?_ (fun hHeld => ?_)
      · trivial
      refine wpAnyH_take (i := 0) (oi := { dst := some 11, op := _, type := _, pos := _, after := _, guard := _ }) (v := ?_) rfl (by kernel_rfl) (by kernel_rfl) (by kernel_rfl) (fun _ _ _ h => h) (Or.inl ⟨by rfl, ?_⟩) (by assumption) ?_
      rotate_left
      · intro u hSu; clear hSu; go_simp; (try with_reducible rfl)
      try simp only [Act.put, List.setIfInBounds_toArray, List.set_cons_zero, List.set_cons_succ]
      refine wpAnyH_take (i := 1) (oi := { dst := some 12, op := _, type := _, pos := _, after := _, guard := _ }) (v := ?_) rfl (by kernel_rfl) (by kernel_rfl) (by kernel_rfl) (fun _ _ _ h => h) (Or.inl ⟨by rfl, ?_⟩) (by assumption) ?_
      rotate_left
      · intro u hSu; clear hSu; go_simp; (try with_reducible rfl)
      try simp only [Act.put, List.setIfInBounds_toArray, List.set_cons_zero, List.set_cons_succ]
      refine wpAnyH_take (i := 2) (oi := { dst := some 13, op := _, type := _, pos := _, after := _, guard := _ }) (v := ?_) rfl (by kernel_rfl) (by kernel_rfl) (by kernel_rfl) (fun _ _ _ h => h) (Or.inl ⟨by rfl, ?_⟩) (by assumption) ?_
      rotate_left
      · intro u hSu; clear hSu; go_simp; (try with_reducible rfl)
      try simp only [Act.put, List.setIfInBounds_toArray, List.set_cons_zero, List.set_cons_succ]
      refine wpAnyH_take (i := 3) (oi := { dst := some 14, op := _, type := _, pos := _, after := _, guard := _ }) (v := ?_) rfl (by kernel_rfl) (by kernel_rfl) (by kernel_rfl) (fun _ _ _ h => h) (Or.inl ⟨by rfl, ?_⟩) (by assumption) ?_
      rotate_left
      · intro u hSu; clear hSu; go_simp; (try with_reducible rfl)
      try simp only [Act.put, List.setIfInBounds_toArray, List.set_cons_zero, List.set_cons_succ]
      refine wpAnyH_take (i := 4) (oi := { dst := some 15, op := _, type := _, pos := _, after := _, guard := _ }) (v := ?_) rfl (by kernel_rfl) (by kernel_rfl) (by kernel_rfl) (fun _ _ _ h => h) (Or.inl ⟨by rfl, ?_⟩) (by assumption) ?_
      rotate_left
      · intro u hSu; clear hSu; go_simp; (try with_reducible rfl)
      try simp only [Act.put, List.setIfInBounds_toArray, List.set_cons_zero, List.set_cons_succ]
      refine wpAnyH_take (i := 5) (oi := { dst := some 16, op := _, type := _, pos := _, after := _, guard := _ }) (v := ?_) rfl (by kernel_rfl) (by kernel_rfl) (by kernel_rfl) (fun _ _ _ h => h) (Or.inl ⟨by rfl, ?_⟩) (by assumption) ?_
      rotate_left
      · intro u hSu; clear hSu; go_simp; (try with_reducible rfl)
      try simp only [Act.put, List.setIfInBounds_toArray, List.set_cons_zero, List.set_cons_succ]
      refine wpAnyH_ready (rs := [6]) (by kernel_rfl) (by simp) ?_
      refine AllReadyH.cons (o := { dst := some 17, op := _, type := _, pos := _, after := _, guard := _ }) rfl (fun K hK => ?_) ?_
      rotate_left
      · exact AllReadyH.nil
      go_simp
      refine (HRZ.out _).mono ?_; rintro e w1 ⟨rfl, hb1⟩; have hO1 := ownBelow hO0 hb1; have hB1 := hB0.trans (hb1.mono hB0.size); try go_simp
      refine hK.out _ _ ?_ (fun hHeld => ?_)
      · trivial
      clear hK K
      try simp only [Act.put, List.setIfInBounds_toArray, List.set_cons_zero, List.set_cons_succ]
      refine wpAnyH_take (i := 7) (oi := { dst := some 18, op := _, type := _, pos := _, after := _, guard := _ }) (v := ?_) rfl (by kernel_rfl) (by kernel_rfl) (by kernel_rfl) (fun _ _ _ h => h) (Or.inl ⟨by rfl, ?_⟩) (by assumption) ?_
      rotate_left
      · intro u hSu; clear hSu; go_simp; (try with_reducible rfl)
      try simp only [Act.put, List.setIfInBounds_toArray, List.set_cons_zero, List.set_cons_succ]
      refine wpAnyH_ready (rs := [8]) (by kernel_rfl) (by simp) ?_
      refine AllReadyH.cons (o := { dst := some 19, op := _, type := _, pos := _, after := _, guard := _ }) rfl (fun K hK => ?_) ?_
      rotate_left
      · exact AllReadyH.nil
      go_simp
      have hO2 := ownBelow hO1 (allocB w1 (.cells #[.string y] 9)); have hB2 := hB1.alloc hB1.size (.cells #[.string y] 9); have hG := heap_alloc_new w1 (.cells #[.string y] 9)
      refine hK.out _ _ ?_ (fun hHeld => ?_)
      · trivial
      clear hK K
      try simp only [Act.put, List.setIfInBounds_toArray, List.set_cons_zero, List.set_cons_succ]
      refine wpAnyH_ready (rs := [9]) (by kernel_rfl) (by simp) ?_
      refine AllReadyH.cons (o := { dst := some 20, op := _, type := _, pos := _, after := _, guard := _ }) rfl (fun K hK => ?_) ?_
      rotate_left
      · exact AllReadyH.nil
      refine wantedIf (by rfl) ?_
      refine wp_push _ (.tmp 11) (.tmp 19) 22 9 Try.underlying22 info_string rfl (by omega) (by omega) rfl w.heap.size _ ls.length (ls.flatMap strC) rfl hO2 w1.heap.size (strC y) 9 rfl hG rfl (by simp [strC, Value.oneCell']) (by omega) hB2.size ?_
      intro v7 w7 ho hg hb
      have hB7 := hB2.trans hb
      refine hK.out _ _ ?_ (fun hHeld => ?_)
      · trivial
      clear hK K
      try simp only [Act.put, List.setIfInBounds_toArray, List.set_cons_zero, List.set_cons_succ]
      refine wpAnyH_take (i := 10) (oi := { dst := some 3, op := _, type := _, pos := _, after := _, guard := _ }) (v := ?_) rfl (by kernel_rfl) (by kernel_rfl) (by kernel_rfl) (fun _ _ _ h => h) (Or.inl ⟨by rfl, ?_⟩) (by assumption) ?_
      rotate_left
      · intro u hSu; clear hSu; go_simp; (try with_reducible rfl)
      try simp only [Act.put, List.setIfInBounds_toArray, List.set_cons_zero, List.set_cons_succ]
      refine wpAnyH_done (by kernel_rfl) ?_ _
      have HO7 := Lib.hid (OwnL.push (enc := strC) (x := y) ho)
      have HB7 := Lib.hid hB7
      clear hO hO0 hO1 hO2 hB0 hB1 hB2 hB7 ho hg hb hG hHeld HB hadd hpz
      go_wp2_with fail
      go_roundw
      case rel => exact ⟨_, ls ++ [y], rfl, by have := HXS.out; omega, by rw [List.append_assoc]; have h := HC2.out; rw [HN.out] at h; exact h, HO7.out, HB7.out⟩
      case measure => exact HXS.out
    · have h00 : t.size = 0 := by omega
      have hfin : ls = C := by have h := HC2.out; rwa [Lg.cut_none t h00, List.append_nil] at h
      subst hfin
      go_wp2_with fail
      exact HF.out _ _ hO HB.out
end Go.Proofs.Ytojaagnfjenhoaa
/- The walk over package octet: Open, of four bytes or more. -/
namespace Go.Proofs.Ytojaagnfjenhoaa
open Go.RowKit
set_option maxRecDepth 100000 in
theorem open4_any (s : ByteArray) (h4 : 4 ≤ s.size) (hm : s.size ≤ 1000000000) (n : Nat) (hn : Oct.getN s.data.toList 0 4 = n) (hn2 : Oct.intOf n = (n : Int)) (w : World) :
    Calls Try.prog 35 #[.string s] w fun e w' => e = .returned (if n = Oct.sumN (s.data.toList.drop 4) then .tuple #[.string (s.extract 4 s.size), .bool true] else .tuple #[.string ⟨#[]⟩, .bool false]) ∧ Below w.heap.size w w' := by
  have HG := Lib.hid (fun W => get_yes s 0 4 (by omega) (by omega) (by omega) (by omega) W)
  rw [hn, hn2] at HG
  have hxs : (s.extract 4 s.size).data.toList = s.data.toList.drop 4 := by
    simp only [ByteArray.data_extract, Array.toList_extract, List.extract_eq_take_drop]
    exact List.take_of_length_le (by simp)
  have hxz : (s.extract 4 s.size).size ≤ 281474976710656 := by rw [ByteArray.size_extract]; omega
  have HS := Lib.hid (fun W => sum_any (s.extract 4 s.size) hxz W)
  rw [hxs] at HS
  generalize Oct.sumN (s.data.toList.drop 4) = m at HS ⊢
  have h4' : (4 : Int) ≤ (s.size : Int) := by omega
  have h4n : ¬ s.size < 4 := by omega
  clear hn hn2 hxs hxz
  by_cases he : n = m
  · subst he
    rw [if_pos rfl]
    go_enter Try.func35, Try.ntmps35
    go_wp2_with (first | (go_at_call 34; refine (HG.out _).mono ?_; rintro e w1 ⟨rfl, hb1⟩) | (go_at_call 54; refine (HS.out _).mono ?_; rintro e w2 ⟨rfl, rfl⟩))
    go_ret2
    exact ⟨rfl, hb1⟩
  · rw [if_neg he]
    have hne : ((n : Int) == (m : Int)) = false := by simp; omega
    have hne2 : (n == m) = false := by simpa using he
    have hne3 : ((n : Int) != (m : Int)) = true := by simp; omega
    have hne4 : (n != m) = true := by simpa using he
    go_enter Try.func35, Try.ntmps35
    go_wp2_with (first | (go_at_call 34; refine (HG.out _).mono ?_; rintro e w1 ⟨rfl, hb1⟩) | (go_at_call 54; refine (HS.out _).mono ?_; rintro e w2 ⟨rfl, rfl⟩))
    go_ret2
    exact ⟨rfl, hb1⟩
end Go.Proofs.Ytojaagnfjenhoaa
/- The walk over package octet: GetText. -/
namespace Go.Proofs.Ytojaagnfjenhoaa
open Go.RowKit
theorem getN_small (s : List UInt8) (a k : Nat) : Oct.getN s a k < 256 ^ k := by
  have h1 := Oct.getL_lt ((s.drop a).take k)
  have h2 : 256 ^ ((s.drop a).take k).length ≤ 256 ^ k := Nat.pow_le_pow_right (by omega) (by rw [List.length_take]; omega)
  unfold Oct.getN; omega
set_option maxRecDepth 100000 in
theorem getText_any (s : ByteArray) (a : Nat) (hm : s.size ≤ 1000000000) (ha : a ≤ 2000000000) (w : World) :
    Calls Try.prog 93 #[.string s, .int .i64 (a : Int)] w fun e w' => e = .returned (if a + 2 + Oct.getN s.data.toList a 2 ≤ s.size then .tuple #[.string (s.extract (a + 2) (a + 2 + Oct.getN s.data.toList a 2)), .int .i64 ((a + 2 + Oct.getN s.data.toList a 2 : Nat) : Int), .bool true] else .tuple #[.string ⟨#[]⟩, .int .i64 0, .bool false]) ∧ Below w.heap.size w w' := by
  by_cases hin : a + 2 ≤ s.size
  · have hpow := getN_small s.data.toList a 2
    have HG := Lib.hid (fun W => get_yes s a 2 (by omega) (by omega) hin (by omega) W)
    generalize Oct.getN s.data.toList a 2 = n at hpow HG ⊢
    have hn : n < 65536 := by simpa using hpow
    rw [show Oct.intOf n = (n : Int) from by unfold Oct.intOf; rw [if_pos (by omega)]] at HG
    clear hpow
    by_cases he : a + 2 + n ≤ s.size
    · rw [if_pos he]
      have t1 : ¬ ((s.size : Int) - (a : Int) - 2 < (n : Int)) := by omega
      have w1 : IntKind.i64.wrap ((s.size : Int) - (a : Int)) = (s.size : Int) - (a : Int) := IntWalk.i64_in _ (by omega)
      have w2 : IntKind.i64.wrap ((s.size : Int) - (a : Int) - 2) = (s.size : Int) - (a : Int) - 2 := IntWalk.i64_in _ (by omega)
      have w3 : IntKind.i64.wrap ((a : Int) + 2) = (a : Int) + 2 := IntWalk.i64_in _ (by omega)
      have w4 : IntKind.i64.wrap ((a : Int) + 2 + (n : Int)) = (a : Int) + 2 + (n : Int) := IntWalk.i64_in _ (by omega)
      have g1 : (0 : Int) ≤ (a : Int) + 2 := by omega
      have g2 : (a : Int) + 2 ≤ (a : Int) + 2 + (n : Int) := by omega
      have g3 : (a : Int) + 2 + (n : Int) ≤ (s.size : Int) := by omega
      have n1 : ((a : Int) + 2).toNat = a + 2 := by omega
      have n2 : ((a : Int) + 2 + (n : Int)).toNat = a + 2 + n := by omega
      go_enter Try.func93, Try.ntmps93
      go_wp2_with ((go_at_call 34; refine (HG.out _).mono ?_; rintro e w1 ⟨rfl, hb1⟩))
      refine bodyPost_ret (v := .tuple #[.string (s.extract (a + 2) (a + 2 + n)), .int .i64 ((a + 2 + n : Nat) : Int), .bool true]) (by simp [results, Try.results93, go_sem]) rfl ⟨rfl, by assumption⟩
    · rw [if_neg he]
      have t1 : ((s.size : Int) - (a : Int) - 2 < (n : Int)) := by omega
      have w1 : IntKind.i64.wrap ((s.size : Int) - (a : Int)) = (s.size : Int) - (a : Int) := IntWalk.i64_in _ (by omega)
      have w2 : IntKind.i64.wrap ((s.size : Int) - (a : Int) - 2) = (s.size : Int) - (a : Int) - 2 := IntWalk.i64_in _ (by omega)
      go_enter Try.func93, Try.ntmps93
      go_wp2_with ((go_at_call 34; refine (HG.out _).mono ?_; rintro e w1 ⟨rfl, hb1⟩))
      refine bodyPost_ret (v := .tuple #[.string ⟨#[]⟩, .int .i64 0, .bool false]) (by simp [results, Try.results93, go_sem]) rfl ⟨rfl, by assumption⟩
  · rw [if_neg (by omega)]
    have HG := Lib.hid (fun W => get_no s a 2 (by omega) (by omega) (by omega) (by unfold Oct.there; simp; omega) W)
    go_enter Try.func93, Try.ntmps93
    go_wp2_with ((go_at_call 34; refine (HG.out _).mono ?_; rintro e w1 ⟨rfl, rfl⟩))
    refine bodyPost_ret (v := .tuple #[.string ⟨#[]⟩, .int .i64 0, .bool false]) (by simp [results, Try.results93, go_sem]) rfl ⟨rfl, Below.refl _ _⟩
end Go.Proofs.Ytojaagnfjenhoaa
/- The walk over package rec: a reader's num. -/
namespace Go.Proofs.Ytojaagnfjenhoaa
open Go.RowKit
abbrev rdC (s : ByteArray) (a : Nat) (bad : Bool) : Array Value := #[.string s, .int .i64 (a : Int), .bool bad]
set_option maxRecDepth 100000 in
set_option maxHeartbeats 1000000 in
theorem rnum_tf (b : Nat) (s : ByteArray) (a k : Nat) (h1 : 1 ≤ k) (h6 : k ≤ 6) (hm : s.size ≤ 1000000000) (ha : a ≤ 2000000000) (hin : a + k ≤ s.size) (w : World) (hb : w.heap[b]? = some (.cells (rdC s a false) 89 (0, 0))) :
    Calls Try.prog 55 #[.pointer (some ⟨b, 0, none⟩), .int .i64 (k : Int)] w fun e w' => e = .returned (.int .i64 (Oct.intOf (Oct.getN s.data.toList a k))) ∧ w'.heap[b]? = some (.cells (rdC s (a + k) false) 89 (0, 0)) ∧ KeptB w.heap.size b w w' := by
  have HG := Lib.hid (fun W => get_yes s a k h1 (by omega) hin (by omega) W)
  have HB := Lib.hid hb
  have w1' : IntKind.i64.wrap ((a : Int) + (k : Int)) = (a : Int) + (k : Int) := IntWalk.i64_in _ (by omega)
  clear hb hin
  generalize Oct.intOf (Oct.getN s.data.toList a k) = n at HG ⊢
  go_enter Try.func55, Try.ntmps55
  go_upto_region 1 with fail
  refine wp_region_held_drew (S := (fun u => u.heap[b]? = some (.cells (rdC s a false) 89 (0, 0)))) (by kernel_rfl) ?_ (fun hHeld => ?_)
  · first | exact hSn | exact HB.out
  refine wpAnyH_take (i := 0) (oi := { dst := some 8, op := _, type := _, pos := _, after := _, guard := _ }) (v := ?_) rfl (by kernel_rfl) (by kernel_rfl) (by kernel_rfl) (fun _ _ _ h => h) (Or.inl ⟨by rfl, ?_⟩) (by assumption) ?_
  rotate_left
  · intro u hSu; have hSv := blkCell hSu; clear hSu; go_simp; (try with_reducible rfl)
  try simp only [Act.put, List.setIfInBounds_toArray, List.set_cons_zero, List.set_cons_succ]
  refine wpAnyH_take (i := 1) (oi := { dst := some 9, op := _, type := _, pos := _, after := _, guard := _ }) (v := ?_) rfl (by kernel_rfl) (by kernel_rfl) (by kernel_rfl) (fun _ _ _ h => h) (Or.inl ⟨by rfl, ?_⟩) (by assumption) ?_
  rotate_left
  · intro u hSu; have hSv := blkCell hSu; clear hSu; go_simp; (try with_reducible rfl)
  try simp only [Act.put, List.setIfInBounds_toArray, List.set_cons_zero, List.set_cons_succ]
  refine wpAnyH_take (i := 2) (oi := { dst := some 10, op := _, type := _, pos := _, after := _, guard := _ }) (v := ?_) rfl (by kernel_rfl) (by kernel_rfl) (by kernel_rfl) (fun _ _ _ h => h) (Or.inl ⟨by rfl, ?_⟩) (by assumption) ?_
  rotate_left
  · intro u hSu; have hSv := blkCell hSu; clear hSu; go_simp; (try with_reducible rfl)
  try simp only [Act.put, List.setIfInBounds_toArray, List.set_cons_zero, List.set_cons_succ]
  refine wpAnyH_take (i := 3) (oi := { dst := some 11, op := _, type := _, pos := _, after := _, guard := _ }) (v := ?_) rfl (by kernel_rfl) (by kernel_rfl) (by kernel_rfl) (fun _ _ _ h => h) (Or.inl ⟨by rfl, ?_⟩) (by assumption) ?_
  rotate_left
  · intro u hSu; have hSv := blkCell hSu; clear hSu; go_simp; (try with_reducible rfl)
  try simp only [Act.put, List.setIfInBounds_toArray, List.set_cons_zero, List.set_cons_succ]
  refine wpAnyH_take (i := 4) (oi := { dst := some 12, op := _, type := _, pos := _, after := _, guard := _ }) (v := ?_) rfl (by kernel_rfl) (by kernel_rfl) (by kernel_rfl) (fun _ _ _ h => h) (Or.inl ⟨by rfl, ?_⟩) (by assumption) ?_
  rotate_left
  · intro u hSu; have hSv := blkCell hSu; clear hSu; go_simp; (try with_reducible rfl)
  try simp only [Act.put, List.setIfInBounds_toArray, List.set_cons_zero, List.set_cons_succ]
  refine wpAnyH_take (i := 5) (oi := { dst := some 13, op := _, type := _, pos := _, after := _, guard := _ }) (v := ?_) rfl (by kernel_rfl) (by kernel_rfl) (by kernel_rfl) (fun _ _ _ h => h) (Or.inl ⟨by rfl, ?_⟩) (by assumption) ?_
  rotate_left
  · intro u hSu; have hSv := blkCell hSu; clear hSu; go_simp; (try with_reducible rfl)
  try simp only [Act.put, List.setIfInBounds_toArray, List.set_cons_zero, List.set_cons_succ]
  refine wpAnyH_take (i := 6) (oi := { dst := some 14, op := _, type := _, pos := _, after := _, guard := _ }) (v := ?_) rfl (by kernel_rfl) (by kernel_rfl) (by kernel_rfl) (fun _ _ _ h => h) (Or.inl ⟨by rfl, ?_⟩) (by assumption) ?_
  rotate_left
  · intro u hSu; have hSv := blkCell hSu; clear hSu; go_simp; (try with_reducible rfl)
  try simp only [Act.put, List.setIfInBounds_toArray, List.set_cons_zero, List.set_cons_succ]
  refine wpAnyH_take (i := 7) (oi := { dst := some 15, op := _, type := _, pos := _, after := _, guard := _ }) (v := ?_) rfl (by kernel_rfl) (by kernel_rfl) (by kernel_rfl) (fun _ _ _ h => h) (Or.inl ⟨by rfl, ?_⟩) (by assumption) ?_
  rotate_left
  · intro u hSu; have hSv := blkCell hSu; clear hSu; go_simp; (try with_reducible rfl)
  try simp only [Act.put, List.setIfInBounds_toArray, List.set_cons_zero, List.set_cons_succ]
  refine wpAnyH_take (i := 8) (oi := { dst := some 16, op := _, type := _, pos := _, after := _, guard := _ }) (v := ?_) rfl (by kernel_rfl) (by kernel_rfl) (by kernel_rfl) (fun _ _ _ h => h) (Or.inl ⟨by rfl, ?_⟩) (by assumption) ?_
  rotate_left
  · intro u hSu; have hSv := blkCell hSu; clear hSu; go_simp; (try with_reducible rfl)
  try simp only [Act.put, List.setIfInBounds_toArray, List.set_cons_zero, List.set_cons_succ]
  refine wpAnyH_ready (rs := [9]) (by kernel_rfl) (by simp) ?_
  refine AllReadyH.cons (o := { dst := some 17, op := _, type := _, pos := _, after := _, guard := _ }) rfl (fun K hK => ?_) ?_
  rotate_left
  · exact AllReadyH.nil
  go_simp
  refine (HG.out _).mono ?_; rintro e w1 ⟨rfl, hb1⟩; have hSn := blkOld HB.out ((Below.refl _ w).drew.trans hb1); try go_simp
  refine hK.out _ _ ?_ (fun hHeld => ?_)
  · first | exact hSn | exact HB.out
  clear hK K
  try simp only [Act.put, List.setIfInBounds_toArray, List.set_cons_zero, List.set_cons_succ]
  refine wpAnyH_take (i := 10) (oi := { dst := some 7, op := _, type := _, pos := _, after := _, guard := _ }) (v := ?_) rfl (by kernel_rfl) (by kernel_rfl) (by kernel_rfl) (fun _ _ _ h => h) (Or.inl ⟨by rfl, ?_⟩) (by assumption) ?_
  rotate_left
  · intro u hSu; have hSv := blkCell hSu; clear hSu; go_simp; (try with_reducible rfl)
  try simp only [Act.put, List.setIfInBounds_toArray, List.set_cons_zero, List.set_cons_succ]
  refine wpAnyH_take (i := 11) (oi := { dst := some 18, op := _, type := _, pos := _, after := _, guard := _ }) (v := ?_) rfl (by kernel_rfl) (by kernel_rfl) (by kernel_rfl) (fun _ _ _ h => h) (Or.inl ⟨by rfl, ?_⟩) (by assumption) ?_
  rotate_left
  · intro u hSu; have hSv := blkCell hSu; clear hSu; go_simp; (try with_reducible rfl)
  try simp only [Act.put, List.setIfInBounds_toArray, List.set_cons_zero, List.set_cons_succ]
  refine wpAnyH_take (i := 12) (oi := { dst := some 19, op := _, type := _, pos := _, after := _, guard := _ }) (v := ?_) rfl (by kernel_rfl) (by kernel_rfl) (by kernel_rfl) (fun _ _ _ h => h) (Or.inl ⟨by rfl, ?_⟩) (by assumption) ?_
  rotate_left
  · intro u hSu; have hSv := blkCell hSu; clear hSu; go_simp; (try with_reducible rfl)
  try simp only [Act.put, List.setIfInBounds_toArray, List.set_cons_zero, List.set_cons_succ]
  refine wpAnyH_take (i := 13) (oi := { dst := some 5, op := _, type := _, pos := _, after := _, guard := _ }) (v := ?_) rfl (by kernel_rfl) (by kernel_rfl) (by kernel_rfl) (fun _ _ _ h => h) (Or.inl ⟨by rfl, ?_⟩) (by assumption) ?_
  rotate_left
  · intro u hSu; have hSv := blkCell hSu; clear hSu; go_simp; (try with_reducible rfl)
  try simp only [Act.put, List.setIfInBounds_toArray, List.set_cons_zero, List.set_cons_succ]
  refine wpAnyH_take (i := 14) (oi := { dst := some 6, op := _, type := _, pos := _, after := _, guard := _ }) (v := ?_) rfl (by kernel_rfl) (by kernel_rfl) (by kernel_rfl) (fun _ _ _ h => h) (Or.inl ⟨by rfl, ?_⟩) (by assumption) ?_
  rotate_left
  · intro u hSu; have hSv := blkCell hSu; clear hSu; go_simp; (try with_reducible rfl)
  try simp only [Act.put, List.setIfInBounds_toArray, List.set_cons_zero, List.set_cons_succ]
  refine wpAnyH_done (by kernel_rfl) ?_ _
  have H1 := Lib.hid hHeld
  have HK := Lib.hid (show Below w.heap.size w w1 from (Below.refl _ w).drew.trans hb1)
  clear hHeld hSn hb1
  have c0 := blkCell H1.out 0
  have c1 := blkCell H1.out 1
  have c2 := blkCell H1.out 2
  have f1 := blkFrozen H1.out 1
  have f2 := blkFrozen H1.out 2
  simp at c0 c1 c2
  go_wp2_with fail
  go_ret
  refine ⟨rfl, ?_, ?_⟩
  · have h := blkSet 2 (blkSet 1 H1.out (.int .i64 ((a : Int) + (k : Int)))) (.bool false)
    first | exact h | simpa using h
  · refine ⟨HK.out.os, HK.out.tape, HK.out.output, by have := HK.out.size; simpa [World.setCell] using this, fun i hi hib => ?_⟩
    rw [Below.heap_setCell _ _ _ _ hib, Below.heap_setCell _ _ _ _ hib]
    exact HK.out.block i hi
set_option maxRecDepth 100000 in
set_option maxHeartbeats 1000000 in
theorem rnum_tt (b : Nat) (s : ByteArray) (a k : Nat) (h1 : 1 ≤ k) (h6 : k ≤ 6) (hm : s.size ≤ 1000000000) (ha : a ≤ 2000000000) (hin : a + k ≤ s.size) (w : World) (hb : w.heap[b]? = some (.cells (rdC s a true) 89 (0, 0))) :
    Calls Try.prog 55 #[.pointer (some ⟨b, 0, none⟩), .int .i64 (k : Int)] w fun e w' => e = .returned (.int .i64 (Oct.intOf (Oct.getN s.data.toList a k))) ∧ w'.heap[b]? = some (.cells (rdC s (a + k) true) 89 (0, 0)) ∧ KeptB w.heap.size b w w' := by
  have HG := Lib.hid (fun W => get_yes s a k h1 (by omega) hin (by omega) W)
  have HB := Lib.hid hb
  have w1' : IntKind.i64.wrap ((a : Int) + (k : Int)) = (a : Int) + (k : Int) := IntWalk.i64_in _ (by omega)
  clear hb hin
  generalize Oct.intOf (Oct.getN s.data.toList a k) = n at HG ⊢
  go_enter Try.func55, Try.ntmps55
  go_upto_region 1 with fail
  refine wp_region_held_drew (S := (fun u => u.heap[b]? = some (.cells (rdC s a true) 89 (0, 0)))) (by kernel_rfl) ?_ (fun hHeld => ?_)
  · first | exact hSn | exact HB.out
  refine wpAnyH_take (i := 0) (oi := { dst := some 8, op := _, type := _, pos := _, after := _, guard := _ }) (v := ?_) rfl (by kernel_rfl) (by kernel_rfl) (by kernel_rfl) (fun _ _ _ h => h) (Or.inl ⟨by rfl, ?_⟩) (by assumption) ?_
  rotate_left
  · intro u hSu; have hSv := blkCell hSu; clear hSu; go_simp; (try with_reducible rfl)
  try simp only [Act.put, List.setIfInBounds_toArray, List.set_cons_zero, List.set_cons_succ]
  refine wpAnyH_take (i := 1) (oi := { dst := some 9, op := _, type := _, pos := _, after := _, guard := _ }) (v := ?_) rfl (by kernel_rfl) (by kernel_rfl) (by kernel_rfl) (fun _ _ _ h => h) (Or.inl ⟨by rfl, ?_⟩) (by assumption) ?_
  rotate_left
  · intro u hSu; have hSv := blkCell hSu; clear hSu; go_simp; (try with_reducible rfl)
  try simp only [Act.put, List.setIfInBounds_toArray, List.set_cons_zero, List.set_cons_succ]
  refine wpAnyH_take (i := 2) (oi := { dst := some 10, op := _, type := _, pos := _, after := _, guard := _ }) (v := ?_) rfl (by kernel_rfl) (by kernel_rfl) (by kernel_rfl) (fun _ _ _ h => h) (Or.inl ⟨by rfl, ?_⟩) (by assumption) ?_
  rotate_left
  · intro u hSu; have hSv := blkCell hSu; clear hSu; go_simp; (try with_reducible rfl)
  try simp only [Act.put, List.setIfInBounds_toArray, List.set_cons_zero, List.set_cons_succ]
  refine wpAnyH_take (i := 3) (oi := { dst := some 11, op := _, type := _, pos := _, after := _, guard := _ }) (v := ?_) rfl (by kernel_rfl) (by kernel_rfl) (by kernel_rfl) (fun _ _ _ h => h) (Or.inl ⟨by rfl, ?_⟩) (by assumption) ?_
  rotate_left
  · intro u hSu; have hSv := blkCell hSu; clear hSu; go_simp; (try with_reducible rfl)
  try simp only [Act.put, List.setIfInBounds_toArray, List.set_cons_zero, List.set_cons_succ]
  refine wpAnyH_take (i := 4) (oi := { dst := some 12, op := _, type := _, pos := _, after := _, guard := _ }) (v := ?_) rfl (by kernel_rfl) (by kernel_rfl) (by kernel_rfl) (fun _ _ _ h => h) (Or.inl ⟨by rfl, ?_⟩) (by assumption) ?_
  rotate_left
  · intro u hSu; have hSv := blkCell hSu; clear hSu; go_simp; (try with_reducible rfl)
  try simp only [Act.put, List.setIfInBounds_toArray, List.set_cons_zero, List.set_cons_succ]
  refine wpAnyH_take (i := 5) (oi := { dst := some 13, op := _, type := _, pos := _, after := _, guard := _ }) (v := ?_) rfl (by kernel_rfl) (by kernel_rfl) (by kernel_rfl) (fun _ _ _ h => h) (Or.inl ⟨by rfl, ?_⟩) (by assumption) ?_
  rotate_left
  · intro u hSu; have hSv := blkCell hSu; clear hSu; go_simp; (try with_reducible rfl)
  try simp only [Act.put, List.setIfInBounds_toArray, List.set_cons_zero, List.set_cons_succ]
  refine wpAnyH_take (i := 6) (oi := { dst := some 14, op := _, type := _, pos := _, after := _, guard := _ }) (v := ?_) rfl (by kernel_rfl) (by kernel_rfl) (by kernel_rfl) (fun _ _ _ h => h) (Or.inl ⟨by rfl, ?_⟩) (by assumption) ?_
  rotate_left
  · intro u hSu; have hSv := blkCell hSu; clear hSu; go_simp; (try with_reducible rfl)
  try simp only [Act.put, List.setIfInBounds_toArray, List.set_cons_zero, List.set_cons_succ]
  refine wpAnyH_take (i := 7) (oi := { dst := some 15, op := _, type := _, pos := _, after := _, guard := _ }) (v := ?_) rfl (by kernel_rfl) (by kernel_rfl) (by kernel_rfl) (fun _ _ _ h => h) (Or.inl ⟨by rfl, ?_⟩) (by assumption) ?_
  rotate_left
  · intro u hSu; have hSv := blkCell hSu; clear hSu; go_simp; (try with_reducible rfl)
  try simp only [Act.put, List.setIfInBounds_toArray, List.set_cons_zero, List.set_cons_succ]
  refine wpAnyH_take (i := 8) (oi := { dst := some 16, op := _, type := _, pos := _, after := _, guard := _ }) (v := ?_) rfl (by kernel_rfl) (by kernel_rfl) (by kernel_rfl) (fun _ _ _ h => h) (Or.inl ⟨by rfl, ?_⟩) (by assumption) ?_
  rotate_left
  · intro u hSu; have hSv := blkCell hSu; clear hSu; go_simp; (try with_reducible rfl)
  try simp only [Act.put, List.setIfInBounds_toArray, List.set_cons_zero, List.set_cons_succ]
  refine wpAnyH_ready (rs := [9]) (by kernel_rfl) (by simp) ?_
  refine AllReadyH.cons (o := { dst := some 17, op := _, type := _, pos := _, after := _, guard := _ }) rfl (fun K hK => ?_) ?_
  rotate_left
  · exact AllReadyH.nil
  go_simp
  refine (HG.out _).mono ?_; rintro e w1 ⟨rfl, hb1⟩; have hSn := blkOld HB.out ((Below.refl _ w).drew.trans hb1); try go_simp
  refine hK.out _ _ ?_ (fun hHeld => ?_)
  · first | exact hSn | exact HB.out
  clear hK K
  try simp only [Act.put, List.setIfInBounds_toArray, List.set_cons_zero, List.set_cons_succ]
  refine wpAnyH_take (i := 10) (oi := { dst := some 7, op := _, type := _, pos := _, after := _, guard := _ }) (v := ?_) rfl (by kernel_rfl) (by kernel_rfl) (by kernel_rfl) (fun _ _ _ h => h) (Or.inl ⟨by rfl, ?_⟩) (by assumption) ?_
  rotate_left
  · intro u hSu; have hSv := blkCell hSu; clear hSu; go_simp; (try with_reducible rfl)
  try simp only [Act.put, List.setIfInBounds_toArray, List.set_cons_zero, List.set_cons_succ]
  refine wpAnyH_take (i := 11) (oi := { dst := some 18, op := _, type := _, pos := _, after := _, guard := _ }) (v := ?_) rfl (by kernel_rfl) (by kernel_rfl) (by kernel_rfl) (fun _ _ _ h => h) (Or.inl ⟨by rfl, ?_⟩) (by assumption) ?_
  rotate_left
  · intro u hSu; have hSv := blkCell hSu; clear hSu; go_simp; (try with_reducible rfl)
  try simp only [Act.put, List.setIfInBounds_toArray, List.set_cons_zero, List.set_cons_succ]
  refine wpAnyH_take (i := 12) (oi := { dst := some 19, op := _, type := _, pos := _, after := _, guard := _ }) (v := ?_) rfl (by kernel_rfl) (by kernel_rfl) (by kernel_rfl) (fun _ _ _ h => h) (Or.inl ⟨by rfl, ?_⟩) (by assumption) ?_
  rotate_left
  · intro u hSu; have hSv := blkCell hSu; clear hSu; go_simp; (try with_reducible rfl)
  try simp only [Act.put, List.setIfInBounds_toArray, List.set_cons_zero, List.set_cons_succ]
  refine wpAnyH_take (i := 13) (oi := { dst := some 5, op := _, type := _, pos := _, after := _, guard := _ }) (v := ?_) rfl (by kernel_rfl) (by kernel_rfl) (by kernel_rfl) (fun _ _ _ h => h) (Or.inl ⟨by rfl, ?_⟩) (by assumption) ?_
  rotate_left
  · intro u hSu; have hSv := blkCell hSu; clear hSu; go_simp; (try with_reducible rfl)
  try simp only [Act.put, List.setIfInBounds_toArray, List.set_cons_zero, List.set_cons_succ]
  refine wpAnyH_take (i := 14) (oi := { dst := some 6, op := _, type := _, pos := _, after := _, guard := _ }) (v := ?_) rfl (by kernel_rfl) (by kernel_rfl) (by kernel_rfl) (fun _ _ _ h => h) (Or.inl ⟨by rfl, ?_⟩) (by assumption) ?_
  rotate_left
  · intro u hSu; have hSv := blkCell hSu; clear hSu; go_simp; (try with_reducible rfl)
  try simp only [Act.put, List.setIfInBounds_toArray, List.set_cons_zero, List.set_cons_succ]
  refine wpAnyH_done (by kernel_rfl) ?_ _
  have H1 := Lib.hid hHeld
  have HK := Lib.hid (show Below w.heap.size w w1 from (Below.refl _ w).drew.trans hb1)
  clear hHeld hSn hb1
  have c0 := blkCell H1.out 0
  have c1 := blkCell H1.out 1
  have c2 := blkCell H1.out 2
  have f1 := blkFrozen H1.out 1
  have f2 := blkFrozen H1.out 2
  simp at c0 c1 c2
  go_wp2_with fail
  go_ret
  refine ⟨rfl, ?_, ?_⟩
  · have h := blkSet 2 (blkSet 1 H1.out (.int .i64 ((a : Int) + (k : Int)))) (.bool true)
    first | exact h | simpa using h
  · refine ⟨HK.out.os, HK.out.tape, HK.out.output, by have := HK.out.size; simpa [World.setCell] using this, fun i hi hib => ?_⟩
    rw [Below.heap_setCell _ _ _ _ hib, Below.heap_setCell _ _ _ _ hib]
    exact HK.out.block i hi
set_option maxRecDepth 100000 in
set_option maxHeartbeats 1000000 in
theorem rnum_ff (b : Nat) (s : ByteArray) (a k : Nat) (h1 : 1 ≤ k) (h6 : k ≤ 6) (hm : s.size ≤ 1000000000) (ha : a ≤ 2000000000) (hin : ¬ a + k ≤ s.size) (w : World) (hb : w.heap[b]? = some (.cells (rdC s a false) 89 (0, 0))) :
    Calls Try.prog 55 #[.pointer (some ⟨b, 0, none⟩), .int .i64 (k : Int)] w fun e w' => e = .returned (.int .i64 (0)) ∧ w'.heap[b]? = some (.cells (rdC s (a + k) true) 89 (0, 0)) ∧ KeptB w.heap.size b w w' := by
  have HG := Lib.hid (fun W => get_no s a k (by omega) (by omega) (by omega) (by unfold Oct.there; simp; omega) W)
  have HB := Lib.hid hb
  have w1' : IntKind.i64.wrap ((a : Int) + (k : Int)) = (a : Int) + (k : Int) := IntWalk.i64_in _ (by omega)
  clear hb hin
  go_enter Try.func55, Try.ntmps55
  go_upto_region 1 with fail
  refine wp_region_held_drew (S := (fun u => u.heap[b]? = some (.cells (rdC s a false) 89 (0, 0)))) (by kernel_rfl) ?_ (fun hHeld => ?_)
  · first | exact hSn | exact HB.out
  refine wpAnyH_take (i := 0) (oi := { dst := some 8, op := _, type := _, pos := _, after := _, guard := _ }) (v := ?_) rfl (by kernel_rfl) (by kernel_rfl) (by kernel_rfl) (fun _ _ _ h => h) (Or.inl ⟨by rfl, ?_⟩) (by assumption) ?_
  rotate_left
  · intro u hSu; have hSv := blkCell hSu; clear hSu; go_simp; (try with_reducible rfl)
  try simp only [Act.put, List.setIfInBounds_toArray, List.set_cons_zero, List.set_cons_succ]
  refine wpAnyH_take (i := 1) (oi := { dst := some 9, op := _, type := _, pos := _, after := _, guard := _ }) (v := ?_) rfl (by kernel_rfl) (by kernel_rfl) (by kernel_rfl) (fun _ _ _ h => h) (Or.inl ⟨by rfl, ?_⟩) (by assumption) ?_
  rotate_left
  · intro u hSu; have hSv := blkCell hSu; clear hSu; go_simp; (try with_reducible rfl)
  try simp only [Act.put, List.setIfInBounds_toArray, List.set_cons_zero, List.set_cons_succ]
  refine wpAnyH_take (i := 2) (oi := { dst := some 10, op := _, type := _, pos := _, after := _, guard := _ }) (v := ?_) rfl (by kernel_rfl) (by kernel_rfl) (by kernel_rfl) (fun _ _ _ h => h) (Or.inl ⟨by rfl, ?_⟩) (by assumption) ?_
  rotate_left
  · intro u hSu; have hSv := blkCell hSu; clear hSu; go_simp; (try with_reducible rfl)
  try simp only [Act.put, List.setIfInBounds_toArray, List.set_cons_zero, List.set_cons_succ]
  refine wpAnyH_take (i := 3) (oi := { dst := some 11, op := _, type := _, pos := _, after := _, guard := _ }) (v := ?_) rfl (by kernel_rfl) (by kernel_rfl) (by kernel_rfl) (fun _ _ _ h => h) (Or.inl ⟨by rfl, ?_⟩) (by assumption) ?_
  rotate_left
  · intro u hSu; have hSv := blkCell hSu; clear hSu; go_simp; (try with_reducible rfl)
  try simp only [Act.put, List.setIfInBounds_toArray, List.set_cons_zero, List.set_cons_succ]
  refine wpAnyH_take (i := 4) (oi := { dst := some 12, op := _, type := _, pos := _, after := _, guard := _ }) (v := ?_) rfl (by kernel_rfl) (by kernel_rfl) (by kernel_rfl) (fun _ _ _ h => h) (Or.inl ⟨by rfl, ?_⟩) (by assumption) ?_
  rotate_left
  · intro u hSu; have hSv := blkCell hSu; clear hSu; go_simp; (try with_reducible rfl)
  try simp only [Act.put, List.setIfInBounds_toArray, List.set_cons_zero, List.set_cons_succ]
  refine wpAnyH_take (i := 5) (oi := { dst := some 13, op := _, type := _, pos := _, after := _, guard := _ }) (v := ?_) rfl (by kernel_rfl) (by kernel_rfl) (by kernel_rfl) (fun _ _ _ h => h) (Or.inl ⟨by rfl, ?_⟩) (by assumption) ?_
  rotate_left
  · intro u hSu; have hSv := blkCell hSu; clear hSu; go_simp; (try with_reducible rfl)
  try simp only [Act.put, List.setIfInBounds_toArray, List.set_cons_zero, List.set_cons_succ]
  refine wpAnyH_take (i := 6) (oi := { dst := some 14, op := _, type := _, pos := _, after := _, guard := _ }) (v := ?_) rfl (by kernel_rfl) (by kernel_rfl) (by kernel_rfl) (fun _ _ _ h => h) (Or.inl ⟨by rfl, ?_⟩) (by assumption) ?_
  rotate_left
  · intro u hSu; have hSv := blkCell hSu; clear hSu; go_simp; (try with_reducible rfl)
  try simp only [Act.put, List.setIfInBounds_toArray, List.set_cons_zero, List.set_cons_succ]
  refine wpAnyH_take (i := 7) (oi := { dst := some 15, op := _, type := _, pos := _, after := _, guard := _ }) (v := ?_) rfl (by kernel_rfl) (by kernel_rfl) (by kernel_rfl) (fun _ _ _ h => h) (Or.inl ⟨by rfl, ?_⟩) (by assumption) ?_
  rotate_left
  · intro u hSu; have hSv := blkCell hSu; clear hSu; go_simp; (try with_reducible rfl)
  try simp only [Act.put, List.setIfInBounds_toArray, List.set_cons_zero, List.set_cons_succ]
  refine wpAnyH_take (i := 8) (oi := { dst := some 16, op := _, type := _, pos := _, after := _, guard := _ }) (v := ?_) rfl (by kernel_rfl) (by kernel_rfl) (by kernel_rfl) (fun _ _ _ h => h) (Or.inl ⟨by rfl, ?_⟩) (by assumption) ?_
  rotate_left
  · intro u hSu; have hSv := blkCell hSu; clear hSu; go_simp; (try with_reducible rfl)
  try simp only [Act.put, List.setIfInBounds_toArray, List.set_cons_zero, List.set_cons_succ]
  refine wpAnyH_ready (rs := [9]) (by kernel_rfl) (by simp) ?_
  refine AllReadyH.cons (o := { dst := some 17, op := _, type := _, pos := _, after := _, guard := _ }) rfl (fun K hK => ?_) ?_
  rotate_left
  · exact AllReadyH.nil
  go_simp
  refine (HG.out _).mono ?_; rintro e w1 ⟨rfl, hw1⟩; have hb1 : Below w.drew.heap.size w.drew w1 := (by rw [← hw1]; exact Below.refl _ _); have hSn := blkOld HB.out ((Below.refl _ w).drew.trans hb1); try go_simp
  refine hK.out _ _ ?_ (fun hHeld => ?_)
  · first | exact hSn | exact HB.out
  clear hK K
  try simp only [Act.put, List.setIfInBounds_toArray, List.set_cons_zero, List.set_cons_succ]
  refine wpAnyH_take (i := 10) (oi := { dst := some 7, op := _, type := _, pos := _, after := _, guard := _ }) (v := ?_) rfl (by kernel_rfl) (by kernel_rfl) (by kernel_rfl) (fun _ _ _ h => h) (Or.inl ⟨by rfl, ?_⟩) (by assumption) ?_
  rotate_left
  · intro u hSu; have hSv := blkCell hSu; clear hSu; go_simp; (try with_reducible rfl)
  try simp only [Act.put, List.setIfInBounds_toArray, List.set_cons_zero, List.set_cons_succ]
  refine wpAnyH_take (i := 11) (oi := { dst := some 18, op := _, type := _, pos := _, after := _, guard := _ }) (v := ?_) rfl (by kernel_rfl) (by kernel_rfl) (by kernel_rfl) (fun _ _ _ h => h) (Or.inl ⟨by rfl, ?_⟩) (by assumption) ?_
  rotate_left
  · intro u hSu; have hSv := blkCell hSu; clear hSu; go_simp; (try with_reducible rfl)
  try simp only [Act.put, List.setIfInBounds_toArray, List.set_cons_zero, List.set_cons_succ]
  refine wpAnyH_take (i := 12) (oi := { dst := some 19, op := _, type := _, pos := _, after := _, guard := _ }) (v := ?_) rfl (by kernel_rfl) (by kernel_rfl) (by kernel_rfl) (fun _ _ _ h => h) (Or.inl ⟨by rfl, ?_⟩) (by assumption) ?_
  rotate_left
  · intro u hSu; have hSv := blkCell hSu; clear hSu; go_simp; (try with_reducible rfl)
  try simp only [Act.put, List.setIfInBounds_toArray, List.set_cons_zero, List.set_cons_succ]
  refine wpAnyH_take (i := 13) (oi := { dst := some 5, op := _, type := _, pos := _, after := _, guard := _ }) (v := ?_) rfl (by kernel_rfl) (by kernel_rfl) (by kernel_rfl) (fun _ _ _ h => h) (Or.inl ⟨by rfl, ?_⟩) (by assumption) ?_
  rotate_left
  · intro u hSu; have hSv := blkCell hSu; clear hSu; go_simp; (try with_reducible rfl)
  try simp only [Act.put, List.setIfInBounds_toArray, List.set_cons_zero, List.set_cons_succ]
  refine wpAnyH_take (i := 14) (oi := { dst := some 6, op := _, type := _, pos := _, after := _, guard := _ }) (v := ?_) rfl (by kernel_rfl) (by kernel_rfl) (by kernel_rfl) (fun _ _ _ h => h) (Or.inl ⟨by rfl, ?_⟩) (by assumption) ?_
  rotate_left
  · intro u hSu; have hSv := blkCell hSu; clear hSu; go_simp; (try with_reducible rfl)
  try simp only [Act.put, List.setIfInBounds_toArray, List.set_cons_zero, List.set_cons_succ]
  refine wpAnyH_done (by kernel_rfl) ?_ _
  have H1 := Lib.hid hHeld
  have HK := Lib.hid (show Below w.heap.size w w1 from (Below.refl _ w).drew.trans hb1)
  clear hHeld hSn hb1
  have c0 := blkCell H1.out 0
  have c1 := blkCell H1.out 1
  have c2 := blkCell H1.out 2
  have f1 := blkFrozen H1.out 1
  have f2 := blkFrozen H1.out 2
  simp at c0 c1 c2
  go_wp2_with fail
  go_ret
  refine ⟨rfl, ?_, ?_⟩
  · have h := blkSet 2 (blkSet 1 H1.out (.int .i64 ((a : Int) + (k : Int)))) (.bool true)
    first | exact h | simpa using h
  · refine ⟨HK.out.os, HK.out.tape, HK.out.output, by have := HK.out.size; simpa [World.setCell] using this, fun i hi hib => ?_⟩
    rw [Below.heap_setCell _ _ _ _ hib, Below.heap_setCell _ _ _ _ hib]
    exact HK.out.block i hi
set_option maxRecDepth 100000 in
set_option maxHeartbeats 1000000 in
theorem rnum_ft (b : Nat) (s : ByteArray) (a k : Nat) (h1 : 1 ≤ k) (h6 : k ≤ 6) (hm : s.size ≤ 1000000000) (ha : a ≤ 2000000000) (hin : ¬ a + k ≤ s.size) (w : World) (hb : w.heap[b]? = some (.cells (rdC s a true) 89 (0, 0))) :
    Calls Try.prog 55 #[.pointer (some ⟨b, 0, none⟩), .int .i64 (k : Int)] w fun e w' => e = .returned (.int .i64 (0)) ∧ w'.heap[b]? = some (.cells (rdC s (a + k) true) 89 (0, 0)) ∧ KeptB w.heap.size b w w' := by
  have HG := Lib.hid (fun W => get_no s a k (by omega) (by omega) (by omega) (by unfold Oct.there; simp; omega) W)
  have HB := Lib.hid hb
  have w1' : IntKind.i64.wrap ((a : Int) + (k : Int)) = (a : Int) + (k : Int) := IntWalk.i64_in _ (by omega)
  clear hb hin
  go_enter Try.func55, Try.ntmps55
  go_upto_region 1 with fail
  refine wp_region_held_drew (S := (fun u => u.heap[b]? = some (.cells (rdC s a true) 89 (0, 0)))) (by kernel_rfl) ?_ (fun hHeld => ?_)
  · first | exact hSn | exact HB.out
  refine wpAnyH_take (i := 0) (oi := { dst := some 8, op := _, type := _, pos := _, after := _, guard := _ }) (v := ?_) rfl (by kernel_rfl) (by kernel_rfl) (by kernel_rfl) (fun _ _ _ h => h) (Or.inl ⟨by rfl, ?_⟩) (by assumption) ?_
  rotate_left
  · intro u hSu; have hSv := blkCell hSu; clear hSu; go_simp; (try with_reducible rfl)
  try simp only [Act.put, List.setIfInBounds_toArray, List.set_cons_zero, List.set_cons_succ]
  refine wpAnyH_take (i := 1) (oi := { dst := some 9, op := _, type := _, pos := _, after := _, guard := _ }) (v := ?_) rfl (by kernel_rfl) (by kernel_rfl) (by kernel_rfl) (fun _ _ _ h => h) (Or.inl ⟨by rfl, ?_⟩) (by assumption) ?_
  rotate_left
  · intro u hSu; have hSv := blkCell hSu; clear hSu; go_simp; (try with_reducible rfl)
  try simp only [Act.put, List.setIfInBounds_toArray, List.set_cons_zero, List.set_cons_succ]
  refine wpAnyH_take (i := 2) (oi := { dst := some 10, op := _, type := _, pos := _, after := _, guard := _ }) (v := ?_) rfl (by kernel_rfl) (by kernel_rfl) (by kernel_rfl) (fun _ _ _ h => h) (Or.inl ⟨by rfl, ?_⟩) (by assumption) ?_
  rotate_left
  · intro u hSu; have hSv := blkCell hSu; clear hSu; go_simp; (try with_reducible rfl)
  try simp only [Act.put, List.setIfInBounds_toArray, List.set_cons_zero, List.set_cons_succ]
  refine wpAnyH_take (i := 3) (oi := { dst := some 11, op := _, type := _, pos := _, after := _, guard := _ }) (v := ?_) rfl (by kernel_rfl) (by kernel_rfl) (by kernel_rfl) (fun _ _ _ h => h) (Or.inl ⟨by rfl, ?_⟩) (by assumption) ?_
  rotate_left
  · intro u hSu; have hSv := blkCell hSu; clear hSu; go_simp; (try with_reducible rfl)
  try simp only [Act.put, List.setIfInBounds_toArray, List.set_cons_zero, List.set_cons_succ]
  refine wpAnyH_take (i := 4) (oi := { dst := some 12, op := _, type := _, pos := _, after := _, guard := _ }) (v := ?_) rfl (by kernel_rfl) (by kernel_rfl) (by kernel_rfl) (fun _ _ _ h => h) (Or.inl ⟨by rfl, ?_⟩) (by assumption) ?_
  rotate_left
  · intro u hSu; have hSv := blkCell hSu; clear hSu; go_simp; (try with_reducible rfl)
  try simp only [Act.put, List.setIfInBounds_toArray, List.set_cons_zero, List.set_cons_succ]
  refine wpAnyH_take (i := 5) (oi := { dst := some 13, op := _, type := _, pos := _, after := _, guard := _ }) (v := ?_) rfl (by kernel_rfl) (by kernel_rfl) (by kernel_rfl) (fun _ _ _ h => h) (Or.inl ⟨by rfl, ?_⟩) (by assumption) ?_
  rotate_left
  · intro u hSu; have hSv := blkCell hSu; clear hSu; go_simp; (try with_reducible rfl)
  try simp only [Act.put, List.setIfInBounds_toArray, List.set_cons_zero, List.set_cons_succ]
  refine wpAnyH_take (i := 6) (oi := { dst := some 14, op := _, type := _, pos := _, after := _, guard := _ }) (v := ?_) rfl (by kernel_rfl) (by kernel_rfl) (by kernel_rfl) (fun _ _ _ h => h) (Or.inl ⟨by rfl, ?_⟩) (by assumption) ?_
  rotate_left
  · intro u hSu; have hSv := blkCell hSu; clear hSu; go_simp; (try with_reducible rfl)
  try simp only [Act.put, List.setIfInBounds_toArray, List.set_cons_zero, List.set_cons_succ]
  refine wpAnyH_take (i := 7) (oi := { dst := some 15, op := _, type := _, pos := _, after := _, guard := _ }) (v := ?_) rfl (by kernel_rfl) (by kernel_rfl) (by kernel_rfl) (fun _ _ _ h => h) (Or.inl ⟨by rfl, ?_⟩) (by assumption) ?_
  rotate_left
  · intro u hSu; have hSv := blkCell hSu; clear hSu; go_simp; (try with_reducible rfl)
  try simp only [Act.put, List.setIfInBounds_toArray, List.set_cons_zero, List.set_cons_succ]
  refine wpAnyH_take (i := 8) (oi := { dst := some 16, op := _, type := _, pos := _, after := _, guard := _ }) (v := ?_) rfl (by kernel_rfl) (by kernel_rfl) (by kernel_rfl) (fun _ _ _ h => h) (Or.inl ⟨by rfl, ?_⟩) (by assumption) ?_
  rotate_left
  · intro u hSu; have hSv := blkCell hSu; clear hSu; go_simp; (try with_reducible rfl)
  try simp only [Act.put, List.setIfInBounds_toArray, List.set_cons_zero, List.set_cons_succ]
  refine wpAnyH_ready (rs := [9]) (by kernel_rfl) (by simp) ?_
  refine AllReadyH.cons (o := { dst := some 17, op := _, type := _, pos := _, after := _, guard := _ }) rfl (fun K hK => ?_) ?_
  rotate_left
  · exact AllReadyH.nil
  go_simp
  refine (HG.out _).mono ?_; rintro e w1 ⟨rfl, hw1⟩; have hb1 : Below w.drew.heap.size w.drew w1 := (by rw [← hw1]; exact Below.refl _ _); have hSn := blkOld HB.out ((Below.refl _ w).drew.trans hb1); try go_simp
  refine hK.out _ _ ?_ (fun hHeld => ?_)
  · first | exact hSn | exact HB.out
  clear hK K
  try simp only [Act.put, List.setIfInBounds_toArray, List.set_cons_zero, List.set_cons_succ]
  refine wpAnyH_take (i := 10) (oi := { dst := some 7, op := _, type := _, pos := _, after := _, guard := _ }) (v := ?_) rfl (by kernel_rfl) (by kernel_rfl) (by kernel_rfl) (fun _ _ _ h => h) (Or.inl ⟨by rfl, ?_⟩) (by assumption) ?_
  rotate_left
  · intro u hSu; have hSv := blkCell hSu; clear hSu; go_simp; (try with_reducible rfl)
  try simp only [Act.put, List.setIfInBounds_toArray, List.set_cons_zero, List.set_cons_succ]
  refine wpAnyH_take (i := 11) (oi := { dst := some 18, op := _, type := _, pos := _, after := _, guard := _ }) (v := ?_) rfl (by kernel_rfl) (by kernel_rfl) (by kernel_rfl) (fun _ _ _ h => h) (Or.inl ⟨by rfl, ?_⟩) (by assumption) ?_
  rotate_left
  · intro u hSu; have hSv := blkCell hSu; clear hSu; go_simp; (try with_reducible rfl)
  try simp only [Act.put, List.setIfInBounds_toArray, List.set_cons_zero, List.set_cons_succ]
  refine wpAnyH_take (i := 12) (oi := { dst := some 19, op := _, type := _, pos := _, after := _, guard := _ }) (v := ?_) rfl (by kernel_rfl) (by kernel_rfl) (by kernel_rfl) (fun _ _ _ h => h) (Or.inl ⟨by rfl, ?_⟩) (by assumption) ?_
  rotate_left
  · intro u hSu; have hSv := blkCell hSu; clear hSu; go_simp; (try with_reducible rfl)
  try simp only [Act.put, List.setIfInBounds_toArray, List.set_cons_zero, List.set_cons_succ]
  refine wpAnyH_take (i := 13) (oi := { dst := some 5, op := _, type := _, pos := _, after := _, guard := _ }) (v := ?_) rfl (by kernel_rfl) (by kernel_rfl) (by kernel_rfl) (fun _ _ _ h => h) (Or.inl ⟨by rfl, ?_⟩) (by assumption) ?_
  rotate_left
  · intro u hSu; have hSv := blkCell hSu; clear hSu; go_simp; (try with_reducible rfl)
  try simp only [Act.put, List.setIfInBounds_toArray, List.set_cons_zero, List.set_cons_succ]
  refine wpAnyH_take (i := 14) (oi := { dst := some 6, op := _, type := _, pos := _, after := _, guard := _ }) (v := ?_) rfl (by kernel_rfl) (by kernel_rfl) (by kernel_rfl) (fun _ _ _ h => h) (Or.inl ⟨by rfl, ?_⟩) (by assumption) ?_
  rotate_left
  · intro u hSu; have hSv := blkCell hSu; clear hSu; go_simp; (try with_reducible rfl)
  try simp only [Act.put, List.setIfInBounds_toArray, List.set_cons_zero, List.set_cons_succ]
  refine wpAnyH_done (by kernel_rfl) ?_ _
  have H1 := Lib.hid hHeld
  have HK := Lib.hid (show Below w.heap.size w w1 from (Below.refl _ w).drew.trans hb1)
  clear hHeld hSn hb1
  have c0 := blkCell H1.out 0
  have c1 := blkCell H1.out 1
  have c2 := blkCell H1.out 2
  have f1 := blkFrozen H1.out 1
  have f2 := blkFrozen H1.out 2
  simp at c0 c1 c2
  go_wp2_with fail
  go_ret
  refine ⟨rfl, ?_, ?_⟩
  · have h := blkSet 2 (blkSet 1 H1.out (.int .i64 ((a : Int) + (k : Int)))) (.bool true)
    first | exact h | simpa using h
  · refine ⟨HK.out.os, HK.out.tape, HK.out.output, by have := HK.out.size; simpa [World.setCell] using this, fun i hi hib => ?_⟩
    rw [Below.heap_setCell _ _ _ _ hib, Below.heap_setCell _ _ _ _ hib]
    exact HK.out.block i hi
end Go.Proofs.Ytojaagnfjenhoaa
/- The walk over package rec: a reader's num, as the plain reader has it. -/
namespace Go.Proofs.Ytojaagnfjenhoaa
open Go.RowKit
theorem rnum_any (b : Nat) (s : ByteArray) (x : Rc.St) (k : Nat) (h1 : 1 ≤ k) (h6 : k ≤ 6) (hm : s.size ≤ 1000000000) (ha : x.at_ ≤ 2000000000) (w : World) (hb : w.heap[b]? = some (.cells (rdC s x.at_ x.bad) 89 (0, 0))) :
    Calls Try.prog 55 #[.pointer (some ⟨b, 0, none⟩), .int .i64 (k : Int)] w fun e w' => e = .returned (.int .i64 (Rc.numM true s.data.toList x k).1) ∧ w'.heap[b]? = some (.cells (rdC s (Rc.numM true s.data.toList x k).2.at_ (Rc.numM true s.data.toList x k).2.bad) 89 (0, 0)) ∧ KeptB w.heap.size b w w' := by
  obtain ⟨a, bad⟩ := x
  have hl : s.data.toList.length = s.size := by simp
  by_cases hin : a + k ≤ s.size
  · have hp := getN_small s.data.toList a k
    have h2 : 256 ^ k ≤ 256 ^ 6 := Nat.pow_le_pow_right (by omega) h6
    have h3 : Oct.getN s.data.toList a k < 281474976710656 := Nat.lt_of_lt_of_le hp h2
    have hi : Oct.intOf (Oct.getN s.data.toList a k) = ((Oct.getN s.data.toList a k : Nat) : Int) := by unfold Oct.intOf; rw [if_pos (by omega)]
    have hN : Rc.numM true s.data.toList ⟨a, bad⟩ k = (((Oct.getN s.data.toList a k : Nat) : Int), (⟨a + k, bad⟩ : Rc.St)) := by unfold Rc.numM; rw [if_pos (by show a + k ≤ _; omega)]
    rw [hN, ← hi]
    cases bad with
    | false => exact rnum_tf b s a k h1 h6 hm ha hin w hb
    | true => exact rnum_tt b s a k h1 h6 hm ha hin w hb
  · have hN : Rc.numM true s.data.toList ⟨a, bad⟩ k = ((0 : Int), (⟨a + k, true⟩ : Rc.St)) := by unfold Rc.numM; rw [if_neg (by show ¬ a + k ≤ _; omega)]; rfl
    rw [hN]
    cases bad with
    | false => exact rnum_ff b s a k h1 h6 hm ha hin w hb
    | true => exact rnum_ft b s a k h1 h6 hm ha hin w hb
end Go.Proofs.Ytojaagnfjenhoaa
