/- The walks over the references of disk and log: with, Write, filled, piece. -/
import Derived.Test.YtojaagnfjenhoaaGreatGl11
import Derived.Test.YtojaagnfjenhoaaGreatGl03
namespace Go.Proofs.YtojaagnfjenhoaaGreat
open Go.RowKit
set_option maxRecDepth 100000 in
set_option maxHeartbeats 2000000 in
theorem rwith_any (L : List ByteArray) (left : Int) (down : Bool) (A : Option Addr) (c : Nat) (k : Nat) (b : ByteArray) (hk : k < L.length) (hlen : L.length ≤ 1000000) (w : World) (h : Reads w A c L.length (L.flatMap strC)) :
    Calls Tryz.prog 55 #[.agg #[.slice A L.length c, .int .i64 left, .bool down], .int .i64 (k : Int), .string b] w fun e w' => ∃ A2 c2, e = .returned (.agg #[.slice A2 L.length c2, .int .i64 left, .bool down]) ∧ Reads w' A2 c2 L.length ((L.map Value.string).set k (.string b)) ∧ NewT w.heap.size w' 9 A2 ∧ Below w.heap.size w w' := by
  obtain ⟨i0, hi, hz0, hz1, hz2⟩ := info_parts info_string
  have hkI : (k : Int) < (L.length : Int) := by omega
  have HR := Lib.hid h
  clear h
  go_enter Tryz.func55, Tryz.ntmps55
  go_upto_region 1 with fail
  have H0 := Lib.hid (show BxL w.heap.size w [(#[.slice A L.length c, .int .i64 left, .bool down], 26), (#[.slice none 0 0, .int .i64 0, .bool false], 26)] ((w.alloc (.cells #[.slice A L.length c, .int .i64 left, .bool down] 26)).alloc (.cells #[.slice none 0 0, .int .i64 0, .bool false] 26)) from ((BxL.nil (Below.refl w.heap.size w)).new (by simp) #[.slice A L.length c, .int .i64 left, .bool down] 26).new (by simp) #[.slice none 0 0, .int .i64 0, .bool false] 26)
  have hc0 := blkCell (H0.out.get 0 _ rfl)
  simp only [Nat.add_zero] at hc0
  obtain ⟨W0, hW0⟩ : ∃ W, W = (w.alloc (.cells #[.slice A L.length c, .int .i64 left, .bool down] 26)).alloc (.cells #[.slice none 0 0, .int .i64 0, .bool false] 26) := ⟨_, rfl⟩
  have HSZ := Lib.hid (show W0.heap.size = w.heap.size + 2 from by rw [hW0]; simp)
  rw [← hW0] at H0 hc0 ⊢
  clear hW0
  have H1 := Lib.hid (H0.out.step (allocB W0 (.cells #[] 9)))
  have HRD := Lib.hid (HR.out.below H1.out.below)
  have hc1 := blkCell (H1.out.get 0 _ rfl)
  simp only [Nat.add_zero] at hc1
  go_upto_region 2 with (at_builtin; refine listWants (by kernel_rfl) fun K hK => wp_appR (W0.alloc (.cells #[] 9)) (.tmp 8) (.tmp 10) 24 9 i0 (.string ⟨#[]⟩) 1 16 Tryz.underlying24 hi hz0 hz1 hz2 rfl (by omega) rfl W0.heap.size _ 0 [] rfl (ownEmpty W0 9 1) A L.length c (L.flatMap strC) rfl HRD.out (by rw [flat_len strC_len]) (fun u hu => by rw [strC_map] at hu; obtain ⟨x, _, rfl⟩ := List.mem_map.1 hu; rfl) (by omega) (by omega) (by simp) ?_; intro v2 w2 ho hg hb; refine hK _ _ ?_)
  rw [List.nil_append, Nat.zero_add, strC_map] at ho
  have hs0 := HSZ.out
  have H2 := Lib.hid (H1.out.under (M := W0.heap.size) (by rw [hs0]; exact Nat.le_refl _) hb)
  obtain ⟨A2, c2, rfl⟩ := ownLen ho
  obtain ⟨g, cap, hv, hgB, hgl, hcap, hcl, hfz, hset⟩ := ownAt ho hk
  injection hv with hv1 hv2 hv3
  subst hv1 hv3
  rw [List.getElem?_eq_getElem (by simpa using hk)] at hcl
  simp only [List.getElem_map] at hcl
  have HSET := Lib.hid hset
  clear ho hset hg hb H1 HRD H0 hc0
  go_upto_region 3 with fail
  have hgw : w.heap.size + 2 ≤ g := by omega
  have H4 := Lib.hid (H2.out.under (M := g) (by show w.heap.size + 2 ≤ g; exact hgw) ((Below.refl g w2).setCell (p := ⟨g, k, none⟩) (Nat.le_refl g) (.string b)))
  have HO4 := Lib.hid (HSET.out (.string b))
  obtain ⟨W4, hW4⟩ : ∃ W, W = w2.setCell ⟨g, k, none⟩ (.string b) := ⟨_, rfl⟩
  rw [← hW4] at H4 HO4 ⊢
  have hc4 := blkCell (H4.out.get 0 _ rfl)
  have hz4 := blkFrozen (H4.out.get 0 _ rfl)
  simp only [Nat.add_zero] at hc4 hz4
  clear hW4 hcl hfz HSET H2
  go_upto_region 4 with fail
  have H5 := Lib.hid (H4.out.set 0 0 (.slice (some ⟨g, 0, none⟩) L.length c2) _ rfl)
  simp only [Nat.add_zero] at H5
  have HX5 := Lib.hid (show (W4.setCell ⟨w.heap.size, 0, none⟩ (.slice (some ⟨g, 0, none⟩) L.length c2)).heap[w.heap.size]? = some (.cells #[.slice (some ⟨g, 0, none⟩) L.length c2, .int .i64 left, .bool down] 26 (0, 0)) from by have h := H5.out.get 0 _ rfl; simpa using h)
  have HO5 := Lib.hid (ownSet HO4.out ⟨w.heap.size, 0, none⟩ (.slice (some ⟨g, 0, none⟩) L.length c2) (by show w.heap.size < _; omega))
  obtain ⟨W5, hW5⟩ : ∃ W, W = W4.setCell ⟨w.heap.size, 0, none⟩ (.slice (some ⟨g, 0, none⟩) L.length c2) := ⟨_, rfl⟩
  rw [← hW5] at H5 HX5 HO5 ⊢
  clear hW5 hc4 hz4 HO4 H4
  go_wp2_with (first
      | (with_reducible refine listLoad (by kernel_rfl) 26 (.tmp 3) rfl w.heap.size rfl #[.slice (some ⟨g, 0, none⟩) L.length c2, .int .i64 left, .bool down] _ HX5.out _ Tryz.underlying26 (by kernel_rfl) (by kernel_rfl) ?_) | (with_reducible refine listStore (by kernel_rfl) 26 (.tmp 6) (.tmp 18) rfl (w.heap.size + 1) #[.slice (some ⟨g, 0, none⟩) L.length c2, .int .i64 left, .bool down] _ _ rfl rfl (H5.out.get 1 _ rfl) (by kernel_rfl) (by kernel_rfl) (by kernel_rfl) ?_))
  refine bodyPost_ret (v := .agg #[.slice (some ⟨g, 0, none⟩) L.length c2, .int .i64 left, .bool down]) (results_cell rfl _ _ rfl (load_whole (setRow_heap _ _ _ _ _ _ (H5.out.get 1 _ rfl)) Tryz.underlying26 (by kernel_rfl) (by kernel_rfl))) rfl ?_
  exact ⟨_, _, rfl, (own_reads HO5.out).offRow _ _ (fun _ ad e => (by injection e with e; rw [← e]; show g ≠ w.heap.size + 1; omega)), ((NewT.own HO5.out).row _ _).mono (by omega), (H5.out.row 1 _ _ rfl).below⟩
set_option maxRecDepth 100000 in
set_option maxHeartbeats 2000000 in
theorem rwrite_down (L : List ByteArray) (left : Int) (A : Option Addr) (c : Nat) (a : Int) (b : ByteArray) (x : Lg.Dk × Int) (hx : x = (⟨L, left, true⟩, 20)) (w : World) (h : DiskR w ⟨L, left, true⟩ A c) :
    Calls Tryz.prog 29 #[.agg #[.slice A L.length c, .int .i64 left, .bool true], .int .i64 a, .string b] w (WriteOut x A w) := by
  have HO := Lib.hid (fun w' hb => write_keep (dn := true) hx h (w' := w') hb)
  dsimp only at HO
  clear hx h
  go_enter Tryz.func29, Tryz.ntmps29
  go_upto_region 1 with fail
  have H0 := Lib.hid (show BxL w.heap.size w [(#[.slice A L.length c, .int .i64 left, .bool true], 26), (#[.slice none 0 0, .int .i64 0, .bool false], 26)] ((w.alloc (.cells #[.slice A L.length c, .int .i64 left, .bool true] 26)).alloc (.cells #[.slice none 0 0, .int .i64 0, .bool false] 26)) from ((BxL.nil (Below.refl w.heap.size w)).new (by simp) #[.slice A L.length c, .int .i64 left, .bool true] 26).new (by simp) #[.slice none 0 0, .int .i64 0, .bool false] 26)
  have hc0 := blkCell (H0.out.get 0 _ rfl)
  simp only [Nat.add_zero] at hc0
  obtain ⟨W0, hW0⟩ : ∃ W, W = (w.alloc (.cells #[.slice A L.length c, .int .i64 left, .bool true] 26)).alloc (.cells #[.slice none 0 0, .int .i64 0, .bool false] 26) := ⟨_, rfl⟩
  rw [← hW0] at H0 hc0 ⊢
  clear hW0
  have HX0 := Lib.hid (show W0.heap[w.heap.size]? = some (.cells #[.slice A L.length c, .int .i64 left, .bool true] 26 (0, 0)) from (by have h := H0.out.get 0 _ rfl; simpa using h))
  go_wp2_with (first | (with_reducible refine listLoad (by kernel_rfl) 26 (.tmp 3) rfl w.heap.size rfl #[.slice A L.length c, .int .i64 left, .bool true] _ HX0.out _ Tryz.underlying26 (by kernel_rfl) (by kernel_rfl) ?_) | (with_reducible refine listStore (by kernel_rfl) 26 (.tmp 6) (.tmp 10) rfl (w.heap.size + 1) #[.slice A L.length c, .int .i64 left, .bool true] _ _ rfl rfl (H0.out.get 1 _ rfl) (by kernel_rfl) (by kernel_rfl) (by kernel_rfl) ?_))
  refine bodyPost_ret (v := .tuple #[.agg #[.slice A L.length c, .int .i64 left, .bool true], .int .i64 20]) (results_cell2 rfl _ _ rfl (load_whole (setRow_heap _ _ _ _ _ _ (H0.out.get 1 _ rfl)) Tryz.underlying26 (by kernel_rfl) (by kernel_rfl)) rfl) rfl ?_
  exact HO.out _ ((H0.out.row 1 _ _ rfl).below)
set_option maxRecDepth 100000 in
set_option maxHeartbeats 2000000 in
theorem rwrite_arg (L : List ByteArray) (left : Int) (A : Option Addr) (c : Nat) (a : Int) (b : ByteArray) (hno : ¬ (Lg.hasD ⟨L, left, false⟩ a ∧ b.size = 128)) (x : Lg.Dk × Int) (hx : x = (⟨L, left, false⟩, 1)) (w : World) (h : DiskR w ⟨L, left, false⟩ A c) :
    Calls Tryz.prog 29 #[.agg #[.slice A L.length c, .int .i64 left, .bool false], .int .i64 a, .string b] w (WriteOut x A w) := by
  have HO := Lib.hid (fun w' hb => write_keep (dn := false) hx h (w' := w') hb)
  dsimp only at HO
  have HH := Lib.hid (fun W => ris_any ⟨L, left, false⟩ A c a W)
  clear hx h
  by_cases hh : Lg.hasD ⟨L, left, false⟩ a
  · rw [decide_eq_true hh] at HH
    have hs : ¬ b.size = 128 := fun e => hno ⟨hh, e⟩
    have hs2 : ((b.size : Int) == 128) = false := by simp; omega
    have hs3 : ((b.size : Int) != 128) = true := by simp; omega
    have hs4 : (b.size == 128) = false := by simp; omega
    have hs5 : (b.size != 128) = true := by simp; omega
    clear hno hh
    dsimp only [diskV] at HH
    go_enter Tryz.func29, Tryz.ntmps29
    go_upto_region 1 with fail
    have H0 := Lib.hid (show BxL w.heap.size w [(#[.slice A L.length c, .int .i64 left, .bool false], 26), (#[.slice none 0 0, .int .i64 0, .bool false], 26)] ((w.alloc (.cells #[.slice A L.length c, .int .i64 left, .bool false] 26)).alloc (.cells #[.slice none 0 0, .int .i64 0, .bool false] 26)) from ((BxL.nil (Below.refl w.heap.size w)).new (by simp) #[.slice A L.length c, .int .i64 left, .bool false] 26).new (by simp) #[.slice none 0 0, .int .i64 0, .bool false] 26)
    have hc0 := blkCell (H0.out.get 0 _ rfl)
    simp only [Nat.add_zero] at hc0
    obtain ⟨W0, hW0⟩ : ∃ W, W = (w.alloc (.cells #[.slice A L.length c, .int .i64 left, .bool false] 26)).alloc (.cells #[.slice none 0 0, .int .i64 0, .bool false] 26) := ⟨_, rfl⟩
    rw [← hW0] at H0 hc0 ⊢
    clear hW0
    have HX0 := Lib.hid (show W0.heap[w.heap.size]? = some (.cells #[.slice A L.length c, .int .i64 left, .bool false] 26 (0, 0)) from (by have h := H0.out.get 0 _ rfl; simpa using h))
    go_upto_region 4 with (first | (with_reducible refine listLoad (by kernel_rfl) 26 (.tmp 3) rfl w.heap.size rfl #[.slice A L.length c, .int .i64 left, .bool false] _ HX0.out _ Tryz.underlying26 (by kernel_rfl) (by kernel_rfl) ?_) | (go_at_call 54; (with_reducible refine (HH.out _).mono ?_); rintro e w1 ⟨rfl, hb1⟩; have H1 := Lib.hid (H0.out.step hb1); clear hb1; have hc1 := blkCell (H1.out.get 0 _ rfl); simp only [Nat.add_zero] at hc1))
    have HX1 := Lib.hid (show w1.heap[w.heap.size]? = some (.cells #[.slice A L.length c, .int .i64 left, .bool false] 26 (0, 0)) from (by have h := H1.out.get 0 _ rfl; simpa using h))
    clear hs hs2 hs3 hs4 hs5
    go_wp2_with (first | (with_reducible refine listLoad (by kernel_rfl) 26 (.tmp 3) rfl w.heap.size rfl #[.slice A L.length c, .int .i64 left, .bool false] _ HX1.out _ Tryz.underlying26 (by kernel_rfl) (by kernel_rfl) ?_) | (with_reducible refine listStore (by kernel_rfl) 26 (.tmp 6) (.tmp 20) rfl (w.heap.size + 1) #[.slice A L.length c, .int .i64 left, .bool false] _ _ rfl rfl (H1.out.get 1 _ rfl) (by kernel_rfl) (by kernel_rfl) (by kernel_rfl) ?_))
    refine bodyPost_ret (v := .tuple #[.agg #[.slice A L.length c, .int .i64 left, .bool false], .int .i64 1]) (results_cell2 rfl _ _ rfl (load_whole (setRow_heap _ _ _ _ _ _ (H1.out.get 1 _ rfl)) Tryz.underlying26 (by kernel_rfl) (by kernel_rfl)) rfl) rfl ?_
    exact HO.out _ ((H1.out.row 1 _ _ rfl).below)
  · rw [decide_eq_false hh] at HH
    clear hno hh
    dsimp only [diskV] at HH
    go_enter Tryz.func29, Tryz.ntmps29
    go_upto_region 1 with fail
    have H0 := Lib.hid (show BxL w.heap.size w [(#[.slice A L.length c, .int .i64 left, .bool false], 26), (#[.slice none 0 0, .int .i64 0, .bool false], 26)] ((w.alloc (.cells #[.slice A L.length c, .int .i64 left, .bool false] 26)).alloc (.cells #[.slice none 0 0, .int .i64 0, .bool false] 26)) from ((BxL.nil (Below.refl w.heap.size w)).new (by simp) #[.slice A L.length c, .int .i64 left, .bool false] 26).new (by simp) #[.slice none 0 0, .int .i64 0, .bool false] 26)
    have hc0 := blkCell (H0.out.get 0 _ rfl)
    simp only [Nat.add_zero] at hc0
    obtain ⟨W0, hW0⟩ : ∃ W, W = (w.alloc (.cells #[.slice A L.length c, .int .i64 left, .bool false] 26)).alloc (.cells #[.slice none 0 0, .int .i64 0, .bool false] 26) := ⟨_, rfl⟩
    rw [← hW0] at H0 hc0 ⊢
    clear hW0
    have HX0 := Lib.hid (show W0.heap[w.heap.size]? = some (.cells #[.slice A L.length c, .int .i64 left, .bool false] 26 (0, 0)) from (by have h := H0.out.get 0 _ rfl; simpa using h))
    go_upto_region 4 with (first | (with_reducible refine listLoad (by kernel_rfl) 26 (.tmp 3) rfl w.heap.size rfl #[.slice A L.length c, .int .i64 left, .bool false] _ HX0.out _ Tryz.underlying26 (by kernel_rfl) (by kernel_rfl) ?_) | (go_at_call 54; (with_reducible refine (HH.out _).mono ?_); rintro e w1 ⟨rfl, hb1⟩; have H1 := Lib.hid (H0.out.step hb1); clear hb1; have hc1 := blkCell (H1.out.get 0 _ rfl); simp only [Nat.add_zero] at hc1))
    have HX1 := Lib.hid (show w1.heap[w.heap.size]? = some (.cells #[.slice A L.length c, .int .i64 left, .bool false] 26 (0, 0)) from (by have h := H1.out.get 0 _ rfl; simpa using h))
    go_wp2_with (first | (with_reducible refine listLoad (by kernel_rfl) 26 (.tmp 3) rfl w.heap.size rfl #[.slice A L.length c, .int .i64 left, .bool false] _ HX1.out _ Tryz.underlying26 (by kernel_rfl) (by kernel_rfl) ?_) | (with_reducible refine listStore (by kernel_rfl) 26 (.tmp 6) (.tmp 20) rfl (w.heap.size + 1) #[.slice A L.length c, .int .i64 left, .bool false] _ _ rfl rfl (H1.out.get 1 _ rfl) (by kernel_rfl) (by kernel_rfl) (by kernel_rfl) ?_))
    refine bodyPost_ret (v := .tuple #[.agg #[.slice A L.length c, .int .i64 left, .bool false], .int .i64 1]) (results_cell2 rfl _ _ rfl (load_whole (setRow_heap _ _ _ _ _ _ (H1.out.get 1 _ rfl)) Tryz.underlying26 (by kernel_rfl) (by kernel_rfl)) rfl) rfl ?_
    exact HO.out _ ((H1.out.row 1 _ _ rfl).below)
set_option maxRecDepth 100000 in
set_option maxHeartbeats 2000000 in
theorem rwrite_out (L : List ByteArray) (A : Option Addr) (c : Nat) (a : Int) (b : ByteArray) (hh : Lg.hasD ⟨L, 0, false⟩ a) (hs : b.size = 128) (x : Lg.Dk × Int) (hx : x = (⟨L, 0, true⟩, 20)) (w : World) (h : DiskR w ⟨L, 0, false⟩ A c) :
    Calls Tryz.prog 29 #[.agg #[.slice A L.length c, .int .i64 0, .bool false], .int .i64 a, .string b] w (WriteOut x A w) := by
  have HO := Lib.hid (fun w' hb => write_keep (dn := true) hx h (w' := w') hb)
  dsimp only at HO
  have HH := Lib.hid (fun W => ris_any ⟨L, 0, false⟩ A c a W)
  rw [decide_eq_true hh] at HH
  have hs1 : ((b.size : Int) == 128) = true := by simp; omega
  have hs2 : ((b.size : Int) != 128) = false := by simp; omega
  have hs3 : (b.size == 128) = true := by simp; omega
  have hs4 : (b.size != 128) = false := by simp; omega
  clear hx h hs hh
  dsimp only [diskV] at HH
  go_enter Tryz.func29, Tryz.ntmps29
  go_upto_region 1 with fail
  have H0 := Lib.hid (show BxL w.heap.size w [(#[.slice A L.length c, .int .i64 0, .bool false], 26), (#[.slice none 0 0, .int .i64 0, .bool false], 26)] ((w.alloc (.cells #[.slice A L.length c, .int .i64 0, .bool false] 26)).alloc (.cells #[.slice none 0 0, .int .i64 0, .bool false] 26)) from ((BxL.nil (Below.refl w.heap.size w)).new (by simp) #[.slice A L.length c, .int .i64 0, .bool false] 26).new (by simp) #[.slice none 0 0, .int .i64 0, .bool false] 26)
  have hc0 := blkCell (H0.out.get 0 _ rfl)
  simp only [Nat.add_zero] at hc0
  obtain ⟨W0, hW0⟩ : ∃ W, W = (w.alloc (.cells #[.slice A L.length c, .int .i64 0, .bool false] 26)).alloc (.cells #[.slice none 0 0, .int .i64 0, .bool false] 26) := ⟨_, rfl⟩
  rw [← hW0] at H0 hc0 ⊢
  clear hW0
  have HX0 := Lib.hid (show W0.heap[w.heap.size]? = some (.cells #[.slice A L.length c, .int .i64 0, .bool false] 26 (0, 0)) from (by have h := H0.out.get 0 _ rfl; simpa using h))
  go_upto_region 5 with (first | (with_reducible refine listLoad (by kernel_rfl) 26 (.tmp 3) rfl w.heap.size rfl #[.slice A L.length c, .int .i64 0, .bool false] _ HX0.out _ Tryz.underlying26 (by kernel_rfl) (by kernel_rfl) ?_) | (go_at_call 54; (with_reducible refine (HH.out _).mono ?_); rintro e w1 ⟨rfl, hb1⟩; have H1 := Lib.hid (H0.out.step hb1); clear hb1; have hc1 := blkCell (H1.out.get 0 _ rfl); simp only [Nat.add_zero] at hc1))
  clear hs1 hs2 hs3 hs4
  have hz1 := blkFrozen (H1.out.get 0 _ rfl)
  simp only [Nat.add_zero] at hz1
  go_upto_region 7 with fail
  have HX2 := Lib.hid (show (w1.setCell ⟨w.heap.size, 2, none⟩ (.bool true)).heap[w.heap.size]? = some (.cells #[.slice A L.length c, .int .i64 0, .bool true] 26 (0, 0)) from by have h := (H1.out.set 0 2 (.bool true) _ rfl).get 0 _ rfl; simpa using h)
  have H2 := Lib.hid (H1.out.set 0 2 (.bool true) _ rfl)
  go_wp2_with (first | (with_reducible refine listLoad (by kernel_rfl) 26 (.tmp 3) rfl w.heap.size rfl #[.slice A L.length c, .int .i64 0, .bool true] _ HX2.out _ Tryz.underlying26 (by kernel_rfl) (by kernel_rfl) ?_) | (with_reducible refine listStore (by kernel_rfl) 26 (.tmp 6) (.tmp 25) rfl (w.heap.size + 1) #[.slice A L.length c, .int .i64 0, .bool true] _ _ rfl rfl (H2.out.get 1 _ rfl) (by kernel_rfl) (by kernel_rfl) (by kernel_rfl) ?_))
  refine bodyPost_ret (v := .tuple #[.agg #[.slice A L.length c, .int .i64 0, .bool true], .int .i64 20]) (results_cell2 rfl _ _ rfl (load_whole (setRow_heap _ _ _ _ _ _ (H2.out.get 1 _ rfl)) Tryz.underlying26 (by kernel_rfl) (by kernel_rfl)) rfl) rfl ?_
  exact HO.out _ ((H2.out.row 1 _ _ rfl).below)
set_option maxRecDepth 100000 in
set_option maxHeartbeats 2000000 in
theorem rwrite_on (L : List ByteArray) (left : Int) (hl0 : left ≠ 0) (hlb : -9223372036854775808 ≤ left ∧ left ≤ 9223372036854775807) (A : Option Addr) (c : Nat) (k : Nat) (b : ByteArray) (hk : k < L.length) (hs : b.size = 128) (x : Lg.Dk × Int) (hx : x = (⟨L.set k b, if 0 < left then left - 1 else left, false⟩, 0)) (w : World) (h : DiskR w ⟨L, left, false⟩ A c) :
    Calls Tryz.prog 29 #[.agg #[.slice A L.length c, .int .i64 left, .bool false], .int .i64 (k : Int), .string b] w (WriteOut x A w) := by
  have HH := Lib.hid (fun W => ris_any ⟨L, left, false⟩ A c k W)
  rw [decide_eq_true (show Lg.hasD ⟨L, left, false⟩ (k : Int) from ⟨by omega, by show (k : Int) < (L.length : Int); omega⟩)] at HH
  have hs1 : ((b.size : Int) == 128) = true := by simp; omega
  have hs2 : ((b.size : Int) != 128) = false := by simp; omega
  have hl1 : (left == 0) = false := by simpa using hl0
  have hlen : L.length ≤ 1000000 := h.small
  have HC := Lib.hid (fun left W (hb : Below w.heap.size w W) => rwith_any L left false A c k b hk hlen W (h.secs.below hb))
  have HX := Lib.hid hx
  clear hx h hs
  dsimp only [diskV] at HH
  go_enter Tryz.func29, Tryz.ntmps29
  go_upto_region 1 with fail
  have H0 := Lib.hid (show BxL w.heap.size w [(#[.slice A L.length c, .int .i64 left, .bool false], 26), (#[.slice none 0 0, .int .i64 0, .bool false], 26)] ((w.alloc (.cells #[.slice A L.length c, .int .i64 left, .bool false] 26)).alloc (.cells #[.slice none 0 0, .int .i64 0, .bool false] 26)) from ((BxL.nil (Below.refl w.heap.size w)).new (by simp) #[.slice A L.length c, .int .i64 left, .bool false] 26).new (by simp) #[.slice none 0 0, .int .i64 0, .bool false] 26)
  have hc0 := blkCell (H0.out.get 0 _ rfl)
  simp only [Nat.add_zero] at hc0
  obtain ⟨W0, hW0⟩ : ∃ W, W = (w.alloc (.cells #[.slice A L.length c, .int .i64 left, .bool false] 26)).alloc (.cells #[.slice none 0 0, .int .i64 0, .bool false] 26) := ⟨_, rfl⟩
  rw [← hW0] at H0 hc0 ⊢
  clear hW0
  have HX0 := Lib.hid (show W0.heap[w.heap.size]? = some (.cells #[.slice A L.length c, .int .i64 left, .bool false] 26 (0, 0)) from (by have h := H0.out.get 0 _ rfl; simpa using h))
  go_upto_region 8 with (first | (with_reducible refine listLoad (by kernel_rfl) 26 (.tmp 3) rfl w.heap.size rfl #[.slice A L.length c, .int .i64 left, .bool false] _ HX0.out _ Tryz.underlying26 (by kernel_rfl) (by kernel_rfl) ?_) | (go_at_call 54; (with_reducible refine (HH.out _).mono ?_); rintro e w1 ⟨rfl, hb1⟩; have H1 := Lib.hid (H0.out.step hb1); clear hb1; have hc1 := blkCell (H1.out.get 0 _ rfl); simp only [Nat.add_zero] at hc1))
  clear hs1 hs2 hl1 HH hc0 HX0 H0
  by_cases hp : 0 < left
  · rw [if_pos hp] at HX
    have hwl : IntKind.i64.wrap (left - 1) = left - 1 := IntWalk.i64_in _ (by omega)
    have hz1 := blkFrozen (H1.out.get 0 _ rfl)
    simp only [Nat.add_zero] at hz1
    go_upto_region 10 with fail
    have H5 := Lib.hid (H1.out.set 0 1 (.int .i64 (left - 1)) _ rfl)
    have HX5 := Lib.hid (show (w1.setCell ⟨w.heap.size, 1, none⟩ (.int .i64 (left - 1))).heap[w.heap.size]? = some (.cells #[.slice A L.length c, .int .i64 (left - 1), .bool false] 26 (0, 0)) from by have h := H5.out.get 0 _ rfl; simpa using h)
    simp only [Nat.add_zero] at H5
    obtain ⟨W5, hW5⟩ : ∃ W, W = w1.setCell ⟨w.heap.size, 1, none⟩ (.int .i64 (left - 1)) := ⟨_, rfl⟩
    rw [← hW5] at H5 HX5 ⊢
    clear hW5 hz1 hc1 H1
    go_wp2_with (first
      | (with_reducible refine listLoad (by kernel_rfl) 26 (.tmp 3) rfl w.heap.size rfl #[.slice A L.length c, .int .i64 (left - 1), .bool false] _ HX5.out _ Tryz.underlying26 (by kernel_rfl) (by kernel_rfl) ?_)
      | (go_at_call 55; (with_reducible refine (HC.out _ _ H5.out.below).mono ?_); rintro e w6 ⟨A2, c2, rfl, hr6, ht6, hb6⟩; have H6 := Lib.hid (H5.out.step hb6))
      | (with_reducible refine listStore (by kernel_rfl) 26 (.tmp 6) (.tmp 36) rfl (w.heap.size + 1) #[.slice A2 L.length c2, .int .i64 (left - 1), .bool false] _ _ rfl rfl (H6.out.get 1 _ rfl) (by kernel_rfl) (by kernel_rfl) (by kernel_rfl) ?_))
    refine bodyPost_ret (v := .tuple #[.agg #[.slice A2 L.length c2, .int .i64 (left - 1), .bool false], .int .i64 0]) (results_cell2 rfl _ _ rfl (load_whole (setRow_heap _ _ _ _ _ _ (H6.out.get 1 _ rfl)) Tryz.underlying26 (by kernel_rfl) (by kernel_rfl)) rfl) rfl ?_
    exact write_new HX.out (by rw [List.length_set]) (ht6.readsRow hr6 (H6.out.get 1 _ rfl) (by decide) _) rfl rfl (by rw [List.length_set]; exact hlen) ((ht6.row _ _).mono H5.out.below.size) ((H6.out.row 1 _ _ rfl).below)
  · rw [if_neg hp] at HX
    have HX1 := Lib.hid (show w1.heap[w.heap.size]? = some (.cells #[.slice A L.length c, .int .i64 left, .bool false] 26 (0, 0)) from (by have h := H1.out.get 0 _ rfl; simpa using h))
    go_wp2_with (first
      | (with_reducible refine listLoad (by kernel_rfl) 26 (.tmp 3) rfl w.heap.size rfl #[.slice A L.length c, .int .i64 left, .bool false] _ HX1.out _ Tryz.underlying26 (by kernel_rfl) (by kernel_rfl) ?_)
      | (go_at_call 55; (with_reducible refine (HC.out _ _ H1.out.below).mono ?_); rintro e w6 ⟨A2, c2, rfl, hr6, ht6, hb6⟩; have H6 := Lib.hid (H1.out.step hb6))
      | (with_reducible refine listStore (by kernel_rfl) 26 (.tmp 6) (.tmp 36) rfl (w.heap.size + 1) #[.slice A2 L.length c2, .int .i64 left, .bool false] _ _ rfl rfl (H6.out.get 1 _ rfl) (by kernel_rfl) (by kernel_rfl) (by kernel_rfl) ?_))
    refine bodyPost_ret (v := .tuple #[.agg #[.slice A2 L.length c2, .int .i64 left, .bool false], .int .i64 0]) (results_cell2 rfl _ _ rfl (load_whole (setRow_heap _ _ _ _ _ _ (H6.out.get 1 _ rfl)) Tryz.underlying26 (by kernel_rfl) (by kernel_rfl)) rfl) rfl ?_
    exact write_new HX.out (by rw [List.length_set]) (ht6.readsRow hr6 (H6.out.get 1 _ rfl) (by decide) _) rfl rfl (by rw [List.length_set]; exact hlen) ((ht6.row _ _).mono H1.out.below.size) ((H6.out.row 1 _ _ rfl).below)
theorem rwrite_any (d : Lg.Dk) (hlb : -9223372036854775808 ≤ d.left ∧ d.left ≤ 9223372036854775807) (A : Option Addr) (c : Nat) (a : Int) (b : ByteArray) (w : World) (h : DiskR w d A c) :
    Calls Tryz.prog 29 #[diskV d A c, .int .i64 a, .string b] w (WriteOut (Lg.writeD d a b) A w) := by
  obtain ⟨L, left, down⟩ := d
  cases down with
  | true => exact rwrite_down L left A c a b _ (by unfold Lg.writeD; rw [if_pos rfl]) w h
  | false =>
    by_cases h1 : Lg.hasD ⟨L, left, false⟩ a ∧ b.size = 128
    · by_cases h2 : left = 0
      · subst h2
        exact rwrite_out L A c a b h1.1 h1.2 _ (by unfold Lg.writeD; rw [if_neg (by simp), if_neg (fun hn => hn h1), if_pos rfl]) w h
      · obtain ⟨k, rfl⟩ := Int.eq_ofNat_of_zero_le h1.1.1
        have hk : k < L.length := by have h3 := h1.1.2; simp only at h3; omega
        exact rwrite_on L left h2 hlb A c k b hk h1.2 _ (by unfold Lg.writeD; rw [if_neg (by simp), if_neg (fun hn => hn h1), if_neg h2]; simp) w h
    · exact rwrite_arg L left A c a b h1 _ (by unfold Lg.writeD; rw [if_neg (by simp), if_pos h1]) w h
set_option maxRecDepth 100000 in
theorem filled_any (s : ByteArray) (hs : s.size ≤ 128) (w : World) :
    Calls Tryz.prog 30 #[.string s] w fun e w' => e = .returned (.string (Lg.pad128 s.data.toList)) ∧ Below w.heap.size w w' := by
  obtain ⟨k, hk⟩ : ∃ k, k = 128 - s.size := ⟨_, rfl⟩
  have hw : IntKind.i64.wrap ((128 : Int) - (s.size : Int)) = (k : Int) := by
    have e : (128 : Int) - (s.size : Int) = (k : Int) := by omega
    rw [e]; exact IntWalk.i64_in _ (by omega)
  have hmk := fun W => make_zeros k (by omega) W
  have hcv := zeros_back k
  have hpad : Lg.pad128 s.data.toList = s ++ ⟨(List.replicate k 0).toArray⟩ := by
    unfold Lg.pad128
    apply ByteArray.ext
    rw [ByteArray.data_append]
    apply Array.toList_inj.1
    have hl : s.data.toList.length = s.size := by simp
    simp [hk]
  have hrs : (⟨(List.replicate k 0).toArray⟩ : ByteArray).size = k := by show (List.replicate k (0 : UInt8)).toArray.size = _; simp
  rw [hpad]
  generalize (⟨(List.replicate k 0).toArray⟩ : ByteArray) = R at hcv hrs ⊢
  have hadd : ∀ W : World, (Op.stringOp .add s R).run Tryz.prog W = .ok (.string (s ++ R)) W := fun W => run_string_add_sum W _ _ (by omega)
  clear hpad hk
  go_enter Tryz.func30, Tryz.ntmps30
  go_wp2_with fail
  go_ret
  exact ⟨rfl, allocB _ _⟩
set_option maxRecDepth 100000 in
theorem piece_any (t : ByteArray) (ht : t.size ≤ 1000000) (k : Nat) (hk : k * 128 ≤ t.size) (w : World) :
    Calls Tryz.prog 31 #[.string t, .int .i64 (k : Int)] w fun e w' => e = .returned (.string (Lg.pad128 ((t.data.toList.drop (k * 128)).take 128))) ∧ Below w.heap.size w w' := by
  obtain ⟨a, ha⟩ : ∃ a, a = k * 128 := ⟨_, rfl⟩
  rw [← ha] at hk ⊢
  have hw1 : IntKind.i64.wrap ((k : Int) * 128) = (a : Int) := by
    have e : (k : Int) * 128 = (a : Int) := by omega
    rw [e]; exact IntWalk.i64_in _ (by omega)
  have hw2 : IntKind.i64.wrap ((a : Int) + 128) = (a : Int) + 128 := IntWalk.i64_in _ (by omega)
  obtain ⟨m, hm⟩ : ∃ m, m = min (a + 128) t.size := ⟨_, rfl⟩
  have hmm : min ((a : Int) + 128) (t.size : Int) = (m : Int) := by omega
  have hm1 : a ≤ m := by omega
  have hm2 : m ≤ t.size := by omega
  have hm3 : (a : Int) ≤ (m : Int) := by omega
  have hm4 : (m : Int) ≤ (t.size : Int) := by omega
  have hx : (t.extract a m).data.toList = (t.data.toList.drop a).take 128 := by
    simp only [ByteArray.data_extract, Array.toList_extract, List.extract_eq_take_drop]
    have hl : t.data.toList.length = t.size := by simp
    by_cases h : a + 128 ≤ t.size
    · rw [show m - a = 128 by omega]
    · rw [List.take_of_length_le (by rw [List.length_drop]; omega), List.take_of_length_le (by rw [List.length_drop]; omega)]
  have HF := Lib.hid (fun W => filled_any (t.extract a m) (by rw [ByteArray.size_extract]; omega) W)
  rw [hx] at HF
  clear hx hm ha
  go_enter Tryz.func31, Tryz.ntmps31
  go_wp2_with (go_at_call 30; (with_reducible refine (HF.out _).mono ?_); rintro e w1 ⟨rfl, hb1⟩)
  go_ret
  exact ⟨rfl, hb1⟩
end Go.Proofs.YtojaagnfjenhoaaGreat
