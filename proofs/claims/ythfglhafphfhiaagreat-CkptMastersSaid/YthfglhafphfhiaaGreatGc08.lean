/- The walks over the references of disk and log: with, Write, filled, piece. -/
import Derived.Test.YthfglhafphfhiaaGreatGc07
import Derived.Test.YthfglhafphfhiaaGreatGc02
import Derived.Test.YthfglhafphfhiaaGreatGc06
import Derived.BigRegion
import Derived.Test.YthfglhafphfhiaaGreatGc03
import Derived.Lib.SliceRun
import Derived.Deep.RegionLaw
namespace Go.Proofs.YthfglhafphfhiaaGreat
open Go.RowKit
set_option maxRecDepth 100000 in
set_option maxHeartbeats 2000000 in
theorem rwith_any (L : List ByteArray) (left : Int) (down : Bool) (A : Option Addr) (c : Nat) (k : Nat) (b : ByteArray) (hk : k < L.length) (hlen : L.length ≤ 1000000) (w : World) (h : Reads w A c L.length (L.flatMap strC)) :
    Calls Tryz.prog 76 #[.agg #[.slice A L.length c, .int .i64 left, .bool down], .int .i64 (k : Int), .string b] w fun e w' => ∃ A2 c2, e = .returned (.agg #[.slice A2 L.length c2, .int .i64 left, .bool down]) ∧ Reads w' A2 c2 L.length ((L.map Value.string).set k (.string b)) ∧ NewT w.heap.size w' 9 A2 ∧ Below w.heap.size w w' := by
  obtain ⟨i0, hi, hz0, hz1, hz2⟩ := info_parts info_string
  have hkI : (k : Int) < (L.length : Int) := by omega
  have HR := Lib.hid h
  clear h
  go_enter Tryz.func76, Tryz.ntmps76
  go_upto_region 1 with fail
  have H0 := Lib.hid (show BxL w.heap.size w [(#[.slice A L.length c, .int .i64 left, .bool down], 29), (#[.slice none 0 0, .int .i64 0, .bool false], 29)] ((w.alloc (.cells #[.slice A L.length c, .int .i64 left, .bool down] 29)).alloc (.cells #[.slice none 0 0, .int .i64 0, .bool false] 29)) from ((BxL.nil (Below.refl w.heap.size w)).new (by simp) #[.slice A L.length c, .int .i64 left, .bool down] 29).new (by simp) #[.slice none 0 0, .int .i64 0, .bool false] 29)
  have hc0 := blkCell (H0.out.get 0 _ rfl)
  simp only [Nat.add_zero] at hc0
  obtain ⟨W0, hW0⟩ : ∃ W, W = (w.alloc (.cells #[.slice A L.length c, .int .i64 left, .bool down] 29)).alloc (.cells #[.slice none 0 0, .int .i64 0, .bool false] 29) := ⟨_, rfl⟩
  have HSZ := Lib.hid (show W0.heap.size = w.heap.size + 2 from by rw [hW0]; simp)
  rw [← hW0] at H0 hc0 ⊢
  clear hW0
  have H1 := Lib.hid (H0.out.step (allocB W0 (.cells #[] 9)))
  have HRD := Lib.hid (HR.out.below H1.out.below)
  have hc1 := blkCell (H1.out.get 0 _ rfl)
  simp only [Nat.add_zero] at hc1
  go_upto_region 2 with (at_builtin; refine listWants (by kernel_rfl) fun K hK => wp_appR (W0.alloc (.cells #[] 9)) (.tmp 8) (.tmp 10) 27 9 i0 (.string ⟨#[]⟩) 1 16 Tryz.underlying27 hi hz0 hz1 hz2 rfl (by omega) rfl W0.heap.size _ 0 [] rfl (ownEmpty W0 9 1) A L.length c (L.flatMap strC) rfl HRD.out (by rw [flat_len strC_len]) (fun u hu => by rw [strC_map] at hu; obtain ⟨x, _, rfl⟩ := List.mem_map.1 hu; rfl) (by omega) (by omega) (by simp) ?_; intro v2 w2 ho hg hb; refine hK _ _ ?_)
  rw [List.nil_append, Nat.zero_add, strC_map] at ho
  have hs0 := HSZ.out
  have H2 := Lib.hid (H1.out.under (M := W0.heap.size) (by rw [hs0]; exact Nat.le_refl _) hb)
  obtain ⟨A2, c2, rfl⟩ := ownLen ho
  obtain ⟨g, cap, hv, hgB, hgl, hcap, hcl, hfz, hset⟩ := ownAt ho hk
  injection hv with hv1 hv2 hv3
  subst hv1 hv3
  rw [List.getElem?_eq_getElem (by simpa using hk)] at hcl
  simp only [List.getElem_map] at hcl
  have HSET := Lib.hid hset
  clear ho hset hg hb H1 HRD H0 hc0
  go_upto_region 3 with fail
  have hgw : w.heap.size + 2 ≤ g := by omega
  have H4 := Lib.hid (H2.out.under (M := g) (by show w.heap.size + 2 ≤ g; exact hgw) ((Below.refl g w2).setCell (p := ⟨g, k, none⟩) (Nat.le_refl g) (.string b)))
  have HO4 := Lib.hid (HSET.out (.string b))
  obtain ⟨W4, hW4⟩ : ∃ W, W = w2.setCell ⟨g, k, none⟩ (.string b) := ⟨_, rfl⟩
  rw [← hW4] at H4 HO4 ⊢
  have hc4 := blkCell (H4.out.get 0 _ rfl)
  have hz4 := blkFrozen (H4.out.get 0 _ rfl)
  simp only [Nat.add_zero] at hc4 hz4
  clear hW4 hcl hfz HSET H2
  go_upto_region 4 with fail
  have H5 := Lib.hid (H4.out.set 0 0 (.slice (some ⟨g, 0, none⟩) L.length c2) _ rfl)
  simp only [Nat.add_zero] at H5
  have HX5 := Lib.hid (show (W4.setCell ⟨w.heap.size, 0, none⟩ (.slice (some ⟨g, 0, none⟩) L.length c2)).heap[w.heap.size]? = some (.cells #[.slice (some ⟨g, 0, none⟩) L.length c2, .int .i64 left, .bool down] 29 (0, 0)) from by have h := H5.out.get 0 _ rfl; simpa using h)
  have HO5 := Lib.hid (ownSet HO4.out ⟨w.heap.size, 0, none⟩ (.slice (some ⟨g, 0, none⟩) L.length c2) (by show w.heap.size < _; omega))
  obtain ⟨W5, hW5⟩ : ∃ W, W = W4.setCell ⟨w.heap.size, 0, none⟩ (.slice (some ⟨g, 0, none⟩) L.length c2) := ⟨_, rfl⟩
  rw [← hW5] at H5 HX5 HO5 ⊢
  clear hW5 hc4 hz4 HO4 H4
  go_wp2_with (first
      | (with_reducible refine listLoad (by kernel_rfl) 29 (.tmp 3) rfl w.heap.size rfl #[.slice (some ⟨g, 0, none⟩) L.length c2, .int .i64 left, .bool down] _ HX5.out _ Tryz.underlying29 (by kernel_rfl) (by kernel_rfl) ?_) | (with_reducible refine listStore (by kernel_rfl) 29 (.tmp 6) (.tmp 18) rfl (w.heap.size + 1) #[.slice (some ⟨g, 0, none⟩) L.length c2, .int .i64 left, .bool down] _ _ rfl rfl (H5.out.get 1 _ rfl) (by kernel_rfl) (by kernel_rfl) (by kernel_rfl) ?_))
  refine bodyPost_ret (v := .agg #[.slice (some ⟨g, 0, none⟩) L.length c2, .int .i64 left, .bool down]) (results_cell rfl _ _ rfl (load_whole (setRow_heap _ _ _ _ _ _ (H5.out.get 1 _ rfl)) Tryz.underlying29 (by kernel_rfl) (by kernel_rfl))) rfl ?_
  exact ⟨_, _, rfl, (own_reads HO5.out).offRow _ _ (fun _ ad e => (by injection e with e; rw [← e]; show g ≠ w.heap.size + 1; omega)), ((NewT.own HO5.out).row _ _).mono (by omega), (H5.out.row 1 _ _ rfl).below⟩
set_option maxRecDepth 100000 in
set_option maxHeartbeats 2000000 in
theorem rwrite_down (L : List ByteArray) (left : Int) (A : Option Addr) (c : Nat) (a : Int) (b : ByteArray) (x : Lg.Dk × Int) (hx : x = (⟨L, left, true⟩, 20)) (w : World) (h : DiskR w ⟨L, left, true⟩ A c) :
    Calls Tryz.prog 43 #[.agg #[.slice A L.length c, .int .i64 left, .bool true], .int .i64 a, .string b] w (WriteOut x A w) := by
  have HO := Lib.hid (fun w' hb => write_keep (dn := true) hx h (w' := w') hb)
  dsimp only at HO
  clear hx h
  go_enter Tryz.func43, Tryz.ntmps43
  go_upto_region 1 with fail
  have H0 := Lib.hid (show BxL w.heap.size w [(#[.slice A L.length c, .int .i64 left, .bool true], 29), (#[.slice none 0 0, .int .i64 0, .bool false], 29)] ((w.alloc (.cells #[.slice A L.length c, .int .i64 left, .bool true] 29)).alloc (.cells #[.slice none 0 0, .int .i64 0, .bool false] 29)) from ((BxL.nil (Below.refl w.heap.size w)).new (by simp) #[.slice A L.length c, .int .i64 left, .bool true] 29).new (by simp) #[.slice none 0 0, .int .i64 0, .bool false] 29)
  have hc0 := blkCell (H0.out.get 0 _ rfl)
  simp only [Nat.add_zero] at hc0
  obtain ⟨W0, hW0⟩ : ∃ W, W = (w.alloc (.cells #[.slice A L.length c, .int .i64 left, .bool true] 29)).alloc (.cells #[.slice none 0 0, .int .i64 0, .bool false] 29) := ⟨_, rfl⟩
  rw [← hW0] at H0 hc0 ⊢
  clear hW0
  have HX0 := Lib.hid (show W0.heap[w.heap.size]? = some (.cells #[.slice A L.length c, .int .i64 left, .bool true] 29 (0, 0)) from (by have h := H0.out.get 0 _ rfl; simpa using h))
  go_wp2_with (first | (with_reducible refine listLoad (by kernel_rfl) 29 (.tmp 3) rfl w.heap.size rfl #[.slice A L.length c, .int .i64 left, .bool true] _ HX0.out _ Tryz.underlying29 (by kernel_rfl) (by kernel_rfl) ?_) | (with_reducible refine listStore (by kernel_rfl) 29 (.tmp 6) (.tmp 10) rfl (w.heap.size + 1) #[.slice A L.length c, .int .i64 left, .bool true] _ _ rfl rfl (H0.out.get 1 _ rfl) (by kernel_rfl) (by kernel_rfl) (by kernel_rfl) ?_))
  refine bodyPost_ret (v := .tuple #[.agg #[.slice A L.length c, .int .i64 left, .bool true], .int .i64 20]) (results_cell2 rfl _ _ rfl (load_whole (setRow_heap _ _ _ _ _ _ (H0.out.get 1 _ rfl)) Tryz.underlying29 (by kernel_rfl) (by kernel_rfl)) rfl) rfl ?_
  exact HO.out _ ((H0.out.row 1 _ _ rfl).below)
set_option maxRecDepth 100000 in
set_option maxHeartbeats 2000000 in
theorem rwrite_arg (L : List ByteArray) (left : Int) (A : Option Addr) (c : Nat) (a : Int) (b : ByteArray) (hno : ¬ (Lg.hasD ⟨L, left, false⟩ a ∧ b.size = 128)) (x : Lg.Dk × Int) (hx : x = (⟨L, left, false⟩, 1)) (w : World) (h : DiskR w ⟨L, left, false⟩ A c) :
    Calls Tryz.prog 43 #[.agg #[.slice A L.length c, .int .i64 left, .bool false], .int .i64 a, .string b] w (WriteOut x A w) := by
  have HO := Lib.hid (fun w' hb => write_keep (dn := false) hx h (w' := w') hb)
  dsimp only at HO
  have HH := Lib.hid (fun W => ris_any ⟨L, left, false⟩ A c a W)
  clear hx h
  by_cases hh : Lg.hasD ⟨L, left, false⟩ a
  · rw [decide_eq_true hh] at HH
    have hs : ¬ b.size = 128 := fun e => hno ⟨hh, e⟩
    have hs2 : ((b.size : Int) == 128) = false := by simp; omega
    have hs3 : ((b.size : Int) != 128) = true := by simp; omega
    have hs4 : (b.size == 128) = false := by simp; omega
    have hs5 : (b.size != 128) = true := by simp; omega
    clear hno hh
    dsimp only [diskV] at HH
    go_enter Tryz.func43, Tryz.ntmps43
    go_upto_region 1 with fail
    have H0 := Lib.hid (show BxL w.heap.size w [(#[.slice A L.length c, .int .i64 left, .bool false], 29), (#[.slice none 0 0, .int .i64 0, .bool false], 29)] ((w.alloc (.cells #[.slice A L.length c, .int .i64 left, .bool false] 29)).alloc (.cells #[.slice none 0 0, .int .i64 0, .bool false] 29)) from ((BxL.nil (Below.refl w.heap.size w)).new (by simp) #[.slice A L.length c, .int .i64 left, .bool false] 29).new (by simp) #[.slice none 0 0, .int .i64 0, .bool false] 29)
    have hc0 := blkCell (H0.out.get 0 _ rfl)
    simp only [Nat.add_zero] at hc0
    obtain ⟨W0, hW0⟩ : ∃ W, W = (w.alloc (.cells #[.slice A L.length c, .int .i64 left, .bool false] 29)).alloc (.cells #[.slice none 0 0, .int .i64 0, .bool false] 29) := ⟨_, rfl⟩
    rw [← hW0] at H0 hc0 ⊢
    clear hW0
    have HX0 := Lib.hid (show W0.heap[w.heap.size]? = some (.cells #[.slice A L.length c, .int .i64 left, .bool false] 29 (0, 0)) from (by have h := H0.out.get 0 _ rfl; simpa using h))
    go_upto_region 4 with (first | (with_reducible refine listLoad (by kernel_rfl) 29 (.tmp 3) rfl w.heap.size rfl #[.slice A L.length c, .int .i64 left, .bool false] _ HX0.out _ Tryz.underlying29 (by kernel_rfl) (by kernel_rfl) ?_) | (go_at_call 75; (with_reducible refine (HH.out _).mono ?_); rintro e w1 ⟨rfl, hb1⟩; have H1 := Lib.hid (H0.out.step hb1); clear hb1; have hc1 := blkCell (H1.out.get 0 _ rfl); simp only [Nat.add_zero] at hc1))
    have HX1 := Lib.hid (show w1.heap[w.heap.size]? = some (.cells #[.slice A L.length c, .int .i64 left, .bool false] 29 (0, 0)) from (by have h := H1.out.get 0 _ rfl; simpa using h))
    clear hs hs2 hs3 hs4 hs5
    go_wp2_with (first | (with_reducible refine listLoad (by kernel_rfl) 29 (.tmp 3) rfl w.heap.size rfl #[.slice A L.length c, .int .i64 left, .bool false] _ HX1.out _ Tryz.underlying29 (by kernel_rfl) (by kernel_rfl) ?_) | (with_reducible refine listStore (by kernel_rfl) 29 (.tmp 6) (.tmp 20) rfl (w.heap.size + 1) #[.slice A L.length c, .int .i64 left, .bool false] _ _ rfl rfl (H1.out.get 1 _ rfl) (by kernel_rfl) (by kernel_rfl) (by kernel_rfl) ?_))
    refine bodyPost_ret (v := .tuple #[.agg #[.slice A L.length c, .int .i64 left, .bool false], .int .i64 1]) (results_cell2 rfl _ _ rfl (load_whole (setRow_heap _ _ _ _ _ _ (H1.out.get 1 _ rfl)) Tryz.underlying29 (by kernel_rfl) (by kernel_rfl)) rfl) rfl ?_
    exact HO.out _ ((H1.out.row 1 _ _ rfl).below)
  · rw [decide_eq_false hh] at HH
    clear hno hh
    dsimp only [diskV] at HH
    go_enter Tryz.func43, Tryz.ntmps43
    go_upto_region 1 with fail
    have H0 := Lib.hid (show BxL w.heap.size w [(#[.slice A L.length c, .int .i64 left, .bool false], 29), (#[.slice none 0 0, .int .i64 0, .bool false], 29)] ((w.alloc (.cells #[.slice A L.length c, .int .i64 left, .bool false] 29)).alloc (.cells #[.slice none 0 0, .int .i64 0, .bool false] 29)) from ((BxL.nil (Below.refl w.heap.size w)).new (by simp) #[.slice A L.length c, .int .i64 left, .bool false] 29).new (by simp) #[.slice none 0 0, .int .i64 0, .bool false] 29)
    have hc0 := blkCell (H0.out.get 0 _ rfl)
    simp only [Nat.add_zero] at hc0
    obtain ⟨W0, hW0⟩ : ∃ W, W = (w.alloc (.cells #[.slice A L.length c, .int .i64 left, .bool false] 29)).alloc (.cells #[.slice none 0 0, .int .i64 0, .bool false] 29) := ⟨_, rfl⟩
    rw [← hW0] at H0 hc0 ⊢
    clear hW0
    have HX0 := Lib.hid (show W0.heap[w.heap.size]? = some (.cells #[.slice A L.length c, .int .i64 left, .bool false] 29 (0, 0)) from (by have h := H0.out.get 0 _ rfl; simpa using h))
    go_upto_region 4 with (first | (with_reducible refine listLoad (by kernel_rfl) 29 (.tmp 3) rfl w.heap.size rfl #[.slice A L.length c, .int .i64 left, .bool false] _ HX0.out _ Tryz.underlying29 (by kernel_rfl) (by kernel_rfl) ?_) | (go_at_call 75; (with_reducible refine (HH.out _).mono ?_); rintro e w1 ⟨rfl, hb1⟩; have H1 := Lib.hid (H0.out.step hb1); clear hb1; have hc1 := blkCell (H1.out.get 0 _ rfl); simp only [Nat.add_zero] at hc1))
    have HX1 := Lib.hid (show w1.heap[w.heap.size]? = some (.cells #[.slice A L.length c, .int .i64 left, .bool false] 29 (0, 0)) from (by have h := H1.out.get 0 _ rfl; simpa using h))
    go_wp2_with (first | (with_reducible refine listLoad (by kernel_rfl) 29 (.tmp 3) rfl w.heap.size rfl #[.slice A L.length c, .int .i64 left, .bool false] _ HX1.out _ Tryz.underlying29 (by kernel_rfl) (by kernel_rfl) ?_) | (with_reducible refine listStore (by kernel_rfl) 29 (.tmp 6) (.tmp 20) rfl (w.heap.size + 1) #[.slice A L.length c, .int .i64 left, .bool false] _ _ rfl rfl (H1.out.get 1 _ rfl) (by kernel_rfl) (by kernel_rfl) (by kernel_rfl) ?_))
    refine bodyPost_ret (v := .tuple #[.agg #[.slice A L.length c, .int .i64 left, .bool false], .int .i64 1]) (results_cell2 rfl _ _ rfl (load_whole (setRow_heap _ _ _ _ _ _ (H1.out.get 1 _ rfl)) Tryz.underlying29 (by kernel_rfl) (by kernel_rfl)) rfl) rfl ?_
    exact HO.out _ ((H1.out.row 1 _ _ rfl).below)
set_option maxRecDepth 100000 in
set_option maxHeartbeats 2000000 in
theorem rwrite_out (L : List ByteArray) (A : Option Addr) (c : Nat) (a : Int) (b : ByteArray) (hh : Lg.hasD ⟨L, 0, false⟩ a) (hs : b.size = 128) (x : Lg.Dk × Int) (hx : x = (⟨L, 0, true⟩, 20)) (w : World) (h : DiskR w ⟨L, 0, false⟩ A c) :
    Calls Tryz.prog 43 #[.agg #[.slice A L.length c, .int .i64 0, .bool false], .int .i64 a, .string b] w (WriteOut x A w) := by
  have HO := Lib.hid (fun w' hb => write_keep (dn := true) hx h (w' := w') hb)
  dsimp only at HO
  have HH := Lib.hid (fun W => ris_any ⟨L, 0, false⟩ A c a W)
  rw [decide_eq_true hh] at HH
  have hs1 : ((b.size : Int) == 128) = true := by simp; omega
  have hs2 : ((b.size : Int) != 128) = false := by simp; omega
  have hs3 : (b.size == 128) = true := by simp; omega
  have hs4 : (b.size != 128) = false := by simp; omega
  clear hx h hs hh
  dsimp only [diskV] at HH
  go_enter Tryz.func43, Tryz.ntmps43
  go_upto_region 1 with fail
  have H0 := Lib.hid (show BxL w.heap.size w [(#[.slice A L.length c, .int .i64 0, .bool false], 29), (#[.slice none 0 0, .int .i64 0, .bool false], 29)] ((w.alloc (.cells #[.slice A L.length c, .int .i64 0, .bool false] 29)).alloc (.cells #[.slice none 0 0, .int .i64 0, .bool false] 29)) from ((BxL.nil (Below.refl w.heap.size w)).new (by simp) #[.slice A L.length c, .int .i64 0, .bool false] 29).new (by simp) #[.slice none 0 0, .int .i64 0, .bool false] 29)
  have hc0 := blkCell (H0.out.get 0 _ rfl)
  simp only [Nat.add_zero] at hc0
  obtain ⟨W0, hW0⟩ : ∃ W, W = (w.alloc (.cells #[.slice A L.length c, .int .i64 0, .bool false] 29)).alloc (.cells #[.slice none 0 0, .int .i64 0, .bool false] 29) := ⟨_, rfl⟩
  rw [← hW0] at H0 hc0 ⊢
  clear hW0
  have HX0 := Lib.hid (show W0.heap[w.heap.size]? = some (.cells #[.slice A L.length c, .int .i64 0, .bool false] 29 (0, 0)) from (by have h := H0.out.get 0 _ rfl; simpa using h))
  go_upto_region 5 with (first | (with_reducible refine listLoad (by kernel_rfl) 29 (.tmp 3) rfl w.heap.size rfl #[.slice A L.length c, .int .i64 0, .bool false] _ HX0.out _ Tryz.underlying29 (by kernel_rfl) (by kernel_rfl) ?_) | (go_at_call 75; (with_reducible refine (HH.out _).mono ?_); rintro e w1 ⟨rfl, hb1⟩; have H1 := Lib.hid (H0.out.step hb1); clear hb1; have hc1 := blkCell (H1.out.get 0 _ rfl); simp only [Nat.add_zero] at hc1))
  clear hs1 hs2 hs3 hs4
  have hz1 := blkFrozen (H1.out.get 0 _ rfl)
  simp only [Nat.add_zero] at hz1
  go_upto_region 7 with fail
  have HX2 := Lib.hid (show (w1.setCell ⟨w.heap.size, 2, none⟩ (.bool true)).heap[w.heap.size]? = some (.cells #[.slice A L.length c, .int .i64 0, .bool true] 29 (0, 0)) from by have h := (H1.out.set 0 2 (.bool true) _ rfl).get 0 _ rfl; simpa using h)
  have H2 := Lib.hid (H1.out.set 0 2 (.bool true) _ rfl)
  go_wp2_with (first | (with_reducible refine listLoad (by kernel_rfl) 29 (.tmp 3) rfl w.heap.size rfl #[.slice A L.length c, .int .i64 0, .bool true] _ HX2.out _ Tryz.underlying29 (by kernel_rfl) (by kernel_rfl) ?_) | (with_reducible refine listStore (by kernel_rfl) 29 (.tmp 6) (.tmp 25) rfl (w.heap.size + 1) #[.slice A L.length c, .int .i64 0, .bool true] _ _ rfl rfl (H2.out.get 1 _ rfl) (by kernel_rfl) (by kernel_rfl) (by kernel_rfl) ?_))
  refine bodyPost_ret (v := .tuple #[.agg #[.slice A L.length c, .int .i64 0, .bool true], .int .i64 20]) (results_cell2 rfl _ _ rfl (load_whole (setRow_heap _ _ _ _ _ _ (H2.out.get 1 _ rfl)) Tryz.underlying29 (by kernel_rfl) (by kernel_rfl)) rfl) rfl ?_
  exact HO.out _ ((H2.out.row 1 _ _ rfl).below)
set_option maxRecDepth 100000 in
set_option maxHeartbeats 2000000 in
theorem rwrite_on (L : List ByteArray) (left : Int) (hl0 : left ≠ 0) (hlb : -9223372036854775808 ≤ left ∧ left ≤ 9223372036854775807) (A : Option Addr) (c : Nat) (k : Nat) (b : ByteArray) (hk : k < L.length) (hs : b.size = 128) (x : Lg.Dk × Int) (hx : x = (⟨L.set k b, if 0 < left then left - 1 else left, false⟩, 0)) (w : World) (h : DiskR w ⟨L, left, false⟩ A c) :
    Calls Tryz.prog 43 #[.agg #[.slice A L.length c, .int .i64 left, .bool false], .int .i64 (k : Int), .string b] w (WriteOut x A w) := by
  have HH := Lib.hid (fun W => ris_any ⟨L, left, false⟩ A c k W)
  rw [decide_eq_true (show Lg.hasD ⟨L, left, false⟩ (k : Int) from ⟨by omega, by show (k : Int) < (L.length : Int); omega⟩)] at HH
  have hs1 : ((b.size : Int) == 128) = true := by simp; omega
  have hs2 : ((b.size : Int) != 128) = false := by simp; omega
  have hl1 : (left == 0) = false := by simpa using hl0
  have hlen : L.length ≤ 1000000 := h.small
  have HC := Lib.hid (fun left W (hb : Below w.heap.size w W) => rwith_any L left false A c k b hk hlen W (h.secs.below hb))
  have HX := Lib.hid hx
  clear hx h hs
  dsimp only [diskV] at HH
  go_enter Tryz.func43, Tryz.ntmps43
  go_upto_region 1 with fail
  have H0 := Lib.hid (show BxL w.heap.size w [(#[.slice A L.length c, .int .i64 left, .bool false], 29), (#[.slice none 0 0, .int .i64 0, .bool false], 29)] ((w.alloc (.cells #[.slice A L.length c, .int .i64 left, .bool false] 29)).alloc (.cells #[.slice none 0 0, .int .i64 0, .bool false] 29)) from ((BxL.nil (Below.refl w.heap.size w)).new (by simp) #[.slice A L.length c, .int .i64 left, .bool false] 29).new (by simp) #[.slice none 0 0, .int .i64 0, .bool false] 29)
  have hc0 := blkCell (H0.out.get 0 _ rfl)
  simp only [Nat.add_zero] at hc0
  obtain ⟨W0, hW0⟩ : ∃ W, W = (w.alloc (.cells #[.slice A L.length c, .int .i64 left, .bool false] 29)).alloc (.cells #[.slice none 0 0, .int .i64 0, .bool false] 29) := ⟨_, rfl⟩
  rw [← hW0] at H0 hc0 ⊢
  clear hW0
  have HX0 := Lib.hid (show W0.heap[w.heap.size]? = some (.cells #[.slice A L.length c, .int .i64 left, .bool false] 29 (0, 0)) from (by have h := H0.out.get 0 _ rfl; simpa using h))
  go_upto_region 8 with (first | (with_reducible refine listLoad (by kernel_rfl) 29 (.tmp 3) rfl w.heap.size rfl #[.slice A L.length c, .int .i64 left, .bool false] _ HX0.out _ Tryz.underlying29 (by kernel_rfl) (by kernel_rfl) ?_) | (go_at_call 75; (with_reducible refine (HH.out _).mono ?_); rintro e w1 ⟨rfl, hb1⟩; have H1 := Lib.hid (H0.out.step hb1); clear hb1; have hc1 := blkCell (H1.out.get 0 _ rfl); simp only [Nat.add_zero] at hc1))
  clear hs1 hs2 hl1 HH hc0 HX0 H0
  by_cases hp : 0 < left
  · rw [if_pos hp] at HX
    have hwl : IntKind.i64.wrap (left - 1) = left - 1 := IntWalk.i64_in _ (by omega)
    have hz1 := blkFrozen (H1.out.get 0 _ rfl)
    simp only [Nat.add_zero] at hz1
    go_upto_region 10 with fail
    have H5 := Lib.hid (H1.out.set 0 1 (.int .i64 (left - 1)) _ rfl)
    have HX5 := Lib.hid (show (w1.setCell ⟨w.heap.size, 1, none⟩ (.int .i64 (left - 1))).heap[w.heap.size]? = some (.cells #[.slice A L.length c, .int .i64 (left - 1), .bool false] 29 (0, 0)) from by have h := H5.out.get 0 _ rfl; simpa using h)
    simp only [Nat.add_zero] at H5
    obtain ⟨W5, hW5⟩ : ∃ W, W = w1.setCell ⟨w.heap.size, 1, none⟩ (.int .i64 (left - 1)) := ⟨_, rfl⟩
    rw [← hW5] at H5 HX5 ⊢
    clear hW5 hz1 hc1 H1
    go_wp2_with (first
      | (with_reducible refine listLoad (by kernel_rfl) 29 (.tmp 3) rfl w.heap.size rfl #[.slice A L.length c, .int .i64 (left - 1), .bool false] _ HX5.out _ Tryz.underlying29 (by kernel_rfl) (by kernel_rfl) ?_)
      | (go_at_call 76; (with_reducible refine (HC.out _ _ H5.out.below).mono ?_); rintro e w6 ⟨A2, c2, rfl, hr6, ht6, hb6⟩; have H6 := Lib.hid (H5.out.step hb6))
      | (with_reducible refine listStore (by kernel_rfl) 29 (.tmp 6) (.tmp 36) rfl (w.heap.size + 1) #[.slice A2 L.length c2, .int .i64 (left - 1), .bool false] _ _ rfl rfl (H6.out.get 1 _ rfl) (by kernel_rfl) (by kernel_rfl) (by kernel_rfl) ?_))
    refine bodyPost_ret (v := .tuple #[.agg #[.slice A2 L.length c2, .int .i64 (left - 1), .bool false], .int .i64 0]) (results_cell2 rfl _ _ rfl (load_whole (setRow_heap _ _ _ _ _ _ (H6.out.get 1 _ rfl)) Tryz.underlying29 (by kernel_rfl) (by kernel_rfl)) rfl) rfl ?_
    exact write_new HX.out (by rw [List.length_set]) (ht6.readsRow hr6 (H6.out.get 1 _ rfl) (by decide) _) rfl rfl (by rw [List.length_set]; exact hlen) ((ht6.row _ _).mono H5.out.below.size) ((H6.out.row 1 _ _ rfl).below)
  · rw [if_neg hp] at HX
    have HX1 := Lib.hid (show w1.heap[w.heap.size]? = some (.cells #[.slice A L.length c, .int .i64 left, .bool false] 29 (0, 0)) from (by have h := H1.out.get 0 _ rfl; simpa using h))
    go_wp2_with (first
      | (with_reducible refine listLoad (by kernel_rfl) 29 (.tmp 3) rfl w.heap.size rfl #[.slice A L.length c, .int .i64 left, .bool false] _ HX1.out _ Tryz.underlying29 (by kernel_rfl) (by kernel_rfl) ?_)
      | (go_at_call 76; (with_reducible refine (HC.out _ _ H1.out.below).mono ?_); rintro e w6 ⟨A2, c2, rfl, hr6, ht6, hb6⟩; have H6 := Lib.hid (H1.out.step hb6))
      | (with_reducible refine listStore (by kernel_rfl) 29 (.tmp 6) (.tmp 36) rfl (w.heap.size + 1) #[.slice A2 L.length c2, .int .i64 left, .bool false] _ _ rfl rfl (H6.out.get 1 _ rfl) (by kernel_rfl) (by kernel_rfl) (by kernel_rfl) ?_))
    refine bodyPost_ret (v := .tuple #[.agg #[.slice A2 L.length c2, .int .i64 left, .bool false], .int .i64 0]) (results_cell2 rfl _ _ rfl (load_whole (setRow_heap _ _ _ _ _ _ (H6.out.get 1 _ rfl)) Tryz.underlying29 (by kernel_rfl) (by kernel_rfl)) rfl) rfl ?_
    exact write_new HX.out (by rw [List.length_set]) (ht6.readsRow hr6 (H6.out.get 1 _ rfl) (by decide) _) rfl rfl (by rw [List.length_set]; exact hlen) ((ht6.row _ _).mono H1.out.below.size) ((H6.out.row 1 _ _ rfl).below)
theorem rwrite_any (d : Lg.Dk) (hlb : -9223372036854775808 ≤ d.left ∧ d.left ≤ 9223372036854775807) (A : Option Addr) (c : Nat) (a : Int) (b : ByteArray) (w : World) (h : DiskR w d A c) :
    Calls Tryz.prog 43 #[diskV d A c, .int .i64 a, .string b] w (WriteOut (Lg.writeD d a b) A w) := by
  obtain ⟨L, left, down⟩ := d
  cases down with
  | true => exact rwrite_down L left A c a b _ (by unfold Lg.writeD; rw [if_pos rfl]) w h
  | false =>
    by_cases h1 : Lg.hasD ⟨L, left, false⟩ a ∧ b.size = 128
    · by_cases h2 : left = 0
      · subst h2
        exact rwrite_out L A c a b h1.1 h1.2 _ (by unfold Lg.writeD; rw [if_neg (by simp), if_neg (fun hn => hn h1), if_pos rfl]) w h
      · obtain ⟨k, rfl⟩ := Int.eq_ofNat_of_zero_le h1.1.1
        have hk : k < L.length := by have h3 := h1.1.2; simp only at h3; omega
        exact rwrite_on L left h2 hlb A c k b hk h1.2 _ (by unfold Lg.writeD; rw [if_neg (by simp), if_neg (fun hn => hn h1), if_neg h2]; simp) w h
    · exact rwrite_arg L left A c a b h1 _ (by unfold Lg.writeD; rw [if_neg (by simp), if_pos h1]) w h
end Go.Proofs.YthfglhafphfhiaaGreat
/- The walks over the place of a checkpoint on a disk, by both sides. -/
namespace Go.Proofs.YthfglhafphfhiaaGreat
open Go.RowKit
theorem get_int (l : List UInt8) (a k : Nat) (hk : k ≤ 6) : Oct.intOf (Oct.getN l a k) = ((Oct.getL ((l.drop a).take k) : Nat) : Int) := by
  unfold Oct.getN Oct.intOf
  have h := Oct.getL_lt ((l.drop a).take k)
  have h2 : 256 ^ ((l.drop a).take k).length ≤ 256 ^ 6 := Nat.pow_le_pow_right (by omega) (by rw [List.length_take]; omega)
  rw [if_pos (by omega)]
set_option maxRecDepth 100000 in
theorem copen10_yes (s : ByteArray) (hs : s.size = 10) (h : Oct.getL (s.data.toList.take 4) = Oct.sumN (s.data.toList.drop 4)) (w : World) :
    Calls Tryz.prog 46 #[.string s] w fun e w' => e = .returned (.tuple #[.string (s.extract 4 s.size), .bool true]) ∧ Below w.heap.size w w' := by
  have HG := Lib.hid (fun W => show Calls Tryz.prog 47 #[.string s, .int .i64 0, .int .i64 4] W fun e w' => e = .returned (.tuple #[.int .i64 (Oct.intOf (Oct.getN s.data.toList 0 4)), .bool true]) ∧ Below W.heap.size W w' from get_yes s 0 4 (by omega) (by omega) (by omega) (by omega) W)
  have HS := Lib.hid (fun W => sum_any (s.extract 4 s.size) (by rw [ByteArray.size_extract]; omega) W)
  have hx : (s.extract 4 s.size).data.toList = s.data.toList.drop 4 := by
    have hl : s.data.toList.length = s.size := by simp
    simp only [ByteArray.data_extract, Array.toList_extract, List.extract_eq_take_drop]
    rw [List.take_of_length_le (by rw [List.length_drop]; omega)]
  rw [hx] at HS
  rw [get_int _ _ _ (by omega), List.drop_zero] at HG
  rw [h] at HG
  generalize ((Oct.sumN (s.data.toList.drop 4) : Nat) : Int) = m at HG HS
  have hmm : (m == m) = true := by simp
  have h4 : 4 ≤ s.size := by omega
  have h5 : (4 : Int) ≤ (s.size : Int) := by omega
  clear h hx hs
  go_enter Tryz.func46, Tryz.ntmps46
  go_wp2_with (first
    | (go_at_call 47; (with_reducible refine (HG.out _).mono ?_); rintro e w1 ⟨rfl, hb1⟩)
    | (go_at_call 79; (with_reducible refine (HS.out _).mono ?_); rintro e w2 ⟨rfl, rfl⟩))
  go_ret2
  first | exact ⟨rfl, hb1⟩ | exact ⟨rfl, Below.refl _ _⟩
set_option maxRecDepth 100000 in
theorem copen10_no (s : ByteArray) (hs : s.size = 10) (h : ¬ Oct.getL (s.data.toList.take 4) = Oct.sumN (s.data.toList.drop 4)) (w : World) :
    Calls Tryz.prog 46 #[.string s] w fun e w' => e = .returned (.tuple #[.string ⟨#[]⟩, .bool false]) ∧ Below w.heap.size w w' := by
  have HG := Lib.hid (fun W => show Calls Tryz.prog 47 #[.string s, .int .i64 0, .int .i64 4] W fun e w' => e = .returned (.tuple #[.int .i64 (Oct.intOf (Oct.getN s.data.toList 0 4)), .bool true]) ∧ Below W.heap.size W w' from get_yes s 0 4 (by omega) (by omega) (by omega) (by omega) W)
  have HS := Lib.hid (fun W => sum_any (s.extract 4 s.size) (by rw [ByteArray.size_extract]; omega) W)
  have hx : (s.extract 4 s.size).data.toList = s.data.toList.drop 4 := by
    have hl : s.data.toList.length = s.size := by simp
    simp only [ByteArray.data_extract, Array.toList_extract, List.extract_eq_take_drop]
    rw [List.take_of_length_le (by rw [List.length_drop]; omega)]
  rw [hx] at HS
  rw [get_int _ _ _ (by omega), List.drop_zero] at HG
  have hmn : ¬ ((Oct.getL (s.data.toList.take 4) : Nat) : Int) = ((Oct.sumN (s.data.toList.drop 4) : Nat) : Int) := fun e => h (by omega)
  generalize ((Oct.sumN (s.data.toList.drop 4) : Nat) : Int) = m at HS hmn
  generalize ((Oct.getL (s.data.toList.take 4) : Nat) : Int) = n at HG hmn
  have hmm : (n == m) = false := by simpa using hmn
  have hm2 : (n != m) = true := by simpa using hmn
  clear hmn
  have h4 : 4 ≤ s.size := by omega
  have h5 : (4 : Int) ≤ (s.size : Int) := by omega
  clear h hx hs
  go_enter Tryz.func46, Tryz.ntmps46
  go_wp2_with (first
    | (go_at_call 47; (with_reducible refine (HG.out _).mono ?_); rintro e w1 ⟨rfl, hb1⟩)
    | (go_at_call 79; (with_reducible refine (HS.out _).mono ?_); rintro e w2 ⟨rfl, rfl⟩))
  go_ret2
  first | exact ⟨rfl, hb1⟩ | exact ⟨rfl, Below.refl _ _⟩
set_option maxRecDepth 100000 in
theorem ropen10_yes (s : ByteArray) (hs : s.size = 10) (h : Oct.getL (s.data.toList.take 4) = Oct.sumN (s.data.toList.drop 4)) (w : World) :
    Calls Tryz.prog 49 #[.string s] w fun e w' => e = .returned (.tuple #[.string (s.extract 4 s.size), .bool true]) ∧ Below w.heap.size w w' := by
  have HG := Lib.hid (fun W => show Calls Tryz.prog 50 #[.string s, .int .i64 0, .int .i64 4] W fun e w' => e = .returned (.tuple #[.int .i64 (Oct.intOf (Oct.getN s.data.toList 0 4)), .bool true]) ∧ W = w' from rget_yes s 0 4 (by omega) (by omega) (by omega) (by omega) W)
  have HS := Lib.hid (fun W => rsum_any (s.extract 4 s.size) (by rw [ByteArray.size_extract]; omega) W)
  have hx : (s.extract 4 s.size).data.toList = s.data.toList.drop 4 := by
    have hl : s.data.toList.length = s.size := by simp
    simp only [ByteArray.data_extract, Array.toList_extract, List.extract_eq_take_drop]
    rw [List.take_of_length_le (by rw [List.length_drop]; omega)]
  rw [hx] at HS
  rw [get_int _ _ _ (by omega), List.drop_zero] at HG
  rw [h] at HG
  generalize ((Oct.sumN (s.data.toList.drop 4) : Nat) : Int) = m at HG HS
  have hmm : (m == m) = true := by simp
  have h4 : 4 ≤ s.size := by omega
  have h5 : (4 : Int) ≤ (s.size : Int) := by omega
  clear h hx hs
  go_enter Tryz.func49, Tryz.ntmps49
  go_wp2_with (first
    | (go_at_call 50; (with_reducible refine (HG.out _).mono ?_); rintro e w1 ⟨rfl, rfl⟩)
    | (go_at_call 80; (with_reducible refine (HS.out _).mono ?_); rintro e w2 ⟨rfl, rfl⟩))
  go_ret2
  first | exact ⟨rfl, hb1⟩ | exact ⟨rfl, Below.refl _ _⟩
set_option maxRecDepth 100000 in
theorem ropen10_no (s : ByteArray) (hs : s.size = 10) (h : ¬ Oct.getL (s.data.toList.take 4) = Oct.sumN (s.data.toList.drop 4)) (w : World) :
    Calls Tryz.prog 49 #[.string s] w fun e w' => e = .returned (.tuple #[.string ⟨#[]⟩, .bool false]) ∧ Below w.heap.size w w' := by
  have HG := Lib.hid (fun W => show Calls Tryz.prog 50 #[.string s, .int .i64 0, .int .i64 4] W fun e w' => e = .returned (.tuple #[.int .i64 (Oct.intOf (Oct.getN s.data.toList 0 4)), .bool true]) ∧ W = w' from rget_yes s 0 4 (by omega) (by omega) (by omega) (by omega) W)
  have HS := Lib.hid (fun W => rsum_any (s.extract 4 s.size) (by rw [ByteArray.size_extract]; omega) W)
  have hx : (s.extract 4 s.size).data.toList = s.data.toList.drop 4 := by
    have hl : s.data.toList.length = s.size := by simp
    simp only [ByteArray.data_extract, Array.toList_extract, List.extract_eq_take_drop]
    rw [List.take_of_length_le (by rw [List.length_drop]; omega)]
  rw [hx] at HS
  rw [get_int _ _ _ (by omega), List.drop_zero] at HG
  have hmn : ¬ ((Oct.getL (s.data.toList.take 4) : Nat) : Int) = ((Oct.sumN (s.data.toList.drop 4) : Nat) : Int) := fun e => h (by omega)
  generalize ((Oct.sumN (s.data.toList.drop 4) : Nat) : Int) = m at HS hmn
  generalize ((Oct.getL (s.data.toList.take 4) : Nat) : Int) = n at HG hmn
  have hmm : (n == m) = false := by simpa using hmn
  have hm2 : (n != m) = true := by simpa using hmn
  clear hmn
  have h4 : 4 ≤ s.size := by omega
  have h5 : (4 : Int) ≤ (s.size : Int) := by omega
  clear h hx hs
  go_enter Tryz.func49, Tryz.ntmps49
  go_wp2_with (first
    | (go_at_call 50; (with_reducible refine (HG.out _).mono ?_); rintro e w1 ⟨rfl, rfl⟩)
    | (go_at_call 80; (with_reducible refine (HS.out _).mono ?_); rintro e w2 ⟨rfl, rfl⟩))
  go_ret2
  first | exact ⟨rfl, hb1⟩ | exact ⟨rfl, Below.refl _ _⟩
set_option maxRecDepth 100000 in
set_option maxHeartbeats 8000000 in
theorem cmaster_any (d : Lg.Dk) (A : Option Addr) (c : Nat) (w : World) (h : DiskR w d A c) :
    Calls Tryz.prog 18 #[diskV d A c] w fun e w' => e = .returned (.int .i64 (Ck.masterD d)) ∧ Below w.heap.size w w' := by
  have HR := Lib.hid (fun W (hb : Below w.heap.size w W) => dread_any d A c 0 W (h.below hb))
  have k1 := @Ck.masterD_no d
  have k2 := @Ck.masterD_yes d
  generalize Lg.readD d 0 = x at HR k1 k2
  generalize Ck.masterD d = M at k1 k2 ⊢
  obtain ⟨b, e0⟩ := x
  obtain ⟨L, left, down⟩ := d
  simp only at k1 k2
  dsimp only [diskV] at HR ⊢
  clear h
  have HA := Lib.hid (heap_alloc_new w (.cells #[.slice A L.length c, .int .i64 left, .bool down] 29))
  have BA := allocB w (.cells #[.slice A L.length c, .int .i64 left, .bool down] 29)
  by_cases he : e0 = 0
  · subst he
    by_cases hb : b.size < 10
    · have hM := k1 (.inr hb)
      subst hM
      have hb1 : (b.size : Int) < 10 := by omega
      clear k1 k2 hb
      go_enter Tryz.func18, Tryz.ntmps18
      go_wp2_with (first
        | (with_reducible refine listLoad (by kernel_rfl) 29 (.tmp 1) rfl w.heap.size rfl #[.slice A L.length c, .int .i64 left, .bool down] _ HA.out _ Tryz.underlying29 (by kernel_rfl) (by kernel_rfl) ?_)
        | (go_at_call 45; (with_reducible refine (HR.out _ BA).mono ?_); rintro e w1 ⟨rfl, hb1'⟩))
      go_ret
      exact ⟨rfl, joinB BA hb1'⟩
    · have hM := k2 (by intro hc; rcases hc with hc | hc; exact hc rfl; exact hb hc)
      have hb1 : ¬ (b.size : Int) < 10 := by omega
      have hb2 : 10 ≤ b.size := by omega
      have hb3 : (10 : Int) ≤ (b.size : Int) := by omega
      obtain ⟨s, hs⟩ : ∃ s, s = b.extract 0 10 := ⟨_, rfl⟩
      have hsz : s.size = 10 := by rw [hs, ByteArray.size_extract]; omega
      have hsl : s.data.toList = b.data.toList.take 10 := by rw [hs]; simp
      have q1 : s.data.toList.take 4 = b.data.toList.take 4 := by rw [hsl, List.take_take]; rfl
      have q2 : s.data.toList.drop 4 = (b.data.toList.drop 4).take 6 := by rw [hsl, List.drop_take]
      have qx : (s.extract 4 s.size).data.toList = s.data.toList.drop 4 := by
        have hl : s.data.toList.length = s.size := by simp
        simp only [ByteArray.data_extract, Array.toList_extract, List.extract_eq_take_drop]
        rw [List.take_of_length_le (by rw [List.length_drop]; omega)]
      have qs : (s.extract 4 s.size).size = 6 := by rw [ByteArray.size_extract]; omega
      have HS := Lib.hid hs
      by_cases hy : Oct.getL (s.data.toList.take 4) = Oct.sumN (s.data.toList.drop 4)
      · have HO := Lib.hid (fun W => copen10_yes s hsz hy W)
        have HG := Lib.hid (fun W => show Calls Tryz.prog 47 #[.string (s.extract 4 s.size), .int .i64 0, .int .i64 6] W fun e w' => e = .returned (.tuple #[.int .i64 (Oct.intOf (Oct.getN (s.extract 4 s.size).data.toList 0 6)), .bool true]) ∧ Below W.heap.size W w' from get_yes (s.extract 4 s.size) 0 6 (by omega) (by omega) (by omega) (by omega) W)
        rw [get_int _ _ _ (by omega), List.drop_zero, qx, List.take_of_length_le (by have hl : s.data.toList.length = s.size := (by simp); rw [List.length_drop]; omega)] at HG
        have hM2 : M = ((Oct.getL (s.data.toList.drop 4) : Nat) : Int) := by
          rw [hM, Ck.masterL_yes (by rw [← q1, ← q2]; exact hy), q2]
        rw [← hM2] at HG
        generalize s.extract 4 s.size = t at HO HG
        clear k1 k2 hb hM hM2 hy q1 q2 qx qs hsl hsz hs
        go_enter Tryz.func18, Tryz.ntmps18
        go_wp2_with (first
          | (with_reducible refine listLoad (by kernel_rfl) 29 (.tmp 1) rfl w.heap.size rfl #[.slice A L.length c, .int .i64 left, .bool down] _ HA.out _ Tryz.underlying29 (by kernel_rfl) (by kernel_rfl) ?_)
          | (go_at_call 45; (with_reducible refine (HR.out _ BA).mono ?_); rintro e w1 ⟨rfl, hb1'⟩)
          | (go_at_call 46; rw [← HS.out]; (with_reducible refine (HO.out _).mono ?_); rintro e w2 ⟨rfl, hb2'⟩)
          | (go_at_call 47; (with_reducible refine (HG.out _).mono ?_); rintro e w3 ⟨rfl, hb3'⟩))
        go_ret
        first | exact ⟨rfl, joinB (joinB (joinB BA hb1') hb2') hb3'⟩ | exact ⟨rfl, joinB (joinB BA hb1') hb2'⟩
      · have HO := Lib.hid (fun W => copen10_no s hsz hy W)
        have hM2 : M = 0 := by rw [hM, Ck.masterL_no (by rw [← q1, ← q2]; exact hy)]
        subst hM2
        have HG := Lib.hid (fun W => get_no ⟨#[]⟩ 0 6 (by decide) (by omega) (by omega) (by decide) W)
        clear k1 k2 hb hM hy q1 q2 qx qs hsl hsz hs
        go_enter Tryz.func18, Tryz.ntmps18
        go_wp2_with (first
          | (with_reducible refine listLoad (by kernel_rfl) 29 (.tmp 1) rfl w.heap.size rfl #[.slice A L.length c, .int .i64 left, .bool down] _ HA.out _ Tryz.underlying29 (by kernel_rfl) (by kernel_rfl) ?_)
          | (go_at_call 45; (with_reducible refine (HR.out _ BA).mono ?_); rintro e w1 ⟨rfl, hb1'⟩)
          | (go_at_call 46; rw [← HS.out]; (with_reducible refine (HO.out _).mono ?_); rintro e w2 ⟨rfl, hb2'⟩)
          | (go_at_call 47; (with_reducible refine (HG.out _).mono ?_); rintro e w3 ⟨rfl, rfl⟩))
        go_ret
        exact ⟨rfl, joinB (joinB BA hb1') hb2'⟩
  · have hM := k1 (.inl he)
    subst hM
    have he1 : (e0 == 0) = false := by simpa using he
    have he2 : (e0 != 0) = true := by simpa using he
    clear k1 k2 he
    go_enter Tryz.func18, Tryz.ntmps18
    go_wp2_with (first
      | (with_reducible refine listLoad (by kernel_rfl) 29 (.tmp 1) rfl w.heap.size rfl #[.slice A L.length c, .int .i64 left, .bool down] _ HA.out _ Tryz.underlying29 (by kernel_rfl) (by kernel_rfl) ?_)
      | (go_at_call 45; (with_reducible refine (HR.out _ BA).mono ?_); rintro e w1 ⟨rfl, hb1'⟩))
    go_ret
    exact ⟨rfl, joinB BA hb1'⟩
set_option maxRecDepth 100000 in
set_option maxHeartbeats 8000000 in
theorem rmaster_any (d : Lg.Dk) (A : Option Addr) (c : Nat) (w : World) (h : DiskR w d A c) :
    Calls Tryz.prog 19 #[diskV d A c] w fun e w' => e = .returned (.int .i64 (Ck.masterD d)) ∧ Below w.heap.size w w' := by
  have HR := Lib.hid (fun W (hb : Below w.heap.size w W) => rdread_any d A c 0 W (h.below hb))
  have k1 := @Ck.masterD_no d
  have k2 := @Ck.masterD_yes d
  generalize Lg.readD d 0 = x at HR k1 k2
  generalize Ck.masterD d = M at k1 k2 ⊢
  obtain ⟨b, e0⟩ := x
  obtain ⟨L, left, down⟩ := d
  simp only at k1 k2
  dsimp only [diskV] at HR ⊢
  clear h
  have HA := Lib.hid (heap_alloc_new w (.cells #[.slice A L.length c, .int .i64 left, .bool down] 29))
  have BA := allocB w (.cells #[.slice A L.length c, .int .i64 left, .bool down] 29)
  by_cases he : e0 = 0
  · subst he
    by_cases hb : b.size < 10
    · have hM := k1 (.inr hb)
      subst hM
      have hb1 : (b.size : Int) < 10 := by omega
      clear k1 k2 hb
      go_enter Tryz.func19, Tryz.ntmps19
      go_wp2_with (first
        | (with_reducible refine listLoad (by kernel_rfl) 29 (.tmp 1) rfl w.heap.size rfl #[.slice A L.length c, .int .i64 left, .bool down] _ HA.out _ Tryz.underlying29 (by kernel_rfl) (by kernel_rfl) ?_)
        | (go_at_call 48; (with_reducible refine (HR.out _ BA).mono ?_); rintro e w1 ⟨rfl, hb1'⟩))
      go_ret
      exact ⟨rfl, joinB BA hb1'⟩
    · have hM := k2 (by intro hc; rcases hc with hc | hc; exact hc rfl; exact hb hc)
      have hb1 : ¬ (b.size : Int) < 10 := by omega
      have hb2 : 10 ≤ b.size := by omega
      have hb3 : (10 : Int) ≤ (b.size : Int) := by omega
      obtain ⟨s, hs⟩ : ∃ s, s = b.extract 0 10 := ⟨_, rfl⟩
      have hsz : s.size = 10 := by rw [hs, ByteArray.size_extract]; omega
      have hsl : s.data.toList = b.data.toList.take 10 := by rw [hs]; simp
      have q1 : s.data.toList.take 4 = b.data.toList.take 4 := by rw [hsl, List.take_take]; rfl
      have q2 : s.data.toList.drop 4 = (b.data.toList.drop 4).take 6 := by rw [hsl, List.drop_take]
      have qx : (s.extract 4 s.size).data.toList = s.data.toList.drop 4 := by
        have hl : s.data.toList.length = s.size := by simp
        simp only [ByteArray.data_extract, Array.toList_extract, List.extract_eq_take_drop]
        rw [List.take_of_length_le (by rw [List.length_drop]; omega)]
      have qs : (s.extract 4 s.size).size = 6 := by rw [ByteArray.size_extract]; omega
      have HS := Lib.hid hs
      by_cases hy : Oct.getL (s.data.toList.take 4) = Oct.sumN (s.data.toList.drop 4)
      · have HO := Lib.hid (fun W => ropen10_yes s hsz hy W)
        have HG := Lib.hid (fun W => show Calls Tryz.prog 50 #[.string (s.extract 4 s.size), .int .i64 0, .int .i64 6] W fun e w' => e = .returned (.tuple #[.int .i64 (Oct.intOf (Oct.getN (s.extract 4 s.size).data.toList 0 6)), .bool true]) ∧ W = w' from rget_yes (s.extract 4 s.size) 0 6 (by omega) (by omega) (by omega) (by omega) W)
        rw [get_int _ _ _ (by omega), List.drop_zero, qx, List.take_of_length_le (by have hl : s.data.toList.length = s.size := (by simp); rw [List.length_drop]; omega)] at HG
        have hM2 : M = ((Oct.getL (s.data.toList.drop 4) : Nat) : Int) := by
          rw [hM, Ck.masterL_yes (by rw [← q1, ← q2]; exact hy), q2]
        rw [← hM2] at HG
        generalize s.extract 4 s.size = t at HO HG
        clear k1 k2 hb hM hM2 hy q1 q2 qx qs hsl hsz hs
        go_enter Tryz.func19, Tryz.ntmps19
        go_wp2_with (first
          | (with_reducible refine listLoad (by kernel_rfl) 29 (.tmp 1) rfl w.heap.size rfl #[.slice A L.length c, .int .i64 left, .bool down] _ HA.out _ Tryz.underlying29 (by kernel_rfl) (by kernel_rfl) ?_)
          | (go_at_call 48; (with_reducible refine (HR.out _ BA).mono ?_); rintro e w1 ⟨rfl, hb1'⟩)
          | (go_at_call 49; rw [← HS.out]; (with_reducible refine (HO.out _).mono ?_); rintro e w2 ⟨rfl, hb2'⟩)
          | (go_at_call 50; (with_reducible refine (HG.out _).mono ?_); rintro e w3 ⟨rfl, rfl⟩))
        go_ret
        first | exact ⟨rfl, joinB (joinB (joinB BA hb1') hb2') hb3'⟩ | exact ⟨rfl, joinB (joinB BA hb1') hb2'⟩
      · have HO := Lib.hid (fun W => ropen10_no s hsz hy W)
        have hM2 : M = 0 := by rw [hM, Ck.masterL_no (by rw [← q1, ← q2]; exact hy)]
        subst hM2
        clear k1 k2 hb hM hy q1 q2 qx qs hsl hsz hs
        go_enter Tryz.func19, Tryz.ntmps19
        go_wp2_with (first
          | (with_reducible refine listLoad (by kernel_rfl) 29 (.tmp 1) rfl w.heap.size rfl #[.slice A L.length c, .int .i64 left, .bool down] _ HA.out _ Tryz.underlying29 (by kernel_rfl) (by kernel_rfl) ?_)
          | (go_at_call 48; (with_reducible refine (HR.out _ BA).mono ?_); rintro e w1 ⟨rfl, hb1'⟩)
          | (go_at_call 49; rw [← HS.out]; (with_reducible refine (HO.out _).mono ?_); rintro e w2 ⟨rfl, hb2'⟩))
        go_ret
        exact ⟨rfl, joinB (joinB BA hb1') hb2'⟩
  · have hM := k1 (.inl he)
    subst hM
    have he1 : (e0 == 0) = false := by simpa using he
    have he2 : (e0 != 0) = true := by simpa using he
    clear k1 k2 he
    go_enter Tryz.func19, Tryz.ntmps19
    go_wp2_with (first
      | (with_reducible refine listLoad (by kernel_rfl) 29 (.tmp 1) rfl w.heap.size rfl #[.slice A L.length c, .int .i64 left, .bool down] _ HA.out _ Tryz.underlying29 (by kernel_rfl) (by kernel_rfl) ?_)
      | (go_at_call 48; (with_reducible refine (HR.out _ BA).mono ?_); rintro e w1 ⟨rfl, hb1'⟩))
    go_ret
    exact ⟨rfl, joinB BA hb1'⟩
end Go.Proofs.YthfglhafphfhiaaGreat
/- The walks over writing the place of a checkpoint, by both sides. -/
namespace Go.Proofs.YthfglhafphfhiaaGreat
open Go.RowKit
/-- The cells of so many bytes, once k of a text are stored. -/
def fillP (l : List UInt8) (size k : Nat) : Array Value := ((List.range size).map fun i => Value.int .u8 (if i < k then ((l[i]?.getD 0).toNat : Int) else 0)).toArray
theorem fillP_start (l : List UInt8) (size : Nat) : madeCells #[Value.int .u8 0] size = fillP l size 0 := by
  apply Array.ext_getElem?
  intro i
  simp only [madeCells, fillP]
  by_cases h : i < size
  · simp [h, Nat.mod_one]
  · simp [h]
theorem fillP_store (l : List UInt8) (size k : Nat) (_hk : k < size) : (fillP l size k).setIfInBounds k (.int .u8 ((l[k]?.getD 0).toNat : Int)) = fillP l size (k + 1) := by
  apply Array.ext_getElem?
  intro i
  simp only [fillP, List.setIfInBounds_toArray, List.getElem?_toArray, List.getElem?_set, List.getElem?_map, List.length_map, List.length_range]
  by_cases hi : k = i
  · subst hi
    simp [_hk]
  · rw [if_neg hi]
    by_cases h : i < size
    · simp only [List.getElem?_range h, Option.map_some]
      by_cases h2 : i < k
      · rw [if_pos h2, if_pos (by omega)]
      · rw [if_neg h2, if_neg (by omega)]
    · simp [h]
theorem fillP_cell (l : List UInt8) (size k j : Nat) (hj : j < size) : (fillP l size k)[j]? = some (.int .u8 (if j < k then ((l[j]?.getD 0).toNat : Int) else 0)) := by
  simp [fillP, hj]
theorem fillP_back (l : List UInt8) (hl : l.length ≤ 128) (W : World) : (convert 107 9 (.slice (some ⟨W.heap.size, 0, none⟩) 128 128)).run Tryz.prog (W.alloc (.cells (fillP l 128 l.length) 5)) = .ok (.string (Lg.pad128 l)) (W.alloc (.cells (fillP l 128 l.length) 5)) := by
  have h := run_convert_bytes_back (P := Tryz.prog) (W.alloc (.cells (fillP l 128 l.length) 5)) 107 9 5 ⟨W.heap.size, 0, none⟩ 128 (l ++ List.replicate (128 - l.length) 0) Tryz.underlying107 Tryz.underlying5 Tryz.underlying9 (fun j hj => by
    have hj' : j < 128 := by rw [List.length_append, List.length_replicate] at hj; omega
    have ha : (⟨W.heap.size, 0, none⟩ : Addr).add j = ⟨W.heap.size, j, none⟩ := by
      unfold Addr.add; split
      · rename_i h; rw [h]
      · simp
    rw [ha, World.cell?_alloc_new]
    show (fillP l 128 l.length)[j]? = _
    rw [fillP_cell _ _ _ _ hj']
    by_cases hk : j < l.length
    · rw [if_pos hk, List.getElem?_eq_getElem hk, Option.getD_some, List.getElem_append_left hk]
    · rw [if_neg hk, List.getElem_append_right (by omega), List.getElem_replicate]; rfl)
  rw [List.length_append, List.length_replicate, show l.length + (128 - l.length) = 128 by omega] at h
  exact h
set_option maxRecDepth 100000 in
theorem csealed_any (n : Int) (w : World) :
    Calls Tryz.prog 40 #[.int .i64 n] w fun e w' => ∃ x : ByteArray, e = .returned (.string x) ∧ x.data.toList = Ck.placeL n ∧ Below w.heap.size w w' := by
  have HP := Lib.hid (fun W => put_any n 6 (by omega) (by omega) W)
  have hb : (Oct.putB n 6).data.toList = Oct.putL (Oct.word n) 6 := Oct.putB_list n 6 (by omega)
  have hz : (Oct.putB n 6).size = 6 := Oct.putB_size n 6 (by omega)
  have HS := Lib.hid (fun W => seal_any (Oct.putB n 6) (by omega) W)
  rw [hb] at HS
  have HL := Lib.hid (show Ck.placeL n = Oct.putL (Oct.sumN (Oct.putL (Oct.word n) 6)) 4 ++ Oct.putL (Oct.word n) 6 from rfl)
  generalize Oct.putB n 6 = y at HP HS
  clear hb hz
  go_enter Tryz.func40, Tryz.ntmps40
  go_wp2_with (first
    | (go_at_call 66; (with_reducible refine (HP.out _).mono ?_); rintro e w1 ⟨rfl, hb1⟩)
    | (go_at_call 65; (with_reducible refine (HS.out _).mono ?_); rintro e w2 ⟨x, rfl, hx, hb2⟩))
  go_ret
  exact ⟨x, rfl, by rw [HL.out]; exact hx, joinB hb1 hb2⟩
set_option maxRecDepth 100000 in
theorem rseal_any (s : ByteArray) (hs : s.size ≤ 1000000) (w : World) :
    Calls Tryz.prog 77 #[.string s] w fun e w' => ∃ x : ByteArray, e = .returned (.string x) ∧ x.data.toList = Oct.putL (Oct.sumN s.data.toList) 4 ++ s.data.toList ∧ Below w.heap.size w w' := by
  have HS := Lib.hid (fun W => rsum_any s (by omega) W)
  have hlt : Oct.sumN s.data.toList < 18446744073709551616 := by have := Oct.sumN_lt s.data.toList; omega
  have hfin0 : (Oct.putB ((Oct.sumN s.data.toList : Nat) : Int) 4).data.toList = Oct.putL (Oct.sumN s.data.toList) 4 := putW _ hlt 4 (by omega)
  generalize Oct.sumN s.data.toList = n at HS hfin0 ⊢
  have HP := Lib.hid (fun W => rput_any (n : Int) 4 (by omega) (by omega) W)
  have hsz : (Oct.putB (n : Int) 4).size = 4 := Oct.putB_size _ 4 (by omega)
  have hsum : (Oct.putB (n : Int) 4).size + s.size ≤ 281474976710656 := by omega
  have hfin : (Oct.putB (n : Int) 4 ++ s).data.toList = Oct.putL n 4 ++ s.data.toList := by
    rw [ByteArray.data_append, Array.toList_append, hfin0]
  clear hlt hfin0
  generalize Oct.putB (n : Int) 4 = x at HP hsz hsum hfin
  go_enter Tryz.func77, Tryz.ntmps77
  go_wp2_with (first | (go_at_call 80; refine (HS.out _).mono ?_; rintro e w1 ⟨rfl, rfl⟩) | (go_at_call 78; refine (HP.out _).mono ?_; rintro e w2 ⟨rfl, hb2⟩))
  go_ret
  exact ⟨_, rfl, hfin, hb2⟩
set_option maxRecDepth 100000 in
set_option maxHeartbeats 8000000 in
theorem rsector_any (n : Int) (w : World) :
    Calls Tryz.prog 44 #[.int .i64 n] w fun e w' => e = .returned (.string (Ck.sectorB n)) ∧ Below w.heap.size w w' := by
  have HP := Lib.hid (fun W => rput_any n 6 (by omega) (by omega) W)
  have hb : (Oct.putB n 6).data.toList = Oct.putL (Oct.word n) 6 := Oct.putB_list n 6 (by omega)
  have hz : (Oct.putB n 6).size = 6 := Oct.putB_size n 6 (by omega)
  have HS := Lib.hid (fun W => rseal_any (Oct.putB n 6) (by omega) W)
  rw [hb] at HS
  have HL := Lib.hid (show Ck.placeL n = Oct.putL (Oct.sumN (Oct.putL (Oct.word n) 6)) 4 ++ Oct.putL (Oct.word n) 6 from rfl)
  have HLL := Lib.hid (Ck.placeL_len n)
  have HSB := Lib.hid (show Ck.sectorB n = Lg.pad128 (Ck.placeL n) from rfl)
  generalize Ck.sectorB n = R at HSB ⊢
  generalize Oct.putB n 6 = y at HP HS
  clear hb hz
  go_enter Tryz.func44, Tryz.ntmps44
  go_upto_region 2 with (first
    | (go_at_call 78; (with_reducible refine (HP.out _).mono ?_); rintro e w1 ⟨rfl, hb1⟩)
    | (go_at_call 77; (with_reducible refine (HS.out _).mono ?_); rintro e w2 ⟨x, rfl, hx, hb2⟩))
  have HB := Lib.hid (joinB hb1 hb2)
  have hpl : x.data.toList = Ck.placeL n := by rw [HL.out]; exact hx
  have hxs : x.size = 10 := by
    have h1 : x.data.toList.length = x.size := by simp
    rw [hpl, HLL.out] at h1
    omega
  have HX := Lib.hid hpl
  have HXS := Lib.hid hxs
  have hmk := fun W => make_zeros 128 (by omega) W
  have hst := fillP_start x.data.toList 128
  rw [hst] at hmk
  clear hx hb1 hb2 hpl hst HS HP hxs
  have hmk2 := fun W => show (Instr.makeSlice 107 (.int .i64 128) (.int .i64 128)).run Tryz.prog W = .ok (.slice (some ⟨W.heap.size, 0, none⟩) 128 128) (W.alloc (.cells (fillP x.data.toList 128 0) 5)) from hmk W
  clear hmk
  go_wp2_with fail
  clear hmk2
  go_loopw [5] (fun i wr => ∃ k : Nat, k ≤ x.size ∧ i = .int .i64 k ∧ wr = w2.alloc (.cells (fillP x.data.toList 128 k) 5)) (fun i _ => x.size - (intOf i).toNat)
  case atStart => exact ⟨0, Nat.zero_le _, rfl, rfl⟩
  case round =>
    obtain ⟨k, hk, rfl, rfl⟩ := hrel
    by_cases hlt : k < x.size
    · have hk128 : k < 128 := by have := HXS.out; omega
      have hk1 : (k : Int) < 128 := by omega
      have hc : (fillP x.data.toList 128 k)[k]? = some (.int .u8 0) := by rw [fillP_cell _ _ _ _ hk128, if_neg (by omega)]
      have hbyte : (x.data.toList[k]?.getD 0) = x[k] := by
        have h1 : k < x.data.toList.length := by simpa using hlt
        rw [List.getElem?_eq_getElem h1]; rfl
      have hs := fillP_store x.data.toList 128 k hk128
      rw [hbyte] at hs
      have HS := Lib.hid hs
      have hwk : IntKind.i64.wrap ((k : Int) + 1) = (k : Int) + 1 := IntWalk.i64_in _ (by omega)
      clear hs hbyte
      go_wp2_with fail
      go_roundw
      case rel => exact ⟨k + 1, by omega, by go_num, by rw [← HS.out]⟩
      case measure => simp [intOf]; omega
    · obtain rfl : x.size = k := by omega
      have hxl : x.data.toList.length = x.size := by simp
      have hcv := fillP_back x.data.toList (by have := HXS.out; omega) w2
      rw [hxl] at hcv
      rw [HX.out] at hcv
      rw [HX.out]
      rw [← HSB.out] at hcv
      go_wp2_with fail
      go_ret
      exact ⟨rfl, pastAlloc HB.out⟩
set_option maxRecDepth 100000 in
set_option maxHeartbeats 8000000 in
theorem cset_any (d : Lg.Dk) (hlb : -9223372036854775808 ≤ d.left ∧ d.left ≤ 9223372036854775807) (A : Option Addr) (c : Nat) (n : Int) (w : World) (h : DiskR w d A c) :
    Calls Tryz.prog 16 #[diskV d A c, .int .i64 n] w (WriteOut (Ck.setD d n) A w) := by
  have HNO := Lib.hid (@Ck.setD_no d n)
  have HYE := Lib.hid (@Ck.setD_yes d n)
  have HWR := Lib.hid (fun W (hb : Below w.heap.size w W) => dwrite_any d hlb A c 0 (Ck.sectorB n) W (h.below hb))
  have HO := Lib.hid (fun x A' c' w' (hx : Ck.setD d n = x) (h1 : DiskR w' x.1 A' c') (h2 : A' = A ∨ NewT w.heap.size w' 9 A') (h3 : Below w.heap.size w w') => show WriteOut (Ck.setD d n) A w (.returned (.tuple #[diskV x.1 A' c', .int .i64 x.2])) w' from ⟨A', c', by rw [hx], by rw [hx]; exact h1, h2, h3⟩)
  have HD := Lib.hid (fun w' (hb : Below w.heap.size w w') => h.below hb)
  generalize WriteOut (Ck.setD d n) A w = Q at HO ⊢
  generalize Ck.setD d n = X at HNO HYE HO
  by_cases hno : n < 0 ∨ 1099511627776 ≤ n
  · have HX := Lib.hid (HNO.out hno)
    have hor : n < 0 ∨ (¬ n < 0 ∧ 1099511627776 ≤ n) := by omega
    clear HNO HYE HWR h hno hlb
    obtain ⟨L, left, down⟩ := d
    dsimp only [diskV] at HO ⊢
    rcases hor with hn | ⟨hn, hn2⟩
    ·
      go_enter Tryz.func16, Tryz.ntmps16
      go_upto_region 1 with fail
      have H0 := Lib.hid (show BxL w.heap.size w [(#[.slice A L.length c, .int .i64 left, .bool down], 29), (#[.slice none 0 0, .int .i64 0, .bool false], 29)] ((w.alloc (.cells #[.slice A L.length c, .int .i64 left, .bool down] 29)).alloc (.cells #[.slice none 0 0, .int .i64 0, .bool false] 29)) from (((BxL.nil (Below.refl w.heap.size w)).new (by simp) #[.slice A L.length c, .int .i64 left, .bool down] 29).new (by simp) #[.slice none 0 0, .int .i64 0, .bool false] 29))
      obtain ⟨W0, hW0⟩ : ∃ W, W = ((w.alloc (.cells #[.slice A L.length c, .int .i64 left, .bool down] 29)).alloc (.cells #[.slice none 0 0, .int .i64 0, .bool false] 29)) := ⟨_, rfl⟩
      rw [← hW0] at H0 ⊢
      clear hW0
      go_wp2_with (first
        | (with_reducible refine listLoad (by kernel_rfl) 29 (.tmp 2) rfl w.heap.size rfl #[.slice A L.length c, .int .i64 left, .bool down] _ H0.out.get0 _ Tryz.underlying29 (by kernel_rfl) (by kernel_rfl) ?_)
        | (with_reducible refine listStore (by kernel_rfl) 29 (.tmp 4) (.tmp 13) rfl (w.heap.size + 1) #[.slice A L.length c, .int .i64 left, .bool down] _ _ rfl rfl H0.out.get1 (by kernel_rfl) (by kernel_rfl) (by kernel_rfl) ?_))
      refine bodyPost_ret (v := .tuple #[.agg #[.slice A L.length c, .int .i64 left, .bool down], .int .i64 1]) (results_cell2 rfl _ _ rfl (load_whole (setRow_heap _ _ _ _ _ _ H0.out.get1) Tryz.underlying29 (by kernel_rfl) (by kernel_rfl)) rfl) rfl ?_
      exact HO.out _ A c _ HX.out (HD.out _ ((H0.out.row 1 _ _ rfl).below)) (.inl rfl) ((H0.out.row 1 _ _ rfl).below)
    ·
      go_enter Tryz.func16, Tryz.ntmps16
      go_upto_region 1 with fail
      have H0 := Lib.hid (show BxL w.heap.size w [(#[.slice A L.length c, .int .i64 left, .bool down], 29), (#[.slice none 0 0, .int .i64 0, .bool false], 29)] ((w.alloc (.cells #[.slice A L.length c, .int .i64 left, .bool down] 29)).alloc (.cells #[.slice none 0 0, .int .i64 0, .bool false] 29)) from (((BxL.nil (Below.refl w.heap.size w)).new (by simp) #[.slice A L.length c, .int .i64 left, .bool down] 29).new (by simp) #[.slice none 0 0, .int .i64 0, .bool false] 29))
      obtain ⟨W0, hW0⟩ : ∃ W, W = ((w.alloc (.cells #[.slice A L.length c, .int .i64 left, .bool down] 29)).alloc (.cells #[.slice none 0 0, .int .i64 0, .bool false] 29)) := ⟨_, rfl⟩
      rw [← hW0] at H0 ⊢
      clear hW0
      go_wp2_with (first
        | (with_reducible refine listLoad (by kernel_rfl) 29 (.tmp 2) rfl w.heap.size rfl #[.slice A L.length c, .int .i64 left, .bool down] _ H0.out.get0 _ Tryz.underlying29 (by kernel_rfl) (by kernel_rfl) ?_)
        | (with_reducible refine listStore (by kernel_rfl) 29 (.tmp 4) (.tmp 13) rfl (w.heap.size + 1) #[.slice A L.length c, .int .i64 left, .bool down] _ _ rfl rfl H0.out.get1 (by kernel_rfl) (by kernel_rfl) (by kernel_rfl) ?_))
      refine bodyPost_ret (v := .tuple #[.agg #[.slice A L.length c, .int .i64 left, .bool down], .int .i64 1]) (results_cell2 rfl _ _ rfl (load_whole (setRow_heap _ _ _ _ _ _ H0.out.get1) Tryz.underlying29 (by kernel_rfl) (by kernel_rfl)) rfl) rfl ?_
      exact HO.out _ A c _ HX.out (HD.out _ ((H0.out.row 1 _ _ rfl).below)) (.inl rfl) ((H0.out.row 1 _ _ rfl).below)
  · have HX := Lib.hid (HYE.out hno)
    have hn1 : ¬ n < 0 := by omega
    have hn2 : ¬ 1099511627776 ≤ n := by omega
    have hwlen := @Lg.writeD_len d 0 (Ck.sectorB n)
    have hold0 := fun h0 => h.secs.old h0
    generalize Lg.writeD d 0 (Ck.sectorB n) = y at HWR HX hwlen
    obtain ⟨d', e'⟩ := y
    have HOLD := Lib.hid (show 0 < d'.sectors.length → ∀ ad, A = some ad → ad.block < w.heap.size from fun h0 => hold0 (by rw [← hwlen]; exact h0))
    clear HNO HYE h hno hlb HD hwlen hold0
    have HSE := Lib.hid (fun W => csealed_any n W)
    have HZ := Lib.hid (fun W => show Calls Tryz.prog 42 #[.string ⟨#[0]⟩, .int .i64 118] W fun e w' => e = .returned (.string ⟨(List.replicate 118 0).toArray⟩) ∧ Below W.heap.size W w' from by
      have h1 := Tryz.strings_Repeat ⟨#[0]⟩ 118 W (by omega) (by show 1 * 118 ≤ _; omega)
      have e : (⟨(Lib.repeatL (⟨#[0]⟩ : ByteArray).data.toList 118).toArray⟩ : ByteArray) = ⟨(List.replicate 118 0).toArray⟩ := Lg.repeat_zero 118
      rw [e] at h1
      exact h1)
    have HADD := Lib.hid (fun (x : ByteArray) (hx : x.data.toList = Ck.placeL n) W => show (Op.stringOp .add x ⟨(List.replicate 118 0).toArray⟩).run Tryz.prog W = .ok (.string (Ck.sectorB n)) W from by
      have hl : x.data.toList.length = x.size := by simp
      rw [hx, Ck.placeL_len] at hl
      have hz : (⟨(List.replicate 118 0).toArray⟩ : ByteArray).size = 118 := by show (List.replicate 118 (0 : UInt8)).toArray.size = _; simp
      have h9 := run_string_add_sum (P := Tryz.prog) W x ⟨(List.replicate 118 0).toArray⟩ (by omega)
      have e : x ++ ⟨(List.replicate 118 0).toArray⟩ = Ck.sectorB n := by
        apply ByteArray.ext
        rw [ByteArray.data_append]
        apply Array.toList_inj.1
        rw [Array.toList_append, hx, Ck.sectorB_list]
      rw [e] at h9
      exact h9)
    have HLEN := Lib.hid (Ck.placeL_len n)
    generalize (⟨(List.replicate 118 0).toArray⟩ : ByteArray) = z at HZ HADD
    generalize Ck.sectorB n = sb at HADD HWR
    generalize Ck.placeL n = pl at HSE HADD HLEN
    obtain ⟨L, left, down⟩ := d
    dsimp only [diskV] at HO HWR ⊢
    go_enter Tryz.func16, Tryz.ntmps16
    go_upto_region 1 with fail
    have H0 := Lib.hid (show BxL w.heap.size w [(#[.slice A L.length c, .int .i64 left, .bool down], 29), (#[.slice none 0 0, .int .i64 0, .bool false], 29)] ((w.alloc (.cells #[.slice A L.length c, .int .i64 left, .bool down] 29)).alloc (.cells #[.slice none 0 0, .int .i64 0, .bool false] 29)) from (((BxL.nil (Below.refl w.heap.size w)).new (by simp) #[.slice A L.length c, .int .i64 left, .bool down] 29).new (by simp) #[.slice none 0 0, .int .i64 0, .bool false] 29))
    obtain ⟨W0, hW0⟩ : ∃ W, W = ((w.alloc (.cells #[.slice A L.length c, .int .i64 left, .bool down] 29)).alloc (.cells #[.slice none 0 0, .int .i64 0, .bool false] 29)) := ⟨_, rfl⟩
    rw [← hW0] at H0 ⊢
    clear hW0
    go_upto_region 4 with (go_at_call 40; (with_reducible refine (HSE.out _).mono ?_); rintro e w1 ⟨x, rfl, hx, hb1⟩)
    have hxs : x.size = 10 := by
      have h1 : x.data.toList.length = x.size := by simp
      rw [hx, HLEN.out] at h1
      omega
    have hw : IntKind.i64.wrap (128 - (x.size : Int)) = 118 := by rw [hxs]; decide
    have hadd := HADD.out x hx
    have HB := Lib.hid (H0.out.step hb1).drew
    clear hb1 hxs hx H0 HSE HADD HLEN
    refine wp_region_held_drew (S := (fun u => u.heap[w.heap.size]? = some (.cells #[.slice A L.length c, .int .i64 left, .bool down] 29 (0, 0)))) (by kernel_rfl) ?_ (fun hHeld => ?_)
    · first | exact hSn | exact HB.out.get0
    refine tkV 0 (some 16) (v := .agg #[.slice A L.length c, .int .i64 left, .bool down]) rfl (yieldsIf_load_mid (by rfl) 29 (.tmp 2) rfl w.heap.size 0 (by rfl) #[.slice A L.length c, .int .i64 left, .bool down].toList _ (fun u hu => (by intro j v hj; rw [Nat.zero_add, blkCell hu]; simpa using hj)) Tryz.underlying29 (by kernel_rfl) (by kernel_rfl)) ?_
    try simp only [Act.put, List.setIfInBounds_toArray, List.set_cons_zero, List.set_cons_succ]
    refine tkW 1 (some 17) (v := ?_) rfl ?_ ?_
    rotate_left
    · intro u hSu; clear hSu; go_simp; (try with_reducible rfl)
    try simp only [Act.put, List.setIfInBounds_toArray, List.set_cons_zero, List.set_cons_succ]
    refine tkW 2 (some 18) (v := ?_) rfl ?_ ?_
    rotate_left
    · intro u hSu; clear hSu; go_simp; (try with_reducible rfl)
    try simp only [Act.put, List.setIfInBounds_toArray, List.set_cons_zero, List.set_cons_succ]
    refine tkW 3 (some 19) (v := ?_) rfl ?_ ?_
    rotate_left
    · intro u hSu; clear hSu; go_simp; (try with_reducible rfl)
    try simp only [Act.put, List.setIfInBounds_toArray, List.set_cons_zero, List.set_cons_succ]
    refine tkW 4 (some 20) (v := ?_) rfl ?_ ?_
    rotate_left
    · intro u hSu; clear hSu; go_simp; (try with_reducible rfl)
    try simp only [Act.put, List.setIfInBounds_toArray, List.set_cons_zero, List.set_cons_succ]
    refine rdH 5 (some 21) rfl (fun K hK => ?_)
    go_simp
    refine (HZ.out _).mono ?_; rintro e w2 ⟨rfl, hb2⟩
    have HB := Lib.hid (HB.out.step hb2)
    clear hb2
    have hSn := HB.out.get0
    refine hK.out _ _ ?_ (fun hHeld => ?_)
    · first | exact hSn | exact HB.out.get0
    clear hK K
    try simp only [Act.put, List.setIfInBounds_toArray, List.set_cons_zero, List.set_cons_succ]
    refine tkW 6 (some 22) (v := ?_) rfl ?_ ?_
    rotate_left
    · intro u hSu; clear hSu; go_simp; (try with_reducible rfl)
    try simp only [Act.put, List.setIfInBounds_toArray, List.set_cons_zero, List.set_cons_succ]
    refine rdH 7 (some 23) rfl (fun K hK => ?_)
    go_simp
    refine (HWR.out _ HB.out.below).mono ?_; rintro e w3 ⟨A', c', rfl, hd3, ha3, hb3⟩
    have HAA := Lib.hid (ha3.imp id (fun h => h.mono HB.out.below.size))
    have HB := Lib.hid (HB.out.step hb3)
    have HDD := Lib.hid hd3
    clear hd3 ha3 hb3
    try clear hSn
    have hSn := HB.out.get0
    refine hK.out _ _ ?_ (fun hHeld => ?_)
    · first | exact hSn | exact HB.out.get0
    clear hK K
    refine tkW 8 (some 24) (v := ?_) rfl ?_ ?_
    rotate_left
    · intro u hSu; clear hSu; go_simp; (try with_reducible rfl)
    try simp only [Act.put, List.setIfInBounds_toArray, List.set_cons_zero, List.set_cons_succ]
    refine tkW 9 (some 25) (v := ?_) rfl ?_ ?_
    rotate_left
    · intro u hSu; clear hSu; go_simp; (try with_reducible rfl)
    try simp only [Act.put, List.setIfInBounds_toArray, List.set_cons_zero, List.set_cons_succ]
    refine rdH 10 none rfl (fun K hK => ?_)
    refine wantedIf (by rfl) ?_
    refine wp_store_whole 29 (.tmp 4) (.tmp 24) rfl (w.heap.size + 1) #[.slice A' d'.sectors.length c', .int .i64 d'.left, .bool d'.down] _ _ rfl rfl HB.out.get1 (by kernel_rfl) (by kernel_rfl) (by kernel_rfl) ?_
    have HAP := Lib.hid ((Apart.refl (w.heap.size + 1) (w.heap.size + 2) w3).row (w.heap.size + 1) #[.slice A' d'.sectors.length c', .int .i64 d'.left, .bool d'.down] (Nat.le_refl _) (Nat.lt_succ_self _))
    have HG := Lib.hid HB.out.get1
    have HB := Lib.hid (HB.out.row 1 #[.slice A' d'.sectors.length c', .int .i64 d'.left, .bool d'.down] _ rfl)
    clear hSn
    have hSn := HB.out.get0
    refine hK.out _ _ ?_ (fun hHeld => ?_)
    · first | exact hSn | exact HB.out.get0
    clear hK K
    try simp only [Act.put]
    refine tkW 11 (some 5) (v := ?_) rfl ?_ ?_
    rotate_left
    · intro u hSu; clear hSu; go_simp; (try with_reducible rfl)
    try simp only [Act.put, List.setIfInBounds_toArray, List.set_cons_zero, List.set_cons_succ]
    refine wpAnyH_done (by kernel_rfl) ?_ _
    clear hHeld hSn
    go_wp2_with fail
    refine bodyPost_ret (v := .tuple #[.agg #[.slice A' d'.sectors.length c', .int .i64 d'.left, .bool d'.down], .int .i64 e']) (results_cell2 rfl _ _ rfl (load_whole HB.out.get1 Tryz.underlying29 (by kernel_rfl) (by kernel_rfl)) rfl) rfl ?_
    exact HO.out (d', e') A' c' _ HX.out ⟨HDD.out.secs.offRow _ _ (fun h0 ad e => HAA.out.elim (fun h1 => by rw [h1] at e; have h5 := HOLD.out h0 ad e; intro e1; omega) (fun h1 => by intro e1; obtain ⟨_, cs0, fr0, h2⟩ := h1 ad e; rw [e1, HG.out] at h2; injection h2 with h2; injection h2 with _ h2; exact absurd h2 (by decide))), HDD.out.small⟩ (HAA.out.imp id (fun h => h.row _ _)) HB.out.below
set_option maxRecDepth 100000 in
set_option maxHeartbeats 8000000 in
theorem rset_any (d : Lg.Dk) (hlb : -9223372036854775808 ≤ d.left ∧ d.left ≤ 9223372036854775807) (A : Option Addr) (c : Nat) (n : Int) (w : World) (h : DiskR w d A c) :
    Calls Tryz.prog 17 #[diskV d A c, .int .i64 n] w (WriteOut (Ck.setD d n) A w) := by
  have HNO := Lib.hid (@Ck.setD_no d n)
  have HYE := Lib.hid (@Ck.setD_yes d n)
  have HWR := Lib.hid (fun W (hb : Below w.heap.size w W) => rwrite_any d hlb A c 0 (Ck.sectorB n) W (h.below hb))
  have HO := Lib.hid (fun x A' c' w' (hx : Ck.setD d n = x) (h1 : DiskR w' x.1 A' c') (h2 : A' = A ∨ NewT w.heap.size w' 9 A') (h3 : Below w.heap.size w w') => show WriteOut (Ck.setD d n) A w (.returned (.tuple #[diskV x.1 A' c', .int .i64 x.2])) w' from ⟨A', c', by rw [hx], by rw [hx]; exact h1, h2, h3⟩)
  have HD := Lib.hid (fun w' (hb : Below w.heap.size w w') => h.below hb)
  generalize WriteOut (Ck.setD d n) A w = Q at HO ⊢
  generalize Ck.setD d n = X at HNO HYE HO
  by_cases hno : n < 0 ∨ 1099511627776 ≤ n
  · have HX := Lib.hid (HNO.out hno)
    have hor : n < 0 ∨ (¬ n < 0 ∧ 1099511627776 ≤ n) := by omega
    clear HNO HYE HWR h hno hlb
    obtain ⟨L, left, down⟩ := d
    dsimp only [diskV] at HO ⊢
    rcases hor with hn | ⟨hn, hn2⟩
    ·
      go_enter Tryz.func17, Tryz.ntmps17
      go_upto_region 1 with fail
      have H0 := Lib.hid (show BxL w.heap.size w [(#[.slice A L.length c, .int .i64 left, .bool down], 29), (#[.slice none 0 0, .int .i64 0, .bool false], 29)] ((w.alloc (.cells #[.slice A L.length c, .int .i64 left, .bool down] 29)).alloc (.cells #[.slice none 0 0, .int .i64 0, .bool false] 29)) from (((BxL.nil (Below.refl w.heap.size w)).new (by simp) #[.slice A L.length c, .int .i64 left, .bool down] 29).new (by simp) #[.slice none 0 0, .int .i64 0, .bool false] 29))
      obtain ⟨W0, hW0⟩ : ∃ W, W = ((w.alloc (.cells #[.slice A L.length c, .int .i64 left, .bool down] 29)).alloc (.cells #[.slice none 0 0, .int .i64 0, .bool false] 29)) := ⟨_, rfl⟩
      rw [← hW0] at H0 ⊢
      clear hW0
      go_wp2_with (first
        | (with_reducible refine listLoad (by kernel_rfl) 29 (.tmp 2) rfl w.heap.size rfl #[.slice A L.length c, .int .i64 left, .bool down] _ H0.out.get0 _ Tryz.underlying29 (by kernel_rfl) (by kernel_rfl) ?_)
        | (with_reducible refine listStore (by kernel_rfl) 29 (.tmp 4) (.tmp 12) rfl (w.heap.size + 1) #[.slice A L.length c, .int .i64 left, .bool down] _ _ rfl rfl H0.out.get1 (by kernel_rfl) (by kernel_rfl) (by kernel_rfl) ?_))
      refine bodyPost_ret (v := .tuple #[.agg #[.slice A L.length c, .int .i64 left, .bool down], .int .i64 1]) (results_cell2 rfl _ _ rfl (load_whole (setRow_heap _ _ _ _ _ _ H0.out.get1) Tryz.underlying29 (by kernel_rfl) (by kernel_rfl)) rfl) rfl ?_
      exact HO.out _ A c _ HX.out (HD.out _ ((H0.out.row 1 _ _ rfl).below)) (.inl rfl) ((H0.out.row 1 _ _ rfl).below)
    ·
      go_enter Tryz.func17, Tryz.ntmps17
      go_upto_region 1 with fail
      have H0 := Lib.hid (show BxL w.heap.size w [(#[.slice A L.length c, .int .i64 left, .bool down], 29), (#[.slice none 0 0, .int .i64 0, .bool false], 29)] ((w.alloc (.cells #[.slice A L.length c, .int .i64 left, .bool down] 29)).alloc (.cells #[.slice none 0 0, .int .i64 0, .bool false] 29)) from (((BxL.nil (Below.refl w.heap.size w)).new (by simp) #[.slice A L.length c, .int .i64 left, .bool down] 29).new (by simp) #[.slice none 0 0, .int .i64 0, .bool false] 29))
      obtain ⟨W0, hW0⟩ : ∃ W, W = ((w.alloc (.cells #[.slice A L.length c, .int .i64 left, .bool down] 29)).alloc (.cells #[.slice none 0 0, .int .i64 0, .bool false] 29)) := ⟨_, rfl⟩
      rw [← hW0] at H0 ⊢
      clear hW0
      go_wp2_with (first
        | (with_reducible refine listLoad (by kernel_rfl) 29 (.tmp 2) rfl w.heap.size rfl #[.slice A L.length c, .int .i64 left, .bool down] _ H0.out.get0 _ Tryz.underlying29 (by kernel_rfl) (by kernel_rfl) ?_)
        | (with_reducible refine listStore (by kernel_rfl) 29 (.tmp 4) (.tmp 12) rfl (w.heap.size + 1) #[.slice A L.length c, .int .i64 left, .bool down] _ _ rfl rfl H0.out.get1 (by kernel_rfl) (by kernel_rfl) (by kernel_rfl) ?_))
      refine bodyPost_ret (v := .tuple #[.agg #[.slice A L.length c, .int .i64 left, .bool down], .int .i64 1]) (results_cell2 rfl _ _ rfl (load_whole (setRow_heap _ _ _ _ _ _ H0.out.get1) Tryz.underlying29 (by kernel_rfl) (by kernel_rfl)) rfl) rfl ?_
      exact HO.out _ A c _ HX.out (HD.out _ ((H0.out.row 1 _ _ rfl).below)) (.inl rfl) ((H0.out.row 1 _ _ rfl).below)
  · have HX := Lib.hid (HYE.out hno)
    have hn1 : ¬ n < 0 := by omega
    have hn2 : ¬ 1099511627776 ≤ n := by omega
    have hwlen := @Lg.writeD_len d 0 (Ck.sectorB n)
    have hold0 := fun h0 => h.secs.old h0
    generalize Lg.writeD d 0 (Ck.sectorB n) = y at HWR HX hwlen
    obtain ⟨d', e'⟩ := y
    have HOLD := Lib.hid (show 0 < d'.sectors.length → ∀ ad, A = some ad → ad.block < w.heap.size from fun h0 => hold0 (by rw [← hwlen]; exact h0))
    clear HNO HYE h hno hlb HD hwlen hold0
    have HSE := Lib.hid (fun W => rsector_any n W)
    generalize Ck.sectorB n = sb at HSE HWR
    obtain ⟨L, left, down⟩ := d
    dsimp only [diskV] at HO HWR ⊢
    go_enter Tryz.func17, Tryz.ntmps17
    go_upto_region 1 with fail
    have H0 := Lib.hid (show BxL w.heap.size w [(#[.slice A L.length c, .int .i64 left, .bool down], 29), (#[.slice none 0 0, .int .i64 0, .bool false], 29)] ((w.alloc (.cells #[.slice A L.length c, .int .i64 left, .bool down] 29)).alloc (.cells #[.slice none 0 0, .int .i64 0, .bool false] 29)) from (((BxL.nil (Below.refl w.heap.size w)).new (by simp) #[.slice A L.length c, .int .i64 left, .bool down] 29).new (by simp) #[.slice none 0 0, .int .i64 0, .bool false] 29))
    obtain ⟨W0, hW0⟩ : ∃ W, W = ((w.alloc (.cells #[.slice A L.length c, .int .i64 left, .bool down] 29)).alloc (.cells #[.slice none 0 0, .int .i64 0, .bool false] 29)) := ⟨_, rfl⟩
    rw [← hW0] at H0 ⊢
    clear hW0
    go_upto_region 3 with fail
    have HB := Lib.hid H0.out.drew
    clear H0
    refine wp_region_held_drew (S := (fun u => u.heap[w.heap.size]? = some (.cells #[.slice A L.length c, .int .i64 left, .bool down] 29 (0, 0)))) (by kernel_rfl) ?_ (fun hHeld => ?_)
    · first | exact hSn | exact HB.out.get0
    refine tkV 0 (some 13) (v := .agg #[.slice A L.length c, .int .i64 left, .bool down]) rfl (yieldsIf_load_mid (by rfl) 29 (.tmp 2) rfl w.heap.size 0 (by rfl) #[.slice A L.length c, .int .i64 left, .bool down].toList _ (fun u hu => (by intro j v hj; rw [Nat.zero_add, blkCell hu]; simpa using hj)) Tryz.underlying29 (by kernel_rfl) (by kernel_rfl)) ?_
    try simp only [Act.put, List.setIfInBounds_toArray, List.set_cons_zero, List.set_cons_succ]
    refine tkW 1 (some 14) (v := ?_) rfl ?_ ?_
    rotate_left
    · intro u hSu; clear hSu; go_simp; (try with_reducible rfl)
    try simp only [Act.put, List.setIfInBounds_toArray, List.set_cons_zero, List.set_cons_succ]
    refine rdH 2 (some 15) rfl (fun K hK => ?_)
    go_simp
    refine (HSE.out _).mono ?_; rintro e w2 ⟨rfl, hb2⟩
    have HB := Lib.hid (HB.out.step hb2)
    clear hb2
    have hSn := HB.out.get0
    refine hK.out _ _ ?_ (fun hHeld => ?_)
    · first | exact hSn | exact HB.out.get0
    clear hK K
    try simp only [Act.put, List.setIfInBounds_toArray, List.set_cons_zero, List.set_cons_succ]
    refine rdH 3 (some 16) rfl (fun K hK => ?_)
    go_simp
    refine (HWR.out _ HB.out.below).mono ?_; rintro e w3 ⟨A', c', rfl, hd3, ha3, hb3⟩
    have HAA := Lib.hid (ha3.imp id (fun h => h.mono HB.out.below.size))
    have HB := Lib.hid (HB.out.step hb3)
    have HDD := Lib.hid hd3
    clear hd3 ha3 hb3
    try clear hSn
    have hSn := HB.out.get0
    refine hK.out _ _ ?_ (fun hHeld => ?_)
    · first | exact hSn | exact HB.out.get0
    clear hK K
    refine tkW 4 (some 17) (v := ?_) rfl ?_ ?_
    rotate_left
    · intro u hSu; clear hSu; go_simp; (try with_reducible rfl)
    try simp only [Act.put, List.setIfInBounds_toArray, List.set_cons_zero, List.set_cons_succ]
    refine tkW 5 (some 18) (v := ?_) rfl ?_ ?_
    rotate_left
    · intro u hSu; clear hSu; go_simp; (try with_reducible rfl)
    try simp only [Act.put, List.setIfInBounds_toArray, List.set_cons_zero, List.set_cons_succ]
    refine rdH 6 none rfl (fun K hK => ?_)
    refine wantedIf (by rfl) ?_
    refine wp_store_whole 29 (.tmp 4) (.tmp 17) rfl (w.heap.size + 1) #[.slice A' d'.sectors.length c', .int .i64 d'.left, .bool d'.down] _ _ rfl rfl HB.out.get1 (by kernel_rfl) (by kernel_rfl) (by kernel_rfl) ?_
    have HAP := Lib.hid ((Apart.refl (w.heap.size + 1) (w.heap.size + 2) w3).row (w.heap.size + 1) #[.slice A' d'.sectors.length c', .int .i64 d'.left, .bool d'.down] (Nat.le_refl _) (Nat.lt_succ_self _))
    have HG := Lib.hid HB.out.get1
    have HB := Lib.hid (HB.out.row 1 #[.slice A' d'.sectors.length c', .int .i64 d'.left, .bool d'.down] _ rfl)
    clear hSn
    have hSn := HB.out.get0
    refine hK.out _ _ ?_ (fun hHeld => ?_)
    · first | exact hSn | exact HB.out.get0
    clear hK K
    try simp only [Act.put]
    refine tkW 7 (some 5) (v := ?_) rfl ?_ ?_
    rotate_left
    · intro u hSu; clear hSu; go_simp; (try with_reducible rfl)
    try simp only [Act.put, List.setIfInBounds_toArray, List.set_cons_zero, List.set_cons_succ]
    refine wpAnyH_done (by kernel_rfl) ?_ _
    clear hHeld hSn
    go_wp2_with fail
    refine bodyPost_ret (v := .tuple #[.agg #[.slice A' d'.sectors.length c', .int .i64 d'.left, .bool d'.down], .int .i64 e']) (results_cell2 rfl _ _ rfl (load_whole HB.out.get1 Tryz.underlying29 (by kernel_rfl) (by kernel_rfl)) rfl) rfl ?_
    exact HO.out (d', e') A' c' _ HX.out ⟨HDD.out.secs.offRow _ _ (fun h0 ad e => HAA.out.elim (fun h1 => by rw [h1] at e; have h5 := HOLD.out h0 ad e; intro e1; omega) (fun h1 => by intro e1; obtain ⟨_, cs0, fr0, h2⟩ := h1 ad e; rw [e1, HG.out] at h2; injection h2 with h2; injection h2 with _ h2; exact absurd h2 (by decide))), HDD.out.small⟩ (HAA.out.imp id (fun h => h.row _ _)) HB.out.below
end Go.Proofs.YthfglhafphfhiaaGreat
/- The walks over package txn: place. -/
namespace Tx
end Tx
namespace Go.Proofs.YthfglhafphfhiaaGreat
open Go.RowKit
end Go.Proofs.YthfglhafphfhiaaGreat
/- The walks over the library's Clone and Delete of transactions; words for memory. -/
namespace Go.Proofs.YthfglhafphfhiaaGreat
open Go.RowKit
end Go.Proofs.YthfglhafphfhiaaGreat
/- The walk over package txn: Note. -/
namespace Tx
open Rc
end Tx
namespace Go.Proofs.YthfglhafphfhiaaGreat
open Go.RowKit
end Go.Proofs.YthfglhafphfhiaaGreat
/- Stores in memory; the walks over package txn: Find, Mark. -/
namespace Tx
end Tx
namespace Go.Proofs.YthfglhafphfhiaaGreat
open Go.RowKit
/-- A part of a block is read. -/
theorem listPart {P : Program} {ops : Array Oper} {rest : List Oper} {op : Oper} {a : Act} {w : World} {Q : Exit → Act → World → Prop} (hw : Region.wanted op (yielded ops a.tmps) = true) (ty : TypeId) (x : Operand) (ho : op.op = .load ty x)
    (b o : Nat) (hx : a.eval x = .pointer (some ⟨b, o, none⟩)) (part cells : Array Value) (t : TypeId) (hg : w.heap[b]? = some (.cells cells t (0, 0))) (hp : (cells.toList.drop o).take part.size = part.toList) (d : TypeDesc)
    (hu : P.underlying ty = some d) (hd : d.isRow = true) (hi : (P.info? ty).map (·.size) = some part.size)
    (h : wpList P ops Q rest (a.put op.dst (.agg part)) w) : wpList P ops Q (op :: rest) a w :=
  listWants hw fun K hK => by
    refine wp_load_mid ty x ho b o hx part.toList d (fun j v hj => ?_) hu hd (by simpa using hi) ?_
    · rw [blkCell hg]
      have h1 : j < part.size := by have := (List.getElem?_eq_some_iff.1 hj).1; simpa using this
      rw [← hp, List.getElem?_take, if_pos h1, List.getElem?_drop, Array.getElem?_toList] at hj
      exact hj
    · simpa using hK _ _ h
/-- A part of a block is written. -/
theorem listPut {P : Program} {ops : Array Oper} {rest : List Oper} {op : Oper} {a : Act} {w : World} {Q : Exit → Act → World → Prop} (hw : Region.wanted op (yielded ops a.tmps) = true) (ty : TypeId) (x y : Operand) (ho : op.op = .store ty x y)
    (b o : Nat) (part cur res : Array Value) (t : TypeId) (hx : a.eval x = .pointer (some ⟨b, o, none⟩)) (hy : a.eval y = .agg part) (hg : w.heap[b]? = some (.cells cur t (0, 0))) (hr : res = (cur.toList.take o ++ part.toList ++ cur.toList.drop (o + part.toList.length)).toArray)
    (hsz : decide (o + part.toList.length ≤ cur.size) = true) (hi : (P.info? ty).map (·.size) = some part.size) (h1 : part.all (·.oneCell') = true) (h : wpList P ops Q rest (a.put op.dst undef) (w.setRow b res)) : wpList P ops Q (op :: rest) a w :=
  listWants hw fun K hK => by
    have hst := run_storeCells_at P b o t part.toList 0 cur w hg (by rw [Nat.add_zero]; exact of_decide_eq_true hsz) (fun v hv => (Array.all_eq_true_iff_forall_mem.1 h1) v (by simpa using hv))
    rw [Nat.add_zero, ← hr] at hst
    have hrun : (storeVar ty ⟨b, o, none⟩ (.agg part)).run P w = .ok () (w.setRow b res) := by
      cases hq : P.info? ty with
      | none => simp [hq] at hi
      | some i =>
        have hs : part.size = i.size := by simp [hq] at hi; omega
        simp [storeVar, sizeOf, typeInfo, hq, Value.cells, hs, hst]
    unfold Oper.wp execOp
    simp only [ho, hx, hy, Instr.storeAt, Instr.sureAddr, Sem.run_bind, Sem.run_pure, Result.andThen_ok, hrun]
    exact hK _ _ h
/-- The places of a store's slices. -/
structure SP where
  A : Option Addr
  c : Nat
  F : Option Addr
  fn : Nat
  fc : Nat
  T : Option Addr
  tc : Nat
abbrev storeV (s : Tx.St) (p : SP) : Value := .agg #[.int .i64 s.zlog, .int .i64 s.zpages, .int .i64 s.zframes, .slice p.A s.disk.sectors.length p.c, .int .i64 s.disk.left, .bool s.disk.down, .int .i64 s.log.from_, .int .i64 s.log.n, .int .i64 s.log.end_, .int .i64 s.log.safe, .string s.log.tail, .slice p.F p.fn p.fc, .int .i64 s.hand, .slice p.T s.txns.length p.tc, .int .i64 s.next]
/-- A store's slices lie in memory, in blocks of their own kinds. -/
structure StoreR (w : World) (s : Tx.St) (p : SP) : Prop where
  dk : DiskR w s.disk p.A p.c
  dt : NewT 0 w 9 p.A
  tx : TxR w p.T p.tc s.txns
  tt : NewT 0 w 45 p.T
theorem StoreR.below {w w' : World} {s : Tx.St} {p : SP} (h : StoreR w s p) (hb : Below w.heap.size w w') : StoreR w' s p := ⟨h.dk.below hb, h.dt.below hb, h.tx.below hb, h.tt.below hb⟩
theorem StoreR.other {w : World} {s : Tx.St} {p : SP} (h : StoreR w s p) {b : Nat} {cur : Array Value} {t : TypeId} {fr : Nat × Nat} (hb : w.heap[b]? = some (.cells cur t fr)) (h1 : t ≠ 9) (h2 : t ≠ 45) (cs : Array Value) : StoreR (w.setRow b cs) s p :=
  ⟨⟨h.dt.readsRow h.dk.secs hb h1 cs, h.dk.small⟩, h.dt.row b cs, h.tt.readsRow h.tx hb h2 cs, h.tt.row b cs⟩
theorem StoreR.set {w : World} {s : Tx.St} {p : SP} (h : StoreR w s p) {b : Nat} {cur : Array Value} {t : TypeId} {fr : Nat × Nat} (hb : w.heap[b]? = some (.cells cur t fr)) (h1 : t ≠ 9) (h2 : t ≠ 45) (j : Nat) (v : Value) : StoreR (w.setCell ⟨b, j, none⟩ v) s p := by
  rw [setCell_eq_setRow w b j cur t fr v hb]
  exact h.other hb h1 h2 _
end Go.Proofs.YthfglhafphfhiaaGreat
