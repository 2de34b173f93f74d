/- The walks over package disk: Write. -/
import Derived.Test.YthfglhafphfhiaaHt02
import Derived.OrdersHeld
import Derived.Deep.RegionHeld3
import Derived.BigRegion
import Derived.Test.YthfglhafphfhiaaHt01
namespace Go.Proofs.Ythfglhafphfhiaa
open Go.RowKit
/-- What Write answers. -/
def WriteOut (x : Lg.Dk × Int) (A : Option Addr) (w : World) (e : Ending) (w' : World) : Prop :=
  ∃ A' c', e = .returned (.tuple #[diskV x.1 A' c', .int .i64 x.2]) ∧ DiskR w' x.1 A' c' ∧ (A' = A ∨ NewT w.heap.size w' 9 A') ∧ Below w.heap.size w w'
theorem clone_any (l : List ByteArray) (A : Option Addr) (c : Nat) (h0 : 0 < l.length) (hl : l.length ≤ 1000000) (w : World) (h : Reads w A c l.length (l.flatMap strC)) :
    Calls Try.prog 49 #[.slice A l.length c] w fun e w' => ∃ v, e = .returned v ∧ w'.ownsRow w.heap.size 9 1 v l.length (l.map Value.string) ∧ Below w.heap.size w w' := by
  obtain ⟨b, off, rfl, _, _, hcell⟩ := h h0
  refine (Try.slices_Clone_string b off l.length c l w (Nat.le_refl _) (by omega) (fun j hj => ?_)).mono ?_
  · have h1 := hcell j (.string l[j]) (by rw [strC_map]; simp [hj])
    rw [h1, List.getD_eq_getElem?_getD, List.getElem?_eq_getElem hj]
    rfl
  · rintro e w' ⟨v, rfl, h1, _, h2⟩
    rw [List.take_length] at h1
    exact ⟨v, rfl, h1, h2⟩
theorem write_keep {d : Lg.Dk} {A : Option Addr} {c : Nat} {w w' : World} {dn : Bool} {k : Int} {x : Lg.Dk × Int} (hx : x = (⟨d.sectors, d.left, dn⟩, k)) (h : DiskR w d A c) (hb : Below w.heap.size w w') : WriteOut x A w (.returned (.tuple #[.agg #[.slice A d.sectors.length c, .int .i64 d.left, .bool dn], .int .i64 k])) w' := by
  subst hx
  exact ⟨A, c, rfl, ⟨h.secs.below hb, h.small⟩, .inl rfl, hb⟩
theorem write_new {L : List ByteArray} {A A' : Option Addr} {n c : Nat} {w w' : World} {left : Int} {x : Lg.Dk × Int} (hx : x = (⟨L, left, false⟩, 0)) (hn : L.length = n) {vs : List Value} (h : Reads w' A' c n vs) {M : List ByteArray} {k : Nat} {b : ByteArray} (hv : vs = (M.map Value.string).set k (.string b)) (hL : L = M.set k b) (hl : L.length ≤ 1000000) (hA : NewT w.heap.size w' 9 A') (hb : Below w.heap.size w w') :
    WriteOut x A w (.returned (.tuple #[.agg #[.slice A' n c, .int .i64 left, .bool false], .int .i64 0])) w' := by
  subst hx hn
  refine ⟨A', c, rfl, ⟨?_, hl⟩, .inr hA, hb⟩
  rw [strC_map]
  show Reads w' A' c L.length (L.map Value.string)
  rw [hv] at h
  rw [hL, List.map_set]
  rw [hL] at h
  exact h
/-! walk -/
set_option maxRecDepth 100000 in
set_option maxHeartbeats 2000000 in
theorem dwrite_down (L : List ByteArray) (left : Int) (A : Option Addr) (c : Nat) (a : Int) (b : ByteArray) (x : Lg.Dk × Int) (hx : x = (⟨L, left, true⟩, 20)) (w : World) (h : DiskR w ⟨L, left, true⟩ A c) :
    Calls Try.prog 34 #[.agg #[.slice A L.length c, .int .i64 left, .bool true], .int .i64 a, .string b] w (WriteOut x A w) := by
  have HO := Lib.hid (fun w' hb => write_keep (dn := true) hx h (w' := w') hb)
  dsimp only at HO
  clear hx h
  go_enter Try.func34, Try.ntmps34
  go_upto_region 1 with fail
  have H0 := Lib.hid (show BxL w.heap.size w [(#[.slice A L.length c, .int .i64 left, .bool true], 42), (#[.slice none 0 0, .int .i64 0, .bool false], 42)] ((w.alloc (.cells #[.slice A L.length c, .int .i64 left, .bool true] 42)).alloc (.cells #[.slice none 0 0, .int .i64 0, .bool false] 42)) from ((BxL.nil (Below.refl w.heap.size w)).new (by simp) #[.slice A L.length c, .int .i64 left, .bool true] 42).new (by simp) #[.slice none 0 0, .int .i64 0, .bool false] 42)
  have hc0 := blkCell (H0.out.get 0 _ rfl)
  simp only [Nat.add_zero] at hc0
  obtain ⟨W0, hW0⟩ : ∃ W, W = (w.alloc (.cells #[.slice A L.length c, .int .i64 left, .bool true] 42)).alloc (.cells #[.slice none 0 0, .int .i64 0, .bool false] 42) := ⟨_, rfl⟩
  rw [← hW0] at H0 hc0 ⊢
  clear hW0
  have HX0 := Lib.hid (show W0.heap[w.heap.size]? = some (.cells #[.slice A L.length c, .int .i64 left, .bool true] 42 (0, 0)) from (by have h := H0.out.get 0 _ rfl; simpa using h))
  go_wp2_with (first | (with_reducible refine listLoad (by kernel_rfl) 42 (.tmp 3) rfl w.heap.size rfl #[.slice A L.length c, .int .i64 left, .bool true] _ HX0.out _ Try.underlying42 (by kernel_rfl) (by kernel_rfl) ?_) | (with_reducible refine listStore (by kernel_rfl) 42 (.tmp 6) (.tmp 11) rfl (w.heap.size + 1) #[.slice A L.length c, .int .i64 left, .bool true] _ _ rfl rfl (H0.out.get 1 _ rfl) (by kernel_rfl) (by kernel_rfl) (by kernel_rfl) ?_))
  refine bodyPost_ret (v := .tuple #[.agg #[.slice A L.length c, .int .i64 left, .bool true], .int .i64 20]) (results_cell2 rfl _ _ rfl (load_whole (setRow_heap _ _ _ _ _ _ (H0.out.get 1 _ rfl)) Try.underlying42 (by kernel_rfl) (by kernel_rfl)) rfl) rfl ?_
  exact HO.out _ ((H0.out.row 1 _ _ rfl).below)
set_option maxRecDepth 100000 in
set_option maxHeartbeats 2000000 in
theorem dwrite_arg (L : List ByteArray) (left : Int) (A : Option Addr) (c : Nat) (a : Int) (b : ByteArray) (hno : ¬ (Lg.hasD ⟨L, left, false⟩ a ∧ b.size = 128)) (x : Lg.Dk × Int) (hx : x = (⟨L, left, false⟩, 1)) (w : World) (h : DiskR w ⟨L, left, false⟩ A c) :
    Calls Try.prog 34 #[.agg #[.slice A L.length c, .int .i64 left, .bool false], .int .i64 a, .string b] w (WriteOut x A w) := by
  have HO := Lib.hid (fun w' hb => write_keep (dn := false) hx h (w' := w') hb)
  dsimp only at HO
  have HH := Lib.hid (fun W => has_any ⟨L, left, false⟩ A c a W)
  clear hx h
  by_cases hh : Lg.hasD ⟨L, left, false⟩ a
  · rw [decide_eq_true hh] at HH
    have hs : ¬ b.size = 128 := fun e => hno ⟨hh, e⟩
    have hs2 : ((b.size : Int) == 128) = false := by simp; omega
    have hs3 : ((b.size : Int) != 128) = true := by simp; omega
    have hs4 : (b.size == 128) = false := by simp; omega
    have hs5 : (b.size != 128) = true := by simp; omega
    clear hno hh
    dsimp only [diskV] at HH
    go_enter Try.func34, Try.ntmps34
    go_upto_region 1 with fail
    have H0 := Lib.hid (show BxL w.heap.size w [(#[.slice A L.length c, .int .i64 left, .bool false], 42), (#[.slice none 0 0, .int .i64 0, .bool false], 42)] ((w.alloc (.cells #[.slice A L.length c, .int .i64 left, .bool false] 42)).alloc (.cells #[.slice none 0 0, .int .i64 0, .bool false] 42)) from ((BxL.nil (Below.refl w.heap.size w)).new (by simp) #[.slice A L.length c, .int .i64 left, .bool false] 42).new (by simp) #[.slice none 0 0, .int .i64 0, .bool false] 42)
    have hc0 := blkCell (H0.out.get 0 _ rfl)
    simp only [Nat.add_zero] at hc0
    obtain ⟨W0, hW0⟩ : ∃ W, W = (w.alloc (.cells #[.slice A L.length c, .int .i64 left, .bool false] 42)).alloc (.cells #[.slice none 0 0, .int .i64 0, .bool false] 42) := ⟨_, rfl⟩
    rw [← hW0] at H0 hc0 ⊢
    clear hW0
    have HX0 := Lib.hid (show W0.heap[w.heap.size]? = some (.cells #[.slice A L.length c, .int .i64 left, .bool false] 42 (0, 0)) from (by have h := H0.out.get 0 _ rfl; simpa using h))
    go_upto_region 4 with (first | (with_reducible refine listLoad (by kernel_rfl) 42 (.tmp 3) rfl w.heap.size rfl #[.slice A L.length c, .int .i64 left, .bool false] _ HX0.out _ Try.underlying42 (by kernel_rfl) (by kernel_rfl) ?_) | (go_at_call 48; (with_reducible refine (HH.out _).mono ?_); rintro e w1 ⟨rfl, hb1⟩; have H1 := Lib.hid (H0.out.step hb1); clear hb1; have hc1 := blkCell (H1.out.get 0 _ rfl); simp only [Nat.add_zero] at hc1))
    have HX1 := Lib.hid (show w1.heap[w.heap.size]? = some (.cells #[.slice A L.length c, .int .i64 left, .bool false] 42 (0, 0)) from (by have h := H1.out.get 0 _ rfl; simpa using h))
    clear hs hs2 hs3 hs4 hs5
    go_wp2_with (first | (with_reducible refine listLoad (by kernel_rfl) 42 (.tmp 3) rfl w.heap.size rfl #[.slice A L.length c, .int .i64 left, .bool false] _ HX1.out _ Try.underlying42 (by kernel_rfl) (by kernel_rfl) ?_) | (with_reducible refine listStore (by kernel_rfl) 42 (.tmp 6) (.tmp 22) rfl (w.heap.size + 1) #[.slice A L.length c, .int .i64 left, .bool false] _ _ rfl rfl (H1.out.get 1 _ rfl) (by kernel_rfl) (by kernel_rfl) (by kernel_rfl) ?_))
    refine bodyPost_ret (v := .tuple #[.agg #[.slice A L.length c, .int .i64 left, .bool false], .int .i64 1]) (results_cell2 rfl _ _ rfl (load_whole (setRow_heap _ _ _ _ _ _ (H1.out.get 1 _ rfl)) Try.underlying42 (by kernel_rfl) (by kernel_rfl)) rfl) rfl ?_
    exact HO.out _ ((H1.out.row 1 _ _ rfl).below)
  · rw [decide_eq_false hh] at HH
    clear hno hh
    dsimp only [diskV] at HH
    go_enter Try.func34, Try.ntmps34
    go_upto_region 1 with fail
    have H0 := Lib.hid (show BxL w.heap.size w [(#[.slice A L.length c, .int .i64 left, .bool false], 42), (#[.slice none 0 0, .int .i64 0, .bool false], 42)] ((w.alloc (.cells #[.slice A L.length c, .int .i64 left, .bool false] 42)).alloc (.cells #[.slice none 0 0, .int .i64 0, .bool false] 42)) from ((BxL.nil (Below.refl w.heap.size w)).new (by simp) #[.slice A L.length c, .int .i64 left, .bool false] 42).new (by simp) #[.slice none 0 0, .int .i64 0, .bool false] 42)
    have hc0 := blkCell (H0.out.get 0 _ rfl)
    simp only [Nat.add_zero] at hc0
    obtain ⟨W0, hW0⟩ : ∃ W, W = (w.alloc (.cells #[.slice A L.length c, .int .i64 left, .bool false] 42)).alloc (.cells #[.slice none 0 0, .int .i64 0, .bool false] 42) := ⟨_, rfl⟩
    rw [← hW0] at H0 hc0 ⊢
    clear hW0
    have HX0 := Lib.hid (show W0.heap[w.heap.size]? = some (.cells #[.slice A L.length c, .int .i64 left, .bool false] 42 (0, 0)) from (by have h := H0.out.get 0 _ rfl; simpa using h))
    go_upto_region 4 with (first | (with_reducible refine listLoad (by kernel_rfl) 42 (.tmp 3) rfl w.heap.size rfl #[.slice A L.length c, .int .i64 left, .bool false] _ HX0.out _ Try.underlying42 (by kernel_rfl) (by kernel_rfl) ?_) | (go_at_call 48; (with_reducible refine (HH.out _).mono ?_); rintro e w1 ⟨rfl, hb1⟩; have H1 := Lib.hid (H0.out.step hb1); clear hb1; have hc1 := blkCell (H1.out.get 0 _ rfl); simp only [Nat.add_zero] at hc1))
    have HX1 := Lib.hid (show w1.heap[w.heap.size]? = some (.cells #[.slice A L.length c, .int .i64 left, .bool false] 42 (0, 0)) from (by have h := H1.out.get 0 _ rfl; simpa using h))
    go_wp2_with (first | (with_reducible refine listLoad (by kernel_rfl) 42 (.tmp 3) rfl w.heap.size rfl #[.slice A L.length c, .int .i64 left, .bool false] _ HX1.out _ Try.underlying42 (by kernel_rfl) (by kernel_rfl) ?_) | (with_reducible refine listStore (by kernel_rfl) 42 (.tmp 6) (.tmp 22) rfl (w.heap.size + 1) #[.slice A L.length c, .int .i64 left, .bool false] _ _ rfl rfl (H1.out.get 1 _ rfl) (by kernel_rfl) (by kernel_rfl) (by kernel_rfl) ?_))
    refine bodyPost_ret (v := .tuple #[.agg #[.slice A L.length c, .int .i64 left, .bool false], .int .i64 1]) (results_cell2 rfl _ _ rfl (load_whole (setRow_heap _ _ _ _ _ _ (H1.out.get 1 _ rfl)) Try.underlying42 (by kernel_rfl) (by kernel_rfl)) rfl) rfl ?_
    exact HO.out _ ((H1.out.row 1 _ _ rfl).below)
set_option maxRecDepth 100000 in
set_option maxHeartbeats 2000000 in
theorem dwrite_out (L : List ByteArray) (A : Option Addr) (c : Nat) (a : Int) (b : ByteArray) (hh : Lg.hasD ⟨L, 0, false⟩ a) (hs : b.size = 128) (x : Lg.Dk × Int) (hx : x = (⟨L, 0, true⟩, 20)) (w : World) (h : DiskR w ⟨L, 0, false⟩ A c) :
    Calls Try.prog 34 #[.agg #[.slice A L.length c, .int .i64 0, .bool false], .int .i64 a, .string b] w (WriteOut x A w) := by
  have HO := Lib.hid (fun w' hb => write_keep (dn := true) hx h (w' := w') hb)
  dsimp only at HO
  have HH := Lib.hid (fun W => has_any ⟨L, 0, false⟩ A c a W)
  rw [decide_eq_true hh] at HH
  have hs1 : ((b.size : Int) == 128) = true := by simp; omega
  have hs2 : ((b.size : Int) != 128) = false := by simp; omega
  have hs3 : (b.size == 128) = true := by simp; omega
  have hs4 : (b.size != 128) = false := by simp; omega
  clear hx h hs hh
  dsimp only [diskV] at HH
  go_enter Try.func34, Try.ntmps34
  go_upto_region 1 with fail
  have H0 := Lib.hid (show BxL w.heap.size w [(#[.slice A L.length c, .int .i64 0, .bool false], 42), (#[.slice none 0 0, .int .i64 0, .bool false], 42)] ((w.alloc (.cells #[.slice A L.length c, .int .i64 0, .bool false] 42)).alloc (.cells #[.slice none 0 0, .int .i64 0, .bool false] 42)) from ((BxL.nil (Below.refl w.heap.size w)).new (by simp) #[.slice A L.length c, .int .i64 0, .bool false] 42).new (by simp) #[.slice none 0 0, .int .i64 0, .bool false] 42)
  have hc0 := blkCell (H0.out.get 0 _ rfl)
  simp only [Nat.add_zero] at hc0
  obtain ⟨W0, hW0⟩ : ∃ W, W = (w.alloc (.cells #[.slice A L.length c, .int .i64 0, .bool false] 42)).alloc (.cells #[.slice none 0 0, .int .i64 0, .bool false] 42) := ⟨_, rfl⟩
  rw [← hW0] at H0 hc0 ⊢
  clear hW0
  have HX0 := Lib.hid (show W0.heap[w.heap.size]? = some (.cells #[.slice A L.length c, .int .i64 0, .bool false] 42 (0, 0)) from (by have h := H0.out.get 0 _ rfl; simpa using h))
  go_upto_region 5 with (first | (with_reducible refine listLoad (by kernel_rfl) 42 (.tmp 3) rfl w.heap.size rfl #[.slice A L.length c, .int .i64 0, .bool false] _ HX0.out _ Try.underlying42 (by kernel_rfl) (by kernel_rfl) ?_) | (go_at_call 48; (with_reducible refine (HH.out _).mono ?_); rintro e w1 ⟨rfl, hb1⟩; have H1 := Lib.hid (H0.out.step hb1); clear hb1; have hc1 := blkCell (H1.out.get 0 _ rfl); simp only [Nat.add_zero] at hc1))
  clear hs1 hs2 hs3 hs4
  have hz1 := blkFrozen (H1.out.get 0 _ rfl)
  simp only [Nat.add_zero] at hz1
  go_upto_region 7 with fail
  have HX2 := Lib.hid (show (w1.setCell ⟨w.heap.size, 2, none⟩ (.bool true)).heap[w.heap.size]? = some (.cells #[.slice A L.length c, .int .i64 0, .bool true] 42 (0, 0)) from by have h := (H1.out.set 0 2 (.bool true) _ rfl).get 0 _ rfl; simpa using h)
  have H2 := Lib.hid (H1.out.set 0 2 (.bool true) _ rfl)
  go_wp2_with (first | (with_reducible refine listLoad (by kernel_rfl) 42 (.tmp 3) rfl w.heap.size rfl #[.slice A L.length c, .int .i64 0, .bool true] _ HX2.out _ Try.underlying42 (by kernel_rfl) (by kernel_rfl) ?_) | (with_reducible refine listStore (by kernel_rfl) 42 (.tmp 6) (.tmp 28) rfl (w.heap.size + 1) #[.slice A L.length c, .int .i64 0, .bool true] _ _ rfl rfl (H2.out.get 1 _ rfl) (by kernel_rfl) (by kernel_rfl) (by kernel_rfl) ?_))
  refine bodyPost_ret (v := .tuple #[.agg #[.slice A L.length c, .int .i64 0, .bool true], .int .i64 20]) (results_cell2 rfl _ _ rfl (load_whole (setRow_heap _ _ _ _ _ _ (H2.out.get 1 _ rfl)) Try.underlying42 (by kernel_rfl) (by kernel_rfl)) rfl) rfl ?_
  exact HO.out _ ((H2.out.row 1 _ _ rfl).below)
set_option maxRecDepth 100000 in
set_option maxHeartbeats 2000000 in
theorem dwrite_on (L : List ByteArray) (left : Int) (hl0 : left ≠ 0) (hlb : -9223372036854775808 ≤ left ∧ left ≤ 9223372036854775807) (A : Option Addr) (c : Nat) (k : Nat) (b : ByteArray) (hk : k < L.length) (hs : b.size = 128) (x : Lg.Dk × Int) (hx : x = (⟨L.set k b, if 0 < left then left - 1 else left, false⟩, 0)) (w : World) (h : DiskR w ⟨L, left, false⟩ A c) :
    Calls Try.prog 34 #[.agg #[.slice A L.length c, .int .i64 left, .bool false], .int .i64 (k : Int), .string b] w (WriteOut x A w) := by
  have HH := Lib.hid (fun W => has_any ⟨L, left, false⟩ A c k W)
  rw [decide_eq_true (show Lg.hasD ⟨L, left, false⟩ (k : Int) from ⟨by omega, by show (k : Int) < (L.length : Int); omega⟩)] at HH
  have hs1 : ((b.size : Int) == 128) = true := by simp; omega
  have hs2 : ((b.size : Int) != 128) = false := by simp; omega
  have hs3 : (b.size == 128) = true := by simp; omega
  have hs4 : (b.size != 128) = false := by simp; omega
  have hl1 : (left == 0) = false := by simpa using hl0
  have hlen : L.length ≤ 1000000 := h.small
  have HC := Lib.hid (fun W (hb : Below w.heap.size w W) => clone_any L A c (by omega) hlen W (h.secs.below hb))
  have HX := Lib.hid hx
  have hkI : (k : Int) < (L.length : Int) := by omega
  clear hx h hs
  dsimp only [diskV] at HH
  go_enter Try.func34, Try.ntmps34
  go_upto_region 1 with fail
  have H0 := Lib.hid (show BxL w.heap.size w [(#[.slice A L.length c, .int .i64 left, .bool false], 42), (#[.slice none 0 0, .int .i64 0, .bool false], 42)] ((w.alloc (.cells #[.slice A L.length c, .int .i64 left, .bool false] 42)).alloc (.cells #[.slice none 0 0, .int .i64 0, .bool false] 42)) from ((BxL.nil (Below.refl w.heap.size w)).new (by simp) #[.slice A L.length c, .int .i64 left, .bool false] 42).new (by simp) #[.slice none 0 0, .int .i64 0, .bool false] 42)
  have hc0 := blkCell (H0.out.get 0 _ rfl)
  simp only [Nat.add_zero] at hc0
  obtain ⟨W0, hW0⟩ : ∃ W, W = (w.alloc (.cells #[.slice A L.length c, .int .i64 left, .bool false] 42)).alloc (.cells #[.slice none 0 0, .int .i64 0, .bool false] 42) := ⟨_, rfl⟩
  rw [← hW0] at H0 hc0 ⊢
  clear hW0
  have HX0 := Lib.hid (show W0.heap[w.heap.size]? = some (.cells #[.slice A L.length c, .int .i64 left, .bool false] 42 (0, 0)) from (by have h := H0.out.get 0 _ rfl; simpa using h))
  go_upto_region 8 with (first | (with_reducible refine listLoad (by kernel_rfl) 42 (.tmp 3) rfl w.heap.size rfl #[.slice A L.length c, .int .i64 left, .bool false] _ HX0.out _ Try.underlying42 (by kernel_rfl) (by kernel_rfl) ?_) | (go_at_call 48; (with_reducible refine (HH.out _).mono ?_); rintro e w1 ⟨rfl, hb1⟩; have H1 := Lib.hid (H0.out.step hb1); clear hb1; have hc1 := blkCell (H1.out.get 0 _ rfl); simp only [Nat.add_zero] at hc1))
  clear hs1 hs2 hs3 hs4 hl1 HH hc0 HX0 H0
  go_upto_region 9 with (first | (go_at_call 49; (with_reducible refine (HC.out _ H1.out.below).mono ?_); rintro e w2 ⟨v, rfl, ho, hb2⟩; obtain ⟨A2, c2, rfl⟩ := ownLen ho; have H2 := Lib.hid (H1.out.step hb2); have hz2 := blkFrozen (H2.out.get 0 _ rfl); have hc2 := blkCell (H2.out.get 0 _ rfl); simp only [Nat.add_zero] at hc2 hz2; clear hb2 hc1))
  clear hc2 hz2
  have hsz := H1.out.lt (i := 1) (by simp)
  have ho2 := ownSet ho ⟨w.heap.size, 0, none⟩ (.slice A2 L.length c2) (by show w.heap.size < _; omega)
  obtain ⟨g, cap, hv, hg, hgl, hcap, hcl, hfz, hset⟩ := ownAt ho2 hk
  injection hv with hv1 hv2 hv3
  subst hv1 hv3
  have H3 := Lib.hid (H2.out.set 0 0 (.slice (some ⟨g, 0, none⟩) L.length c2) _ rfl)
  simp only [Nat.add_zero] at H3
  obtain ⟨W3, hW3⟩ : ∃ W, W = w2.setCell ⟨w.heap.size, 0, none⟩ (.slice (some ⟨g, 0, none⟩) L.length c2) := ⟨_, rfl⟩
  rw [← hW3] at H3 hcl hfz hset hgl ⊢
  have hc3 := blkCell (H3.out.get 0 _ rfl)
  simp only [Nat.add_zero] at hc3
  rw [List.getElem?_eq_getElem (by simpa using hk)] at hcl
  simp only [List.getElem_map] at hcl
  have HSET := Lib.hid hset
  clear hW3 H2 ho ho2 hset
  go_upto_region 10 with fail
  have hgw : w.heap.size + 2 ≤ g := by omega
  have H4 := Lib.hid (H3.out.under (M := g) (by show w.heap.size + 2 ≤ g; exact hgw) ((Below.refl g W3).setCell (p := ⟨g, k, none⟩) (Nat.le_refl g) (.string b)))
  have HO4 := Lib.hid (HSET.out (.string b))
  obtain ⟨W4, hW4⟩ : ∃ W, W = W3.setCell ⟨g, k, none⟩ (.string b) := ⟨_, rfl⟩
  rw [← hW4] at H4 HO4 ⊢
  have hc4 := blkCell (H4.out.get 0 _ rfl)
  have hz4 := blkFrozen (H4.out.get 0 _ rfl)
  simp only [Nat.add_zero] at hc4 hz4
  clear hW4 hc3 hcl hfz HSET
  by_cases hp : 0 < left
  · rw [if_pos hp] at HX
    have hwl : IntKind.i64.wrap (left - 1) = left - 1 := IntWalk.i64_in _ (by omega)
    go_upto_region 12 with fail
    have H5 := Lib.hid (H4.out.set 0 1 (.int .i64 (left - 1)) _ rfl)
    have HX5 := Lib.hid (show (W4.setCell ⟨w.heap.size, 1, none⟩ (.int .i64 (left - 1))).heap[w.heap.size]? = some (.cells #[.slice (some ⟨g, 0, none⟩) L.length c2, .int .i64 (left - 1), .bool false] 42 (0, 0)) from by have h := H5.out.get 0 _ rfl; simpa using h)
    have HO5 := Lib.hid (ownSet HO4.out ⟨w.heap.size, 1, none⟩ (.int .i64 (left - 1)) (by show w.heap.size < _; omega))
    go_wp2_with (first | (with_reducible refine listLoad (by kernel_rfl) 42 (.tmp 3) rfl w.heap.size rfl #[.slice (some ⟨g, 0, none⟩) L.length c2, .int .i64 (left - 1), .bool false] _ HX5.out _ Try.underlying42 (by kernel_rfl) (by kernel_rfl) ?_) | (with_reducible refine listStore (by kernel_rfl) 42 (.tmp 6) (.tmp 45) rfl (w.heap.size + 1) #[.slice (some ⟨g, 0, none⟩) L.length c2, .int .i64 (left - 1), .bool false] _ _ rfl rfl (H5.out.get 1 _ rfl) (by kernel_rfl) (by kernel_rfl) (by kernel_rfl) ?_))
    refine bodyPost_ret (v := .tuple #[.agg #[.slice (some ⟨g, 0, none⟩) L.length c2, .int .i64 (left - 1), .bool false], .int .i64 0]) (results_cell2 rfl _ _ rfl (load_whole (setRow_heap _ _ _ _ _ _ (H5.out.get 1 _ rfl)) Try.underlying42 (by kernel_rfl) (by kernel_rfl)) rfl) rfl ?_
    exact write_new HX.out (by rw [List.length_set]) ((own_reads HO5.out).offRow _ _ (fun _ ad e => (by injection e with e; rw [← e]; show g ≠ w.heap.size + 1; omega))) rfl rfl (by rw [List.length_set]; exact hlen) (((NewT.own HO5.out).row _ _).mono (by omega)) ((H5.out.row 1 _ _ rfl).below)
  · rw [if_neg hp] at HX
    have HX4 := Lib.hid (show W4.heap[w.heap.size]? = some (.cells #[.slice (some ⟨g, 0, none⟩) L.length c2, .int .i64 left, .bool false] 42 (0, 0)) from (by have h := H4.out.get 0 _ rfl; simpa using h))
    go_wp2_with (first | (with_reducible refine listLoad (by kernel_rfl) 42 (.tmp 3) rfl w.heap.size rfl #[.slice (some ⟨g, 0, none⟩) L.length c2, .int .i64 left, .bool false] _ HX4.out _ Try.underlying42 (by kernel_rfl) (by kernel_rfl) ?_) | (with_reducible refine listStore (by kernel_rfl) 42 (.tmp 6) (.tmp 45) rfl (w.heap.size + 1) #[.slice (some ⟨g, 0, none⟩) L.length c2, .int .i64 left, .bool false] _ _ rfl rfl (H4.out.get 1 _ rfl) (by kernel_rfl) (by kernel_rfl) (by kernel_rfl) ?_))
    refine bodyPost_ret (v := .tuple #[.agg #[.slice (some ⟨g, 0, none⟩) L.length c2, .int .i64 left, .bool false], .int .i64 0]) (results_cell2 rfl _ _ rfl (load_whole (setRow_heap _ _ _ _ _ _ (H4.out.get 1 _ rfl)) Try.underlying42 (by kernel_rfl) (by kernel_rfl)) rfl) rfl ?_
    exact write_new HX.out (by rw [List.length_set]) ((own_reads HO4.out).offRow _ _ (fun _ ad e => (by injection e with e; rw [← e]; show g ≠ w.heap.size + 1; omega))) rfl rfl (by rw [List.length_set]; exact hlen) (((NewT.own HO4.out).row _ _).mono (by omega)) ((H4.out.row 1 _ _ rfl).below)
theorem dwrite_any (d : Lg.Dk) (hlb : -9223372036854775808 ≤ d.left ∧ d.left ≤ 9223372036854775807) (A : Option Addr) (c : Nat) (a : Int) (b : ByteArray) (w : World) (h : DiskR w d A c) :
    Calls Try.prog 34 #[diskV d A c, .int .i64 a, .string b] w (WriteOut (Lg.writeD d a b) A w) := by
  obtain ⟨L, left, down⟩ := d
  cases down with
  | true => exact dwrite_down L left A c a b _ (by unfold Lg.writeD; rw [if_pos rfl]) w h
  | false =>
    by_cases h1 : Lg.hasD ⟨L, left, false⟩ a ∧ b.size = 128
    · by_cases h2 : left = 0
      · subst h2
        exact dwrite_out L A c a b h1.1 h1.2 _ (by unfold Lg.writeD; rw [if_neg (by simp), if_neg (fun hn => hn h1), if_pos rfl]) w h
      · obtain ⟨k, rfl⟩ := Int.eq_ofNat_of_zero_le h1.1.1
        have hk : k < L.length := by have h3 := h1.1.2; simp only at h3; omega
        exact dwrite_on L left h2 hlb A c k b hk h1.2 _ (by unfold Lg.writeD; rw [if_neg (by simp), if_neg (fun hn => hn h1), if_neg h2]; simp) w h
    · exact dwrite_arg L left A c a b h1 _ (by unfold Lg.writeD; rw [if_neg (by simp), if_pos h1]) w h
end Go.Proofs.Ythfglhafphfhiaa
/- A region that draws its order, and whose last store turns what its loads read: a condition on the world that is shown anew behind each operation until a named one has come up. -/
namespace Go
section
variable {P : Program} {ops : Array Oper} {Q : Exit → Act → World → Prop} {md : Region.Mode} {S : World → Prop} {z : Nat}
/-- Whatever has come up, what it waits for has come up. -/
def ShutDown (md : Region.Mode) (ops : Array Oper) (l : Array Bool) : Prop :=
  ∀ j o, ops[j]? = some o → l.getD j false = true → ∀ e ∈ o.after, Region.binds md e = true → l.getD e.on false = true
def shutDownB (md : Region.Mode) (ops : Array Oper) (l : Array Bool) : Bool :=
  (List.range ops.size).all fun j => !l.getD j false || match ops[j]? with
    | none => true
    | some o => o.after.all fun e => !Region.binds md e || l.getD e.on false
theorem shutDown_of {l : Array Bool} (h : shutDownB md ops l = true) : ShutDown md ops l := by
  intro j o ho hj e he hb
  unfold shutDownB at h
  rw [List.all_eq_true] at h
  have h1 := h j (List.mem_range.2 (Array.getElem?_eq_some_iff.1 ho).1)
  rw [ho, hj] at h1
  simp only [Bool.not_true, Bool.false_or] at h1
  have h2 := Array.all_eq_true_iff_forall_mem.1 h1 e he
  rw [hb] at h2
  simpa using h2
theorem getD_swap {l : Array Bool} {i : Nat} (h : l.getD i true = false) : l.getD i false = false := by
  rcases Nat.lt_or_ge i l.size with h' | h'
  · simp [h'] at h ⊢; exact h
  · simp [Array.getElem?_eq_none h'] at h
theorem getD_setSelf {l : Array Bool} {i : Nat} (h : l.getD i true = false) : (l.setIfInBounds i true).getD i false = true := by
  rcases Nat.lt_or_ge i l.size with h' | h'
  · simp [h']
  · simp [Array.getElem?_eq_none h'] at h
theorem shutDown_set {l : Array Bool} {j : Nat} (h : ShutDown md ops l) (hj : j ∈ Region.ready md ops l) : ShutDown md ops (l.setIfInBounds j true) := by
  obtain ⟨h0, oj, hoj, hall⟩ := mem_ready.1 hj
  intro k o hk hl e he hb
  by_cases hkj : j = k
  · subst hkj
    rw [hoj] at hk
    injection hk with hk
    subst hk
    exact getD_set_true (hall e he hb)
  · rw [getD_set_ne false hkj] at hl
    exact getD_set_true (h k o hk hl e he hb)
/-- Each of a list waits for the one ahead of it. -/
def pathB (md : Region.Mode) (ops : Array Oper) : List Nat → Bool
  | [] => true
  | [_] => true
  | a :: b :: r => (match ops[b]? with
    | none => false
    | some o => o.after.any fun e => Region.binds md e && e.on == a) && pathB md ops (b :: r)
theorem path_listed {l : Array Bool} (hc : ShutDown md ops l) : ∀ (p : List Nat) (a : Nat), pathB md ops (a :: p) = true → l.getD ((a :: p).getLast (by simp)) false = true → l.getD a false = true := by
  intro p
  induction p with
  | nil => intro a _ h; simpa using h
  | cons b r ih =>
    intro a hp hl
    unfold pathB at hp
    rw [Bool.and_eq_true] at hp
    have hb := ih b hp.2 (by simpa using hl)
    cases ho : ops[b]? with
    | none => rw [ho] at hp; simp at hp
    | some o =>
      rw [ho] at hp
      obtain ⟨e, he, h2⟩ := Array.any_eq_true'.1 hp.1
      rw [Bool.and_eq_true] at h2
      have h3 := hc b o ho hb e he h2.1
      rwa [show e.on = a by simpa using h2.2] at h3
/-- From i a list of waiting leads to z. -/
def leads (md : Region.Mode) (ops : Array Oper) (i : Nat) (p : List Nat) (z : Nat) : Bool := pathB md ops (i :: p) && (i :: p).getLast (by simp) == z && i != z
theorem leads_not {l : Array Bool} {i : Nat} {p : List Nat} (h : leads md ops i p z = true) (hc : ShutDown md ops l) (hi : l.getD i true = false) : z ∉ Region.ready md ops l := by
  unfold leads at h
  rw [Bool.and_eq_true, Bool.and_eq_true] at h
  obtain ⟨⟨h1, h2⟩, h3⟩ := h
  intro hz
  have h4 := shutDown_set hc hz
  have h5 := path_listed h4 p i h1 (by rw [show (i :: p).getLast (by simp) = z by simpa using h2]; exact getD_setSelf (mem_ready.1 hz).1)
  rw [getD_set_ne false (by simp at h3; exact fun e => h3 e.symm)] at h5
  rw [getD_swap hi] at h5
  cases h5
/-- Whatever order is picked from here on, and S holds behind every operation that is carried out, as long as z has not come up. -/
def wpAnyZ (P : Program) (md : Region.Mode) (ops : Array Oper) (Q : Exit → Act → World → Prop) (S : World → Prop) (z : Nat) : Nat → Array Bool → Act → World → Prop
  | 0, listed, a, w => Region.ready md ops listed = [] ∧ Q .normal a w
  | fuel + 1, listed, a, w =>
    (Region.ready md ops listed = [] → Q .normal a w) ∧
    ∀ i ∈ Region.ready md ops listed, wpOp P ops Q i (fun a' w' => ((listed.setIfInBounds i true).getD z true = false → S w') ∧ wpAnyZ P md ops Q S z fuel (listed.setIfInBounds i true) a' w') a w
theorem wpAny_of_Z : ∀ (fuel : Nat) (listed : Array Bool) (a : Act) (w : World), wpAnyZ P md ops Q S z fuel listed a w → wpAny P md ops Q fuel listed a w
  | 0, _, _, _, h => h
  | fuel + 1, _, _, _, h => ⟨h.1, fun i hi => wpOp_mono (fun a' w' h' => wpAny_of_Z fuel _ a' w' h'.2) (h.2 i hi)⟩
theorem wpAnyZ_first {i : Nat} {oi : Oper} {v : Value} {p : List Nat} (hi : ops[i]? = some oi) (hsel : ∀ (j : Nat) (o : Oper) cs b, ops[j]? = some o → o.op ≠ .select cs b)
    (hQ : ∀ c a w, Q (.panic c) (a.put oi.dst v) w → Q (.panic c) a w) (hl : leads md ops i p z = true) :
    ∀ (fuel : Nat) (listed : Array Bool) (a : Act) (w : World), ShutDown md ops listed → listed.getD z true = false →
      (∀ j oj, ops[j]? = some oj → j ≠ i → listed.getD j true = false → (∀ e ∈ oj.after, Region.binds md e = true → e.on ≠ i) → oi.apart ops oj = true) →
      i ∈ Region.ready md ops listed → YieldsIf P ops S oi v a → S w →
      wpAnyZ P md ops Q S z fuel (listed.setIfInBounds i true) (a.put oi.dst v) w → wpAnyZ P md ops Q S z (fuel + 1) listed a w := by
  have hiz : i ≠ z := by
    unfold leads at hl
    rw [Bool.and_eq_true] at hl
    simpa using hl.2
  intro fuel
  induction fuel with
  | zero =>
    intro listed a w _ hzu _ hr hy hS H
    refine ⟨fun h => (by rw [h] at hr; cases hr), fun j hj => ?_⟩
    by_cases hji : j = i
    · subst hji; exact hy.wpOp hi hS ⟨fun _ => hS, H⟩
    · have := ready_mono hj hji
      rw [H.1] at this
      cases this
  | succ fuel ih =>
    intro listed a w hsd hzu hfree hr hy hS H
    refine ⟨fun h => (by rw [h] at hr; cases hr), fun j hj => ?_⟩
    by_cases hji : j = i
    · subst hji; exact hy.wpOp hi hS ⟨fun _ => hS, H⟩
    · have hjz : j ≠ z := fun e => leads_not hl hsd (mem_ready.1 hr).1 (e ▸ hj)
      have h1 := H.2 j (ready_mono hj hji)
      obtain ⟨hjun, oj, hoj, hall⟩ := mem_ready.1 hj
      have hnot : ∀ e ∈ oj.after, Region.binds md e = true → e.on ≠ i := fun e he hb heq => by
        have h1 := hall e he hb
        have h0 := (mem_ready.1 hr).1
        rw [heq] at h1
        rw [getD_swap h0] at h1
        cases h1
      have h2 := wpOp_putIf hoj (hfree j oj hoj hji hjun hnot) (fun cs b => hsel i oi cs b hi) (fun cs b => hsel j oj cs b hoj) hQ hy h1
      have hfree' : ∀ k ok, ops[k]? = some ok → k ≠ i → (listed.setIfInBounds j true).getD k true = false →
          (∀ e ∈ ok.after, Region.binds md e = true → e.on ≠ i) → oi.apart ops ok = true := fun k ok hk hki hun hno => by
        refine hfree k ok hk hki ?_ hno
        by_cases hjk : j = k
        · subst hjk; exact hjun
        · rw [getD_set_ne true hjk] at hun; exact hun
      refine wpOp_mono (fun a' w' h3 => ?_) h2
      have hSw : S w' := h3.2.1 (by rw [getD_set_ne true hjz, getD_set_ne true hiz]; exact hzu)
      refine ⟨fun _ => hSw, ih (listed.setIfInBounds j true) a' w' (shutDown_set hsd hj) (by rw [getD_set_ne true hjz]; exact hzu) hfree' (ready_mono hr (Ne.symm hji)) h3.1 hSw ?_⟩
      rw [Array.setIfInBounds_comm _ _ hji]
      exact h3.2.2
theorem wpAnyZ_take {i : Nat} {oi : Oper} {v : Value} {p : List Nat} {fuel : Nat} {listed : Array Bool} {a : Act} {w : World} (hi : ops[i]? = some oi)
    (hl : leads md ops i p z = true) (hsd : shutDownB md ops listed = true) (hzu : listed.getD z true = false)
    (hs : Region.noSelect ops = true) (hf : Region.free md ops listed i = true) (hr : (Region.ready md ops listed).contains i = true)
    (hQ : ∀ c a w, Q (.panic c) (a.put oi.dst v) w → Q (.panic c) a w) (hy : YieldsIf P ops S oi v a) (hS : S w)
    (h : wpAnyZ P md ops Q S z fuel (listed.setIfInBounds i true) (a.put oi.dst v) w) : wpAnyZ P md ops Q S z (fuel + 1) listed a w :=
  wpAnyZ_first hi (Region.noSelect_spec hs) hQ hl fuel listed a w (shutDown_of hsd) hzu (Region.free_spec hi hf) (by simpa using hr) hy hS h
theorem wpAnyZ_done {listed : Array Bool} {a : Act} {w : World} (hr : Region.ready md ops listed = []) (h : Q .normal a w) :
    ∀ fuel, wpAnyZ P md ops Q S z fuel listed a w
  | 0 => ⟨hr, h⟩
  | _ + 1 => ⟨fun _ => h, by rw [hr]; simp⟩
def AllReadyZ (P : Program) (md : Region.Mode) (ops : Array Oper) (Q : Exit → Act → World → Prop) (S : World → Prop) (z fuel : Nat) (listed : Array Bool) (a : Act) (w : World) (rs : List Nat) : Prop :=
  ∀ i ∈ rs, wpOp P ops Q i (fun a' w' => ((listed.setIfInBounds i true).getD z true = false → S w') ∧ wpAnyZ P md ops Q S z fuel (listed.setIfInBounds i true) a' w') a w
theorem AllReadyZ.nil {fuel : Nat} {listed : Array Bool} {a : Act} {w : World} : AllReadyZ P md ops Q S z fuel listed a w [] := fun _ h => by cases h
theorem AllReadyZ.cons {fuel : Nat} {listed : Array Bool} {a : Act} {w : World} {i : Nat} {o : Oper} {rs : List Nat} (ho : ops[i]? = some o)
    (h : ∀ K' : Act → World → Prop, Shut (∀ a w, S w → (S w → wpAnyZ P md ops Q S z fuel (listed.setIfInBounds i true) a w) → K' a w) → if Region.wanted o (yielded ops a.tmps) = true then Oper.wp P o a w K' Q else K' (a.put o.dst undef) w)
    (hs : AllReadyZ P md ops Q S z fuel listed a w rs) : AllReadyZ P md ops Q S z fuel listed a w (i :: rs) := fun j hj => by
  rcases List.mem_cons.1 hj with rfl | hj
  · exact wpOp_step ho (fun K' hK => h K' (fun a w hS hW => hK a w ⟨fun _ => hS, hW hS⟩))
  · exact hs j hj
/-- At z itself, and behind it: nothing is asked. -/
theorem AllReadyZ.last {fuel : Nat} {listed : Array Bool} {a : Act} {w : World} {i : Nat} {o : Oper} {rs : List Nat} (ho : ops[i]? = some o) (hz : (listed.setIfInBounds i true).getD z true = true)
    (h : ∀ K' : Act → World → Prop, Shut (∀ a w, wpAnyZ P md ops Q S z fuel (listed.setIfInBounds i true) a w → K' a w) → if Region.wanted o (yielded ops a.tmps) = true then Oper.wp P o a w K' Q else K' (a.put o.dst undef) w)
    (hs : AllReadyZ P md ops Q S z fuel listed a w rs) : AllReadyZ P md ops Q S z fuel listed a w (i :: rs) := fun j hj => by
  rcases List.mem_cons.1 hj with rfl | hj
  · exact wpOp_step ho (fun K' hK => h K' (fun a w hW => hK a w ⟨fun h0 => (by rw [hz] at h0; cases h0), hW⟩))
  · exact hs j hj
theorem wpAnyZ_ready {rs : List Nat} {fuel : Nat} {listed : Array Bool} {a : Act} {w : World} (hr : Region.ready md ops listed = rs) (hne : rs ≠ [])
    (h : AllReadyZ P md ops Q S z fuel listed a w rs) : wpAnyZ P md ops Q S z (fuel + 1) listed a w :=
  ⟨fun h0 => absurd (hr ▸ h0) hne, hr ▸ h⟩
theorem wp_region_Z {id : Nat} {a : Act} {w : World} (z : Nat) (hm : P.follows .mixedOrders = true) (hS : S w.drew)
    (h : S w.drew → wpAnyZ P .any ops Q S z ops.size (Array.replicate ops.size false) a w.drew) : (Code.region id ops true).wp P Q a w :=
  wp_region_any hm (wpAny_of_Z _ _ _ _ (h hS))
end
end Go
/- The walks over the reference of the disk: New, Arm, Start. -/
namespace Go.Proofs.Ythfglhafphfhiaa
open Go.RowKit
theorem info_string : (Try.prog.info? 9).map (fun i => (i.zero, i.size, i.bytes)) = some (some (.string ⟨#[]⟩), 1, 16) := by kernel_rfl
end Go.Proofs.Ythfglhafphfhiaa
/- The walks over package log: New, cut, sectors. -/
namespace Lg
theorem repeat_zero (n : Nat) : (⟨(Go.Lib.repeatL [(0 : UInt8)] n).toArray⟩ : ByteArray) = ⟨(List.replicate n 0).toArray⟩ := by
  congr 2
  induction n with
  | zero => rfl
  | succ n ih =>
    rw [List.replicate_succ, ← ih]
    rfl
theorem pad_join (t : ByteArray) (m : Nat) (hm : m = min t.size 128) : t.extract 0 m ++ (⟨(Go.Lib.repeatL [(0 : UInt8)] (128 - m)).toArray⟩ : ByteArray) = pad128 (t.data.toList.take 128) := by
  rw [repeat_zero]
  unfold pad128
  apply ByteArray.ext
  rw [ByteArray.data_append]
  apply Array.toList_inj.1
  rw [Array.toList_append]
  have e : (t.extract 0 m).data.toList = t.data.toList.take 128 := by
    simp only [ByteArray.data_extract, Array.toList_extract, List.extract_eq_take_drop, Nat.sub_zero, List.drop_zero]
    have hl : t.data.toList.length = t.size := by simp
    by_cases h : t.size ≤ 128
    · rw [List.take_of_length_le (by omega), List.take_of_length_le (by omega)]
    · rw [show m = 128 by omega]
  have hl : (t.data.toList.take 128).length = m := by rw [List.length_take]; simp; omega
  rw [e, hl]
theorem cut_next (t : ByteArray) (m : Nat) (hm : m = min t.size 128) (h0 : 0 < t.size) : cutB t = pad128 (t.data.toList.take 128) :: cutB (t.extract m t.size) := by
  unfold cutB
  have h1 : t.data.toList ≠ [] := fun e => by
    have hl : t.data.toList.length = t.size := by simp
    rw [e, List.length_nil] at hl
    omega
  rw [cutW_cons h1]
  congr 2
  simp only [ByteArray.data_extract, Array.toList_extract, List.extract_eq_take_drop]
  have hl : t.data.toList.length = t.size := by simp
  rw [List.take_of_length_le (by rw [List.length_drop]; omega)]
  by_cases h : t.size ≤ 128
  · rw [List.drop_of_length_le (i := 128) (by omega), List.drop_of_length_le (i := m) (by omega)]
  · rw [show m = 128 by omega]
theorem cut_none (t : ByteArray) (h0 : t.size = 0) : cutB t = [] := by
  unfold cutB
  have h1 : t.data.toList = [] := List.eq_nil_of_length_eq_zero (by simpa using h0)
  rw [h1, cutW_nil]
end Lg
namespace Go.Proofs.Ythfglhafphfhiaa
open Go.RowKit
abbrev logV (l : Lg.Lo) : Value := .agg #[.int .i64 l.from_, .int .i64 l.n, .int .i64 l.end_, .int .i64 l.safe, .string l.tail]
set_option maxRecDepth 100000 in
theorem lnew_any (a n : Int) (w : World) :
    Calls Try.prog 29 #[.int .i64 a, .int .i64 n] w fun e w' => e = .returned (logV ⟨a, n, 0, 0, ⟨#[]⟩⟩) ∧ Below w.heap.size w w' := by
  have HZ := Lib.hid (heap_alloc_new w (.cells #[.int .i64 0, .int .i64 0, .int .i64 0, .int .i64 0, .string ⟨#[]⟩] 44))
  go_enter Try.func29, Try.ntmps29
  go_wp2_with (with_reducible refine listStore (by kernel_rfl) 44 (.tmp 4) (.tmp 7) rfl w.heap.size #[.int .i64 a, .int .i64 n, .int .i64 0, .int .i64 0, .string ⟨#[]⟩] _ _ rfl rfl HZ.out (by kernel_rfl) (by kernel_rfl) (by kernel_rfl) ?_)
  refine bodyPost_ret (v := .agg #[.int .i64 a, .int .i64 n, .int .i64 0, .int .i64 0, .string ⟨#[]⟩]) (results_cell rfl _ _ rfl (load_whole (setRow_heap _ _ _ _ _ _ HZ.out) Try.underlying44 (by kernel_rfl) (by kernel_rfl))) rfl ?_
  exact ⟨rfl, ((BxL.nil (Below.refl w.heap.size w)).new (by simp) #[.int .i64 0, .int .i64 0, .int .i64 0, .int .i64 0, .string ⟨#[]⟩] 44).row 0 _ _ rfl |>.below⟩
/-- What cut answers: texts in memory of its own. -/
def CutOut (l : List ByteArray) (w : World) (e : Ending) (w' : World) : Prop := ∃ v, e = .returned v ∧ OwnL strC 1 9 w.heap.size w' v l ∧ Below w.heap.size w w'
set_option maxRecDepth 100000 in
set_option maxHeartbeats 4000000 in
theorem cut_any (s : ByteArray) (hs : s.size ≤ 1000000) (w : World) :
    Calls Try.prog 32 #[.string s] w (CutOut (Lg.cutB s) w) := by
  have HF := Lib.hid (fun v w' (ho : OwnL strC 1 9 w.heap.size w' v (Lg.cutB s)) (hb : Below w.heap.size w w') => show CutOut (Lg.cutB s) w (.returned v) w' from ⟨v, rfl, ho, hb⟩)
  generalize CutOut (Lg.cutB s) w = Q at HF ⊢
  obtain ⟨C, hC⟩ : ∃ C, C = Lg.cutB s := ⟨_, rfl⟩
  have hcl : C.length ≤ 8000 := by rw [hC, Lg.cutB_length]; omega
  rw [← hC] at HF
  have HC := Lib.hid hC
  have HR := Lib.hid (fun (c : Nat) (hc : c ≤ 128) W => Try.strings_Repeat ⟨#[0]⟩ c W (by omega) (show (⟨#[0]⟩ : ByteArray).size * c ≤ 140737488355328 from (by show 1 * c ≤ _; have : c ≤ 128 := hc; omega)))
  clear hC
  go_enter Try.func32, Try.ntmps32
  go_wp2_with fail
  go_loopw [0, 3] (fun s0 v wr => ∃ (t : ByteArray) (ls : List ByteArray), s0 = .string t ∧ t.size ≤ 1000000 ∧ ls ++ Lg.cutB t = C ∧ OwnL strC 1 9 w.heap.size wr v ls ∧ Below w.heap.size w wr) (fun s0 _ _ => (match s0 with | .string t => t.size | _ => 0))
  case atStart => exact ⟨s, [], rfl, hs, HC.out.symm, ownNil _ _ _ _, Below.refl _ _⟩
  case round =>
    obtain ⟨t, ls, rfl, hts, hC2, hO, hB⟩ := hrel
    have HB := Lib.hid hB
    have hll : ls.length ≤ 8000 := by have := congrArg List.length hC2; rw [List.length_append] at this; omega
    have HC2 := Lib.hid hC2
    clear hB hC2
    by_cases h0 : 0 < t.size
    · obtain ⟨m, hm⟩ : ∃ m, m = min t.size 128 := ⟨_, rfl⟩
      have hmm : min (t.size : Int) 128 = (m : Int) := by omega
      have hm1 : m ≤ t.size := by omega
      have hm2 : m ≤ 128 := by omega
      have hm3 : (0 : Int) ≤ (m : Int) := by omega
      have hm4 : (m : Int) ≤ (t.size : Int) := by omega
      have hsub : (128 : Int) - (m : Int) = ((128 - m : Nat) : Int) := by omega
      have hwr : IntKind.i64.wrap ((128 : Int) - (m : Int)) = ((128 - m : Nat) : Int) := by rw [hsub]; exact IntWalk.i64_in _ (by omega)
      have hwr2 : IntKind.i64.wrap ((128 - m : Nat) : Int) = ((128 - m : Nat) : Int) := IntWalk.i64_in _ (by omega)
      have HJ := Lib.hid (Lg.pad_join t m hm)
      have HN := Lib.hid (Lg.cut_next t m hm h0)
      have hpz := Lg.pad128_size (l := t.data.toList.take 128) (by rw [List.length_take]; omega)
      have hxs : (t.extract m t.size).size < t.size := by rw [ByteArray.size_extract]; omega
      have HXS := Lib.hid hxs
      have hR := HR.out (128 - m) (show 128 - m ≤ 128 by omega)
      have hsum : (t.extract 0 m).size + (⟨(Lib.repeatL [(0 : UInt8)] (128 - m)).toArray⟩ : ByteArray).size ≤ 9223372036854775807 := by
        rw [Lg.repeat_zero, ByteArray.size_extract]
        show _ + (List.replicate (128 - m) (0 : UInt8)).toArray.size ≤ _
        simp
        omega
      have HRR := Lib.hid hR
      obtain ⟨z, hz⟩ : ∃ z : ByteArray, z = ⟨(Lib.repeatL [(0 : UInt8)] (128 - m)).toArray⟩ := ⟨_, rfl⟩
      obtain ⟨y, hy⟩ : ∃ y : ByteArray, y = Lg.pad128 (t.data.toList.take 128) := ⟨_, rfl⟩
      have HRZ : Hid (∀ W, Calls Try.prog 33 #[.string ⟨#[0]⟩, .int .i64 ((128 - m : Nat) : Int)] W fun e w' => e = .returned (.string z) ∧ Below W.heap.size W w') := Lib.hid (by rw [hz]; exact hR)
      rw [← hz] at HJ hsum
      rw [← hy] at HJ HN hpz
      have hadd : ∀ W : World, (Op.stringOp .add (t.extract 0 m) z).run Try.prog W = .ok (.string y) W := fun W => by rw [← HJ.out]; exact run_string_add_sum W _ _ hsum
      obtain ⟨r, hr⟩ : ∃ r : Nat, r = 128 - m := ⟨_, rfl⟩
      rw [← hr] at hsub hwr hwr2 HRZ
      clear hR HR HRR hm hz hy hxs hr hsum
      obtain ⟨A, c, rfl⟩ := ownLen hO
      go_upto_region 4 with fail
      have hO0 := ownBelow hO (Below.refl _ wr).drew
      have hB0 := HB.out.drew
      refine wp_region_held_drew (S := (fun _ => True)) (by kernel_rfl) ?_ (fun hHeld => ?_)
      · trivial
      refine tkW 0 (some 11) (v := ?_) rfl ?_ ?_
      rotate_left
      · intro u hSu; clear hSu; go_simp; (try with_reducible rfl)
      try simp only [Act.put, List.setIfInBounds_toArray, List.set_cons_zero, List.set_cons_succ]
      refine tkW 1 (some 12) (v := ?_) rfl ?_ ?_
      rotate_left
      · intro u hSu; clear hSu; go_simp; (try with_reducible rfl)
      try simp only [Act.put, List.setIfInBounds_toArray, List.set_cons_zero, List.set_cons_succ]
      refine tkW 2 (some 13) (v := ?_) rfl ?_ ?_
      rotate_left
      · intro u hSu; clear hSu; go_simp; (try with_reducible rfl)
      try simp only [Act.put, List.setIfInBounds_toArray, List.set_cons_zero, List.set_cons_succ]
      refine tkW 3 (some 14) (v := ?_) rfl ?_ ?_
      rotate_left
      · intro u hSu; clear hSu; go_simp; (try with_reducible rfl)
      try simp only [Act.put, List.setIfInBounds_toArray, List.set_cons_zero, List.set_cons_succ]
      refine tkW 4 (some 15) (v := ?_) rfl ?_ ?_
      rotate_left
      · intro u hSu; clear hSu; go_simp; (try with_reducible rfl)
      try simp only [Act.put, List.setIfInBounds_toArray, List.set_cons_zero, List.set_cons_succ]
      refine tkW 5 (some 16) (v := ?_) rfl ?_ ?_
      rotate_left
      · intro u hSu; clear hSu; go_simp; (try with_reducible rfl)
      try simp only [Act.put, List.setIfInBounds_toArray, List.set_cons_zero, List.set_cons_succ]
      refine rdH 6 (some 17) rfl (fun K hK => ?_)
      go_simp
      refine (HRZ.out _).mono ?_; rintro e w1 ⟨rfl, hb1⟩; have hO1 := ownBelow hO0 hb1; have hB1 := hB0.trans (hb1.mono hB0.size); try go_simp
      refine hK.out _ _ ?_ (fun hHeld => ?_)
      · trivial
      clear hK K
      try simp only [Act.put, List.setIfInBounds_toArray, List.set_cons_zero, List.set_cons_succ]
      refine tkW 7 (some 18) (v := ?_) rfl ?_ ?_
      rotate_left
      · intro u hSu; clear hSu; go_simp; (try with_reducible rfl)
      try simp only [Act.put, List.setIfInBounds_toArray, List.set_cons_zero, List.set_cons_succ]
      refine rdH 8 (some 19) rfl (fun K hK => ?_)
      go_simp
      have hO2 := ownBelow hO1 (allocB w1 (.cells #[.string y] 9)); have hB2 := hB1.alloc hB1.size (.cells #[.string y] 9); have hG := heap_alloc_new w1 (.cells #[.string y] 9)
      refine hK.out _ _ ?_ (fun hHeld => ?_)
      · trivial
      clear hK K
      try simp only [Act.put, List.setIfInBounds_toArray, List.set_cons_zero, List.set_cons_succ]
      refine rdH 9 (some 20) rfl (fun K hK => ?_)
      refine wantedIf (by rfl) ?_
      refine wp_push _ (.tmp 11) (.tmp 19) 40 9 Try.underlying40 info_string rfl (by omega) (by omega) rfl w.heap.size _ ls.length (ls.flatMap strC) rfl hO2 w1.heap.size (strC y) 9 rfl hG rfl (by simp [strC, Value.oneCell']) (by omega) hB2.size ?_
      intro v7 w7 ho hg hb
      have hB7 := hB2.trans hb
      refine hK.out _ _ ?_ (fun hHeld => ?_)
      · trivial
      clear hK K
      try simp only [Act.put, List.setIfInBounds_toArray, List.set_cons_zero, List.set_cons_succ]
      refine tkW 10 (some 3) (v := ?_) rfl ?_ ?_
      rotate_left
      · intro u hSu; clear hSu; go_simp; (try with_reducible rfl)
      try simp only [Act.put, List.setIfInBounds_toArray, List.set_cons_zero, List.set_cons_succ]
      refine wpAnyH_done (by kernel_rfl) ?_ _
      have HO7 := Lib.hid (OwnL.push (enc := strC) (x := y) ho)
      have HB7 := Lib.hid hB7
      clear hO hO0 hO1 hO2 hB0 hB1 hB2 hB7 ho hg hb hG hHeld HB hadd hpz
      go_wp2_with fail
      go_roundw
      case rel => exact ⟨_, ls ++ [y], rfl, by have := HXS.out; omega, by rw [List.append_assoc]; have h := HC2.out; rw [HN.out] at h; exact h, HO7.out, HB7.out⟩
      case measure => exact HXS.out
    · have h00 : t.size = 0 := by omega
      have hfin : ls = C := by have h := HC2.out; rwa [Lg.cut_none t h00, List.append_nil] at h
      subst hfin
      go_wp2_with fail
      exact HF.out _ _ hO HB.out
end Go.Proofs.Ythfglhafphfhiaa
/- The walk over package octet: Open, of four bytes or more. -/
namespace Go.Proofs.Ythfglhafphfhiaa
open Go.RowKit
set_option maxRecDepth 100000 in
theorem open4_any (s : ByteArray) (h4 : 4 ≤ s.size) (hm : s.size ≤ 1000000000) (n : Nat) (hn : Oct.getN s.data.toList 0 4 = n) (hn2 : Oct.intOf n = (n : Int)) (w : World) :
    Calls Try.prog 52 #[.string s] w fun e w' => e = .returned (if n = Oct.sumN (s.data.toList.drop 4) then .tuple #[.string (s.extract 4 s.size), .bool true] else .tuple #[.string ⟨#[]⟩, .bool false]) ∧ Below w.heap.size w w' := by
  have HG := Lib.hid (fun W => get_yes s 0 4 (by omega) (by omega) (by omega) (by omega) W)
  rw [hn, hn2] at HG
  have hxs : (s.extract 4 s.size).data.toList = s.data.toList.drop 4 := by
    simp only [ByteArray.data_extract, Array.toList_extract, List.extract_eq_take_drop]
    exact List.take_of_length_le (by simp)
  have hxz : (s.extract 4 s.size).size ≤ 281474976710656 := by rw [ByteArray.size_extract]; omega
  have HS := Lib.hid (fun W => sum_any (s.extract 4 s.size) hxz W)
  rw [hxs] at HS
  generalize Oct.sumN (s.data.toList.drop 4) = m at HS ⊢
  have h4' : (4 : Int) ≤ (s.size : Int) := by omega
  have h4n : ¬ s.size < 4 := by omega
  clear hn hn2 hxs hxz
  by_cases he : n = m
  · subst he
    rw [if_pos rfl]
    go_enter Try.func52, Try.ntmps52
    go_wp2_with (first | (go_at_call 51; refine (HG.out _).mono ?_; rintro e w1 ⟨rfl, hb1⟩) | (go_at_call 62; refine (HS.out _).mono ?_; rintro e w2 ⟨rfl, rfl⟩))
    go_ret2
    exact ⟨rfl, hb1⟩
  · rw [if_neg he]
    have hne : ((n : Int) == (m : Int)) = false := by simp; omega
    have hne2 : (n == m) = false := by simpa using he
    have hne3 : ((n : Int) != (m : Int)) = true := by simp; omega
    have hne4 : (n != m) = true := by simpa using he
    go_enter Try.func52, Try.ntmps52
    go_wp2_with (first | (go_at_call 51; refine (HG.out _).mono ?_; rintro e w1 ⟨rfl, hb1⟩) | (go_at_call 62; refine (HS.out _).mono ?_; rintro e w2 ⟨rfl, rfl⟩))
    go_ret2
    exact ⟨rfl, hb1⟩
end Go.Proofs.Ythfglhafphfhiaa
/- The walk over package octet: GetText. -/
namespace Go.Proofs.Ythfglhafphfhiaa
open Go.RowKit
theorem getN_small (s : List UInt8) (a k : Nat) : Oct.getN s a k < 256 ^ k := by
  have h1 := Oct.getL_lt ((s.drop a).take k)
  have h2 : 256 ^ ((s.drop a).take k).length ≤ 256 ^ k := Nat.pow_le_pow_right (by omega) (by rw [List.length_take]; omega)
  unfold Oct.getN; omega
set_option maxRecDepth 100000 in
theorem getText_any (s : ByteArray) (a : Nat) (hm : s.size ≤ 1000000000) (ha : a ≤ 2000000000) (w : World) :
    Calls Try.prog 82 #[.string s, .int .i64 (a : Int)] w fun e w' => e = .returned (if a + 2 + Oct.getN s.data.toList a 2 ≤ s.size then .tuple #[.string (s.extract (a + 2) (a + 2 + Oct.getN s.data.toList a 2)), .int .i64 ((a + 2 + Oct.getN s.data.toList a 2 : Nat) : Int), .bool true] else .tuple #[.string ⟨#[]⟩, .int .i64 0, .bool false]) ∧ Below w.heap.size w w' := by
  by_cases hin : a + 2 ≤ s.size
  · have hpow := getN_small s.data.toList a 2
    have HG := Lib.hid (fun W => get_yes s a 2 (by omega) (by omega) hin (by omega) W)
    generalize Oct.getN s.data.toList a 2 = n at hpow HG ⊢
    have hn : n < 65536 := by simpa using hpow
    rw [show Oct.intOf n = (n : Int) from by unfold Oct.intOf; rw [if_pos (by omega)]] at HG
    clear hpow
    by_cases he : a + 2 + n ≤ s.size
    · rw [if_pos he]
      have t1 : ¬ ((s.size : Int) - (a : Int) - 2 < (n : Int)) := by omega
      have w1 : IntKind.i64.wrap ((s.size : Int) - (a : Int)) = (s.size : Int) - (a : Int) := IntWalk.i64_in _ (by omega)
      have w2 : IntKind.i64.wrap ((s.size : Int) - (a : Int) - 2) = (s.size : Int) - (a : Int) - 2 := IntWalk.i64_in _ (by omega)
      have w3 : IntKind.i64.wrap ((a : Int) + 2) = (a : Int) + 2 := IntWalk.i64_in _ (by omega)
      have w4 : IntKind.i64.wrap ((a : Int) + 2 + (n : Int)) = (a : Int) + 2 + (n : Int) := IntWalk.i64_in _ (by omega)
      have g1 : (0 : Int) ≤ (a : Int) + 2 := by omega
      have g2 : (a : Int) + 2 ≤ (a : Int) + 2 + (n : Int) := by omega
      have g3 : (a : Int) + 2 + (n : Int) ≤ (s.size : Int) := by omega
      have n1 : ((a : Int) + 2).toNat = a + 2 := by omega
      have n2 : ((a : Int) + 2 + (n : Int)).toNat = a + 2 + n := by omega
      go_enter Try.func82, Try.ntmps82
      go_wp2_with ((go_at_call 51; refine (HG.out _).mono ?_; rintro e w1 ⟨rfl, hb1⟩))
      refine bodyPost_ret (v := .tuple #[.string (s.extract (a + 2) (a + 2 + n)), .int .i64 ((a + 2 + n : Nat) : Int), .bool true]) (by simp [results, Try.results82, go_sem]) rfl ⟨rfl, by assumption⟩
    · rw [if_neg he]
      have t1 : ((s.size : Int) - (a : Int) - 2 < (n : Int)) := by omega
      have w1 : IntKind.i64.wrap ((s.size : Int) - (a : Int)) = (s.size : Int) - (a : Int) := IntWalk.i64_in _ (by omega)
      have w2 : IntKind.i64.wrap ((s.size : Int) - (a : Int) - 2) = (s.size : Int) - (a : Int) - 2 := IntWalk.i64_in _ (by omega)
      go_enter Try.func82, Try.ntmps82
      go_wp2_with ((go_at_call 51; refine (HG.out _).mono ?_; rintro e w1 ⟨rfl, hb1⟩))
      refine bodyPost_ret (v := .tuple #[.string ⟨#[]⟩, .int .i64 0, .bool false]) (by simp [results, Try.results82, go_sem]) rfl ⟨rfl, by assumption⟩
  · rw [if_neg (by omega)]
    have HG := Lib.hid (fun W => get_no s a 2 (by omega) (by omega) (by omega) (by unfold Oct.there; simp; omega) W)
    go_enter Try.func82, Try.ntmps82
    go_wp2_with ((go_at_call 51; refine (HG.out _).mono ?_; rintro e w1 ⟨rfl, rfl⟩))
    refine bodyPost_ret (v := .tuple #[.string ⟨#[]⟩, .int .i64 0, .bool false]) (by simp [results, Try.results82, go_sem]) rfl ⟨rfl, Below.refl _ _⟩
end Go.Proofs.Ythfglhafphfhiaa
/- The walk over package rec: a reader's num. -/
namespace Go.Proofs.Ythfglhafphfhiaa
open Go.RowKit
abbrev rdC (s : ByteArray) (a : Nat) (bad : Bool) : Array Value := #[.string s, .int .i64 (a : Int), .bool bad]
set_option maxRecDepth 100000 in
set_option maxHeartbeats 1000000 in
theorem rnum_tf (b : Nat) (s : ByteArray) (a k : Nat) (h1 : 1 ≤ k) (h6 : k ≤ 6) (hm : s.size ≤ 1000000000) (ha : a ≤ 2000000000) (hin : a + k ≤ s.size) (w : World) (hb : w.heap[b]? = some (.cells (rdC s a false) 118 (0, 0))) :
    Calls Try.prog 63 #[.pointer (some ⟨b, 0, none⟩), .int .i64 (k : Int)] w fun e w' => e = .returned (.int .i64 (Oct.intOf (Oct.getN s.data.toList a k))) ∧ w'.heap[b]? = some (.cells (rdC s (a + k) false) 118 (0, 0)) ∧ KeptB w.heap.size b w w' := by
  have HG := Lib.hid (fun W => get_yes s a k h1 (by omega) hin (by omega) W)
  have HB := Lib.hid hb
  have w1' : IntKind.i64.wrap ((a : Int) + (k : Int)) = (a : Int) + (k : Int) := IntWalk.i64_in _ (by omega)
  clear hb hin
  generalize Oct.intOf (Oct.getN s.data.toList a k) = n at HG ⊢
  go_enter Try.func63, Try.ntmps63
  go_upto_region 1 with fail
  refine wp_region_held_drew (S := (fun u => u.heap[b]? = some (.cells (rdC s a false) 118 (0, 0)))) (by kernel_rfl) ?_ (fun hHeld => ?_)
  · first | exact hSn | exact HB.out
  refine tkW 0 (some 8) (v := ?_) rfl ?_ ?_
  rotate_left
  · intro u hSu; have hSv := blkCell hSu; clear hSu; go_simp; (try with_reducible rfl)
  try simp only [Act.put, List.setIfInBounds_toArray, List.set_cons_zero, List.set_cons_succ]
  refine tkW 1 (some 9) (v := ?_) rfl ?_ ?_
  rotate_left
  · intro u hSu; have hSv := blkCell hSu; clear hSu; go_simp; (try with_reducible rfl)
  try simp only [Act.put, List.setIfInBounds_toArray, List.set_cons_zero, List.set_cons_succ]
  refine tkW 2 (some 10) (v := ?_) rfl ?_ ?_
  rotate_left
  · intro u hSu; have hSv := blkCell hSu; clear hSu; go_simp; (try with_reducible rfl)
  try simp only [Act.put, List.setIfInBounds_toArray, List.set_cons_zero, List.set_cons_succ]
  refine tkW 3 (some 11) (v := ?_) rfl ?_ ?_
  rotate_left
  · intro u hSu; have hSv := blkCell hSu; clear hSu; go_simp; (try with_reducible rfl)
  try simp only [Act.put, List.setIfInBounds_toArray, List.set_cons_zero, List.set_cons_succ]
  refine tkW 4 (some 12) (v := ?_) rfl ?_ ?_
  rotate_left
  · intro u hSu; have hSv := blkCell hSu; clear hSu; go_simp; (try with_reducible rfl)
  try simp only [Act.put, List.setIfInBounds_toArray, List.set_cons_zero, List.set_cons_succ]
  refine tkW 5 (some 13) (v := ?_) rfl ?_ ?_
  rotate_left
  · intro u hSu; have hSv := blkCell hSu; clear hSu; go_simp; (try with_reducible rfl)
  try simp only [Act.put, List.setIfInBounds_toArray, List.set_cons_zero, List.set_cons_succ]
  refine tkW 6 (some 14) (v := ?_) rfl ?_ ?_
  rotate_left
  · intro u hSu; have hSv := blkCell hSu; clear hSu; go_simp; (try with_reducible rfl)
  try simp only [Act.put, List.setIfInBounds_toArray, List.set_cons_zero, List.set_cons_succ]
  refine tkW 7 (some 15) (v := ?_) rfl ?_ ?_
  rotate_left
  · intro u hSu; have hSv := blkCell hSu; clear hSu; go_simp; (try with_reducible rfl)
  try simp only [Act.put, List.setIfInBounds_toArray, List.set_cons_zero, List.set_cons_succ]
  refine tkW 8 (some 16) (v := ?_) rfl ?_ ?_
  rotate_left
  · intro u hSu; have hSv := blkCell hSu; clear hSu; go_simp; (try with_reducible rfl)
  try simp only [Act.put, List.setIfInBounds_toArray, List.set_cons_zero, List.set_cons_succ]
  refine rdH 9 (some 17) rfl (fun K hK => ?_)
  go_simp
  refine (HG.out _).mono ?_; rintro e w1 ⟨rfl, hb1⟩; have hSn := blkOld HB.out ((Below.refl _ w).drew.trans hb1); try go_simp
  refine hK.out _ _ ?_ (fun hHeld => ?_)
  · first | exact hSn | exact HB.out
  clear hK K
  try simp only [Act.put, List.setIfInBounds_toArray, List.set_cons_zero, List.set_cons_succ]
  refine tkW 10 (some 7) (v := ?_) rfl ?_ ?_
  rotate_left
  · intro u hSu; have hSv := blkCell hSu; clear hSu; go_simp; (try with_reducible rfl)
  try simp only [Act.put, List.setIfInBounds_toArray, List.set_cons_zero, List.set_cons_succ]
  refine tkW 11 (some 18) (v := ?_) rfl ?_ ?_
  rotate_left
  · intro u hSu; have hSv := blkCell hSu; clear hSu; go_simp; (try with_reducible rfl)
  try simp only [Act.put, List.setIfInBounds_toArray, List.set_cons_zero, List.set_cons_succ]
  refine tkW 12 (some 19) (v := ?_) rfl ?_ ?_
  rotate_left
  · intro u hSu; have hSv := blkCell hSu; clear hSu; go_simp; (try with_reducible rfl)
  try simp only [Act.put, List.setIfInBounds_toArray, List.set_cons_zero, List.set_cons_succ]
  refine tkW 13 (some 5) (v := ?_) rfl ?_ ?_
  rotate_left
  · intro u hSu; have hSv := blkCell hSu; clear hSu; go_simp; (try with_reducible rfl)
  try simp only [Act.put, List.setIfInBounds_toArray, List.set_cons_zero, List.set_cons_succ]
  refine tkW 14 (some 6) (v := ?_) rfl ?_ ?_
  rotate_left
  · intro u hSu; have hSv := blkCell hSu; clear hSu; go_simp; (try with_reducible rfl)
  try simp only [Act.put, List.setIfInBounds_toArray, List.set_cons_zero, List.set_cons_succ]
  refine wpAnyH_done (by kernel_rfl) ?_ _
  have H1 := Lib.hid hHeld
  have HK := Lib.hid (show Below w.heap.size w w1 from (Below.refl _ w).drew.trans hb1)
  clear hHeld hSn hb1
  have c0 := blkCell H1.out 0
  have c1 := blkCell H1.out 1
  have c2 := blkCell H1.out 2
  have f1 := blkFrozen H1.out 1
  have f2 := blkFrozen H1.out 2
  simp at c0 c1 c2
  go_wp2_with fail
  go_ret
  refine ⟨rfl, ?_, ?_⟩
  · have h := blkSet 2 (blkSet 1 H1.out (.int .i64 ((a : Int) + (k : Int)))) (.bool false)
    first | exact h | simpa using h
  · refine ⟨HK.out.os, HK.out.tape, HK.out.output, by have := HK.out.size; simpa [World.setCell] using this, fun i hi hib => ?_⟩
    rw [Below.heap_setCell _ _ _ _ hib, Below.heap_setCell _ _ _ _ hib]
    exact HK.out.block i hi
set_option maxRecDepth 100000 in
set_option maxHeartbeats 1000000 in
theorem rnum_tt (b : Nat) (s : ByteArray) (a k : Nat) (h1 : 1 ≤ k) (h6 : k ≤ 6) (hm : s.size ≤ 1000000000) (ha : a ≤ 2000000000) (hin : a + k ≤ s.size) (w : World) (hb : w.heap[b]? = some (.cells (rdC s a true) 118 (0, 0))) :
    Calls Try.prog 63 #[.pointer (some ⟨b, 0, none⟩), .int .i64 (k : Int)] w fun e w' => e = .returned (.int .i64 (Oct.intOf (Oct.getN s.data.toList a k))) ∧ w'.heap[b]? = some (.cells (rdC s (a + k) true) 118 (0, 0)) ∧ KeptB w.heap.size b w w' := by
  have HG := Lib.hid (fun W => get_yes s a k h1 (by omega) hin (by omega) W)
  have HB := Lib.hid hb
  have w1' : IntKind.i64.wrap ((a : Int) + (k : Int)) = (a : Int) + (k : Int) := IntWalk.i64_in _ (by omega)
  clear hb hin
  generalize Oct.intOf (Oct.getN s.data.toList a k) = n at HG ⊢
  go_enter Try.func63, Try.ntmps63
  go_upto_region 1 with fail
  refine wp_region_held_drew (S := (fun u => u.heap[b]? = some (.cells (rdC s a true) 118 (0, 0)))) (by kernel_rfl) ?_ (fun hHeld => ?_)
  · first | exact hSn | exact HB.out
  refine tkW 0 (some 8) (v := ?_) rfl ?_ ?_
  rotate_left
  · intro u hSu; have hSv := blkCell hSu; clear hSu; go_simp; (try with_reducible rfl)
  try simp only [Act.put, List.setIfInBounds_toArray, List.set_cons_zero, List.set_cons_succ]
  refine tkW 1 (some 9) (v := ?_) rfl ?_ ?_
  rotate_left
  · intro u hSu; have hSv := blkCell hSu; clear hSu; go_simp; (try with_reducible rfl)
  try simp only [Act.put, List.setIfInBounds_toArray, List.set_cons_zero, List.set_cons_succ]
  refine tkW 2 (some 10) (v := ?_) rfl ?_ ?_
  rotate_left
  · intro u hSu; have hSv := blkCell hSu; clear hSu; go_simp; (try with_reducible rfl)
  try simp only [Act.put, List.setIfInBounds_toArray, List.set_cons_zero, List.set_cons_succ]
  refine tkW 3 (some 11) (v := ?_) rfl ?_ ?_
  rotate_left
  · intro u hSu; have hSv := blkCell hSu; clear hSu; go_simp; (try with_reducible rfl)
  try simp only [Act.put, List.setIfInBounds_toArray, List.set_cons_zero, List.set_cons_succ]
  refine tkW 4 (some 12) (v := ?_) rfl ?_ ?_
  rotate_left
  · intro u hSu; have hSv := blkCell hSu; clear hSu; go_simp; (try with_reducible rfl)
  try simp only [Act.put, List.setIfInBounds_toArray, List.set_cons_zero, List.set_cons_succ]
  refine tkW 5 (some 13) (v := ?_) rfl ?_ ?_
  rotate_left
  · intro u hSu; have hSv := blkCell hSu; clear hSu; go_simp; (try with_reducible rfl)
  try simp only [Act.put, List.setIfInBounds_toArray, List.set_cons_zero, List.set_cons_succ]
  refine tkW 6 (some 14) (v := ?_) rfl ?_ ?_
  rotate_left
  · intro u hSu; have hSv := blkCell hSu; clear hSu; go_simp; (try with_reducible rfl)
  try simp only [Act.put, List.setIfInBounds_toArray, List.set_cons_zero, List.set_cons_succ]
  refine tkW 7 (some 15) (v := ?_) rfl ?_ ?_
  rotate_left
  · intro u hSu; have hSv := blkCell hSu; clear hSu; go_simp; (try with_reducible rfl)
  try simp only [Act.put, List.setIfInBounds_toArray, List.set_cons_zero, List.set_cons_succ]
  refine tkW 8 (some 16) (v := ?_) rfl ?_ ?_
  rotate_left
  · intro u hSu; have hSv := blkCell hSu; clear hSu; go_simp; (try with_reducible rfl)
  try simp only [Act.put, List.setIfInBounds_toArray, List.set_cons_zero, List.set_cons_succ]
  refine rdH 9 (some 17) rfl (fun K hK => ?_)
  go_simp
  refine (HG.out _).mono ?_; rintro e w1 ⟨rfl, hb1⟩; have hSn := blkOld HB.out ((Below.refl _ w).drew.trans hb1); try go_simp
  refine hK.out _ _ ?_ (fun hHeld => ?_)
  · first | exact hSn | exact HB.out
  clear hK K
  try simp only [Act.put, List.setIfInBounds_toArray, List.set_cons_zero, List.set_cons_succ]
  refine tkW 10 (some 7) (v := ?_) rfl ?_ ?_
  rotate_left
  · intro u hSu; have hSv := blkCell hSu; clear hSu; go_simp; (try with_reducible rfl)
  try simp only [Act.put, List.setIfInBounds_toArray, List.set_cons_zero, List.set_cons_succ]
  refine tkW 11 (some 18) (v := ?_) rfl ?_ ?_
  rotate_left
  · intro u hSu; have hSv := blkCell hSu; clear hSu; go_simp; (try with_reducible rfl)
  try simp only [Act.put, List.setIfInBounds_toArray, List.set_cons_zero, List.set_cons_succ]
  refine tkW 12 (some 19) (v := ?_) rfl ?_ ?_
  rotate_left
  · intro u hSu; have hSv := blkCell hSu; clear hSu; go_simp; (try with_reducible rfl)
  try simp only [Act.put, List.setIfInBounds_toArray, List.set_cons_zero, List.set_cons_succ]
  refine tkW 13 (some 5) (v := ?_) rfl ?_ ?_
  rotate_left
  · intro u hSu; have hSv := blkCell hSu; clear hSu; go_simp; (try with_reducible rfl)
  try simp only [Act.put, List.setIfInBounds_toArray, List.set_cons_zero, List.set_cons_succ]
  refine tkW 14 (some 6) (v := ?_) rfl ?_ ?_
  rotate_left
  · intro u hSu; have hSv := blkCell hSu; clear hSu; go_simp; (try with_reducible rfl)
  try simp only [Act.put, List.setIfInBounds_toArray, List.set_cons_zero, List.set_cons_succ]
  refine wpAnyH_done (by kernel_rfl) ?_ _
  have H1 := Lib.hid hHeld
  have HK := Lib.hid (show Below w.heap.size w w1 from (Below.refl _ w).drew.trans hb1)
  clear hHeld hSn hb1
  have c0 := blkCell H1.out 0
  have c1 := blkCell H1.out 1
  have c2 := blkCell H1.out 2
  have f1 := blkFrozen H1.out 1
  have f2 := blkFrozen H1.out 2
  simp at c0 c1 c2
  go_wp2_with fail
  go_ret
  refine ⟨rfl, ?_, ?_⟩
  · have h := blkSet 2 (blkSet 1 H1.out (.int .i64 ((a : Int) + (k : Int)))) (.bool true)
    first | exact h | simpa using h
  · refine ⟨HK.out.os, HK.out.tape, HK.out.output, by have := HK.out.size; simpa [World.setCell] using this, fun i hi hib => ?_⟩
    rw [Below.heap_setCell _ _ _ _ hib, Below.heap_setCell _ _ _ _ hib]
    exact HK.out.block i hi
set_option maxRecDepth 100000 in
set_option maxHeartbeats 1000000 in
theorem rnum_ff (b : Nat) (s : ByteArray) (a k : Nat) (h1 : 1 ≤ k) (h6 : k ≤ 6) (hm : s.size ≤ 1000000000) (ha : a ≤ 2000000000) (hin : ¬ a + k ≤ s.size) (w : World) (hb : w.heap[b]? = some (.cells (rdC s a false) 118 (0, 0))) :
    Calls Try.prog 63 #[.pointer (some ⟨b, 0, none⟩), .int .i64 (k : Int)] w fun e w' => e = .returned (.int .i64 (0)) ∧ w'.heap[b]? = some (.cells (rdC s (a + k) true) 118 (0, 0)) ∧ KeptB w.heap.size b w w' := by
  have HG := Lib.hid (fun W => get_no s a k (by omega) (by omega) (by omega) (by unfold Oct.there; simp; omega) W)
  have HB := Lib.hid hb
  have w1' : IntKind.i64.wrap ((a : Int) + (k : Int)) = (a : Int) + (k : Int) := IntWalk.i64_in _ (by omega)
  clear hb hin
  go_enter Try.func63, Try.ntmps63
  go_upto_region 1 with fail
  refine wp_region_held_drew (S := (fun u => u.heap[b]? = some (.cells (rdC s a false) 118 (0, 0)))) (by kernel_rfl) ?_ (fun hHeld => ?_)
  · first | exact hSn | exact HB.out
  refine tkW 0 (some 8) (v := ?_) rfl ?_ ?_
  rotate_left
  · intro u hSu; have hSv := blkCell hSu; clear hSu; go_simp; (try with_reducible rfl)
  try simp only [Act.put, List.setIfInBounds_toArray, List.set_cons_zero, List.set_cons_succ]
  refine tkW 1 (some 9) (v := ?_) rfl ?_ ?_
  rotate_left
  · intro u hSu; have hSv := blkCell hSu; clear hSu; go_simp; (try with_reducible rfl)
  try simp only [Act.put, List.setIfInBounds_toArray, List.set_cons_zero, List.set_cons_succ]
  refine tkW 2 (some 10) (v := ?_) rfl ?_ ?_
  rotate_left
  · intro u hSu; have hSv := blkCell hSu; clear hSu; go_simp; (try with_reducible rfl)
  try simp only [Act.put, List.setIfInBounds_toArray, List.set_cons_zero, List.set_cons_succ]
  refine tkW 3 (some 11) (v := ?_) rfl ?_ ?_
  rotate_left
  · intro u hSu; have hSv := blkCell hSu; clear hSu; go_simp; (try with_reducible rfl)
  try simp only [Act.put, List.setIfInBounds_toArray, List.set_cons_zero, List.set_cons_succ]
  refine tkW 4 (some 12) (v := ?_) rfl ?_ ?_
  rotate_left
  · intro u hSu; have hSv := blkCell hSu; clear hSu; go_simp; (try with_reducible rfl)
  try simp only [Act.put, List.setIfInBounds_toArray, List.set_cons_zero, List.set_cons_succ]
  refine tkW 5 (some 13) (v := ?_) rfl ?_ ?_
  rotate_left
  · intro u hSu; have hSv := blkCell hSu; clear hSu; go_simp; (try with_reducible rfl)
  try simp only [Act.put, List.setIfInBounds_toArray, List.set_cons_zero, List.set_cons_succ]
  refine tkW 6 (some 14) (v := ?_) rfl ?_ ?_
  rotate_left
  · intro u hSu; have hSv := blkCell hSu; clear hSu; go_simp; (try with_reducible rfl)
  try simp only [Act.put, List.setIfInBounds_toArray, List.set_cons_zero, List.set_cons_succ]
  refine tkW 7 (some 15) (v := ?_) rfl ?_ ?_
  rotate_left
  · intro u hSu; have hSv := blkCell hSu; clear hSu; go_simp; (try with_reducible rfl)
  try simp only [Act.put, List.setIfInBounds_toArray, List.set_cons_zero, List.set_cons_succ]
  refine tkW 8 (some 16) (v := ?_) rfl ?_ ?_
  rotate_left
  · intro u hSu; have hSv := blkCell hSu; clear hSu; go_simp; (try with_reducible rfl)
  try simp only [Act.put, List.setIfInBounds_toArray, List.set_cons_zero, List.set_cons_succ]
  refine rdH 9 (some 17) rfl (fun K hK => ?_)
  go_simp
  refine (HG.out _).mono ?_; rintro e w1 ⟨rfl, hw1⟩; have hb1 : Below w.drew.heap.size w.drew w1 := (by rw [← hw1]; exact Below.refl _ _); have hSn := blkOld HB.out ((Below.refl _ w).drew.trans hb1); try go_simp
  refine hK.out _ _ ?_ (fun hHeld => ?_)
  · first | exact hSn | exact HB.out
  clear hK K
  try simp only [Act.put, List.setIfInBounds_toArray, List.set_cons_zero, List.set_cons_succ]
  refine tkW 10 (some 7) (v := ?_) rfl ?_ ?_
  rotate_left
  · intro u hSu; have hSv := blkCell hSu; clear hSu; go_simp; (try with_reducible rfl)
  try simp only [Act.put, List.setIfInBounds_toArray, List.set_cons_zero, List.set_cons_succ]
  refine tkW 11 (some 18) (v := ?_) rfl ?_ ?_
  rotate_left
  · intro u hSu; have hSv := blkCell hSu; clear hSu; go_simp; (try with_reducible rfl)
  try simp only [Act.put, List.setIfInBounds_toArray, List.set_cons_zero, List.set_cons_succ]
  refine tkW 12 (some 19) (v := ?_) rfl ?_ ?_
  rotate_left
  · intro u hSu; have hSv := blkCell hSu; clear hSu; go_simp; (try with_reducible rfl)
  try simp only [Act.put, List.setIfInBounds_toArray, List.set_cons_zero, List.set_cons_succ]
  refine tkW 13 (some 5) (v := ?_) rfl ?_ ?_
  rotate_left
  · intro u hSu; have hSv := blkCell hSu; clear hSu; go_simp; (try with_reducible rfl)
  try simp only [Act.put, List.setIfInBounds_toArray, List.set_cons_zero, List.set_cons_succ]
  refine tkW 14 (some 6) (v := ?_) rfl ?_ ?_
  rotate_left
  · intro u hSu; have hSv := blkCell hSu; clear hSu; go_simp; (try with_reducible rfl)
  try simp only [Act.put, List.setIfInBounds_toArray, List.set_cons_zero, List.set_cons_succ]
  refine wpAnyH_done (by kernel_rfl) ?_ _
  have H1 := Lib.hid hHeld
  have HK := Lib.hid (show Below w.heap.size w w1 from (Below.refl _ w).drew.trans hb1)
  clear hHeld hSn hb1
  have c0 := blkCell H1.out 0
  have c1 := blkCell H1.out 1
  have c2 := blkCell H1.out 2
  have f1 := blkFrozen H1.out 1
  have f2 := blkFrozen H1.out 2
  simp at c0 c1 c2
  go_wp2_with fail
  go_ret
  refine ⟨rfl, ?_, ?_⟩
  · have h := blkSet 2 (blkSet 1 H1.out (.int .i64 ((a : Int) + (k : Int)))) (.bool true)
    first | exact h | simpa using h
  · refine ⟨HK.out.os, HK.out.tape, HK.out.output, by have := HK.out.size; simpa [World.setCell] using this, fun i hi hib => ?_⟩
    rw [Below.heap_setCell _ _ _ _ hib, Below.heap_setCell _ _ _ _ hib]
    exact HK.out.block i hi
set_option maxRecDepth 100000 in
set_option maxHeartbeats 1000000 in
theorem rnum_ft (b : Nat) (s : ByteArray) (a k : Nat) (h1 : 1 ≤ k) (h6 : k ≤ 6) (hm : s.size ≤ 1000000000) (ha : a ≤ 2000000000) (hin : ¬ a + k ≤ s.size) (w : World) (hb : w.heap[b]? = some (.cells (rdC s a true) 118 (0, 0))) :
    Calls Try.prog 63 #[.pointer (some ⟨b, 0, none⟩), .int .i64 (k : Int)] w fun e w' => e = .returned (.int .i64 (0)) ∧ w'.heap[b]? = some (.cells (rdC s (a + k) true) 118 (0, 0)) ∧ KeptB w.heap.size b w w' := by
  have HG := Lib.hid (fun W => get_no s a k (by omega) (by omega) (by omega) (by unfold Oct.there; simp; omega) W)
  have HB := Lib.hid hb
  have w1' : IntKind.i64.wrap ((a : Int) + (k : Int)) = (a : Int) + (k : Int) := IntWalk.i64_in _ (by omega)
  clear hb hin
  go_enter Try.func63, Try.ntmps63
  go_upto_region 1 with fail
  refine wp_region_held_drew (S := (fun u => u.heap[b]? = some (.cells (rdC s a true) 118 (0, 0)))) (by kernel_rfl) ?_ (fun hHeld => ?_)
  · first | exact hSn | exact HB.out
  refine tkW 0 (some 8) (v := ?_) rfl ?_ ?_
  rotate_left
  · intro u hSu; have hSv := blkCell hSu; clear hSu; go_simp; (try with_reducible rfl)
  try simp only [Act.put, List.setIfInBounds_toArray, List.set_cons_zero, List.set_cons_succ]
  refine tkW 1 (some 9) (v := ?_) rfl ?_ ?_
  rotate_left
  · intro u hSu; have hSv := blkCell hSu; clear hSu; go_simp; (try with_reducible rfl)
  try simp only [Act.put, List.setIfInBounds_toArray, List.set_cons_zero, List.set_cons_succ]
  refine tkW 2 (some 10) (v := ?_) rfl ?_ ?_
  rotate_left
  · intro u hSu; have hSv := blkCell hSu; clear hSu; go_simp; (try with_reducible rfl)
  try simp only [Act.put, List.setIfInBounds_toArray, List.set_cons_zero, List.set_cons_succ]
  refine tkW 3 (some 11) (v := ?_) rfl ?_ ?_
  rotate_left
  · intro u hSu; have hSv := blkCell hSu; clear hSu; go_simp; (try with_reducible rfl)
  try simp only [Act.put, List.setIfInBounds_toArray, List.set_cons_zero, List.set_cons_succ]
  refine tkW 4 (some 12) (v := ?_) rfl ?_ ?_
  rotate_left
  · intro u hSu; have hSv := blkCell hSu; clear hSu; go_simp; (try with_reducible rfl)
  try simp only [Act.put, List.setIfInBounds_toArray, List.set_cons_zero, List.set_cons_succ]
  refine tkW 5 (some 13) (v := ?_) rfl ?_ ?_
  rotate_left
  · intro u hSu; have hSv := blkCell hSu; clear hSu; go_simp; (try with_reducible rfl)
  try simp only [Act.put, List.setIfInBounds_toArray, List.set_cons_zero, List.set_cons_succ]
  refine tkW 6 (some 14) (v := ?_) rfl ?_ ?_
  rotate_left
  · intro u hSu; have hSv := blkCell hSu; clear hSu; go_simp; (try with_reducible rfl)
  try simp only [Act.put, List.setIfInBounds_toArray, List.set_cons_zero, List.set_cons_succ]
  refine tkW 7 (some 15) (v := ?_) rfl ?_ ?_
  rotate_left
  · intro u hSu; have hSv := blkCell hSu; clear hSu; go_simp; (try with_reducible rfl)
  try simp only [Act.put, List.setIfInBounds_toArray, List.set_cons_zero, List.set_cons_succ]
  refine tkW 8 (some 16) (v := ?_) rfl ?_ ?_
  rotate_left
  · intro u hSu; have hSv := blkCell hSu; clear hSu; go_simp; (try with_reducible rfl)
  try simp only [Act.put, List.setIfInBounds_toArray, List.set_cons_zero, List.set_cons_succ]
  refine rdH 9 (some 17) rfl (fun K hK => ?_)
  go_simp
  refine (HG.out _).mono ?_; rintro e w1 ⟨rfl, hw1⟩; have hb1 : Below w.drew.heap.size w.drew w1 := (by rw [← hw1]; exact Below.refl _ _); have hSn := blkOld HB.out ((Below.refl _ w).drew.trans hb1); try go_simp
  refine hK.out _ _ ?_ (fun hHeld => ?_)
  · first | exact hSn | exact HB.out
  clear hK K
  try simp only [Act.put, List.setIfInBounds_toArray, List.set_cons_zero, List.set_cons_succ]
  refine tkW 10 (some 7) (v := ?_) rfl ?_ ?_
  rotate_left
  · intro u hSu; have hSv := blkCell hSu; clear hSu; go_simp; (try with_reducible rfl)
  try simp only [Act.put, List.setIfInBounds_toArray, List.set_cons_zero, List.set_cons_succ]
  refine tkW 11 (some 18) (v := ?_) rfl ?_ ?_
  rotate_left
  · intro u hSu; have hSv := blkCell hSu; clear hSu; go_simp; (try with_reducible rfl)
  try simp only [Act.put, List.setIfInBounds_toArray, List.set_cons_zero, List.set_cons_succ]
  refine tkW 12 (some 19) (v := ?_) rfl ?_ ?_
  rotate_left
  · intro u hSu; have hSv := blkCell hSu; clear hSu; go_simp; (try with_reducible rfl)
  try simp only [Act.put, List.setIfInBounds_toArray, List.set_cons_zero, List.set_cons_succ]
  refine tkW 13 (some 5) (v := ?_) rfl ?_ ?_
  rotate_left
  · intro u hSu; have hSv := blkCell hSu; clear hSu; go_simp; (try with_reducible rfl)
  try simp only [Act.put, List.setIfInBounds_toArray, List.set_cons_zero, List.set_cons_succ]
  refine tkW 14 (some 6) (v := ?_) rfl ?_ ?_
  rotate_left
  · intro u hSu; have hSv := blkCell hSu; clear hSu; go_simp; (try with_reducible rfl)
  try simp only [Act.put, List.setIfInBounds_toArray, List.set_cons_zero, List.set_cons_succ]
  refine wpAnyH_done (by kernel_rfl) ?_ _
  have H1 := Lib.hid hHeld
  have HK := Lib.hid (show Below w.heap.size w w1 from (Below.refl _ w).drew.trans hb1)
  clear hHeld hSn hb1
  have c0 := blkCell H1.out 0
  have c1 := blkCell H1.out 1
  have c2 := blkCell H1.out 2
  have f1 := blkFrozen H1.out 1
  have f2 := blkFrozen H1.out 2
  simp at c0 c1 c2
  go_wp2_with fail
  go_ret
  refine ⟨rfl, ?_, ?_⟩
  · have h := blkSet 2 (blkSet 1 H1.out (.int .i64 ((a : Int) + (k : Int)))) (.bool true)
    first | exact h | simpa using h
  · refine ⟨HK.out.os, HK.out.tape, HK.out.output, by have := HK.out.size; simpa [World.setCell] using this, fun i hi hib => ?_⟩
    rw [Below.heap_setCell _ _ _ _ hib, Below.heap_setCell _ _ _ _ hib]
    exact HK.out.block i hi
end Go.Proofs.Ythfglhafphfhiaa
/- The walk over package rec: a reader's num, as the plain reader has it. -/
namespace Go.Proofs.Ythfglhafphfhiaa
open Go.RowKit
theorem rnum_any (b : Nat) (s : ByteArray) (x : Rc.St) (k : Nat) (h1 : 1 ≤ k) (h6 : k ≤ 6) (hm : s.size ≤ 1000000000) (ha : x.at_ ≤ 2000000000) (w : World) (hb : w.heap[b]? = some (.cells (rdC s x.at_ x.bad) 118 (0, 0))) :
    Calls Try.prog 63 #[.pointer (some ⟨b, 0, none⟩), .int .i64 (k : Int)] w fun e w' => e = .returned (.int .i64 (Rc.numM true s.data.toList x k).1) ∧ w'.heap[b]? = some (.cells (rdC s (Rc.numM true s.data.toList x k).2.at_ (Rc.numM true s.data.toList x k).2.bad) 118 (0, 0)) ∧ KeptB w.heap.size b w w' := by
  obtain ⟨a, bad⟩ := x
  have hl : s.data.toList.length = s.size := by simp
  by_cases hin : a + k ≤ s.size
  · have hp := getN_small s.data.toList a k
    have h2 : 256 ^ k ≤ 256 ^ 6 := Nat.pow_le_pow_right (by omega) h6
    have h3 : Oct.getN s.data.toList a k < 281474976710656 := Nat.lt_of_lt_of_le hp h2
    have hi : Oct.intOf (Oct.getN s.data.toList a k) = ((Oct.getN s.data.toList a k : Nat) : Int) := by unfold Oct.intOf; rw [if_pos (by omega)]
    have hN : Rc.numM true s.data.toList ⟨a, bad⟩ k = (((Oct.getN s.data.toList a k : Nat) : Int), (⟨a + k, bad⟩ : Rc.St)) := by unfold Rc.numM; rw [if_pos (by show a + k ≤ _; omega)]
    rw [hN, ← hi]
    cases bad with
    | false => exact rnum_tf b s a k h1 h6 hm ha hin w hb
    | true => exact rnum_tt b s a k h1 h6 hm ha hin w hb
  · have hN : Rc.numM true s.data.toList ⟨a, bad⟩ k = ((0 : Int), (⟨a + k, true⟩ : Rc.St)) := by unfold Rc.numM; rw [if_neg (by show ¬ a + k ≤ _; omega)]; rfl
    rw [hN]
    cases bad with
    | false => exact rnum_ff b s a k h1 h6 hm ha hin w hb
    | true => exact rnum_ft b s a k h1 h6 hm ha hin w hb
end Go.Proofs.Ythfglhafphfhiaa
/- The walk over package rec: a reader's text. -/
namespace Go.Proofs.Ythfglhafphfhiaa
open Go.RowKit
theorem extract_list (s : ByteArray) (a n : Nat) : s.extract a (a + n) = ⟨((s.data.toList.drop a).take n).toArray⟩ := by
  apply ByteArray.ext
  rw [ByteArray.data_extract]
  apply Array.toList_inj.1
  rw [Array.toList_extract, List.extract_eq_take_drop]
  simp
set_option maxRecDepth 100000 in
set_option maxHeartbeats 1000000 in
theorem rtext_t (b : Nat) (s : ByteArray) (a : Nat) (bad : Bool) (x : ByteArray) (q : Nat) (hg : ∀ W, Calls Try.prog 82 #[.string s, .int .i64 (a : Int)] W fun e w' => e = .returned (.tuple #[.string x, .int .i64 (q : Int), .bool true]) ∧ Below W.heap.size W w') (w : World) (hb : w.heap[b]? = some (.cells (rdC s a bad) 118 (0, 0))) :
    Calls Try.prog 65 #[.pointer (some ⟨b, 0, none⟩)] w fun e w' => e = .returned (.string x) ∧ w'.heap[b]? = some (.cells (rdC s q bad) 118 (0, 0)) ∧ KeptB w.heap.size b w w' := by
  have HG := Lib.hid hg
  have HB := Lib.hid hb
  clear hb hg
  go_enter Try.func65, Try.ntmps65
  go_upto_region 1 with fail
  refine wp_region_held_drew (S := (fun u => u.heap[b]? = some (.cells (rdC s a bad) 118 (0, 0)))) (by kernel_rfl) ?_ (fun hHeld => ?_)
  · first | exact hSn | exact HB.out
  refine tkW 0 (some 7) (v := ?_) rfl ?_ ?_
  rotate_left
  · intro u hSu; have hSv := blkCell hSu; clear hSu; go_simp; (try with_reducible rfl)
  try simp only [Act.put, List.setIfInBounds_toArray, List.set_cons_zero, List.set_cons_succ]
  refine tkW 1 (some 8) (v := ?_) rfl ?_ ?_
  rotate_left
  · intro u hSu; have hSv := blkCell hSu; clear hSu; go_simp; (try with_reducible rfl)
  try simp only [Act.put, List.setIfInBounds_toArray, List.set_cons_zero, List.set_cons_succ]
  refine tkW 2 (some 9) (v := ?_) rfl ?_ ?_
  rotate_left
  · intro u hSu; have hSv := blkCell hSu; clear hSu; go_simp; (try with_reducible rfl)
  try simp only [Act.put, List.setIfInBounds_toArray, List.set_cons_zero, List.set_cons_succ]
  refine tkW 3 (some 10) (v := ?_) rfl ?_ ?_
  rotate_left
  · intro u hSu; have hSv := blkCell hSu; clear hSu; go_simp; (try with_reducible rfl)
  try simp only [Act.put, List.setIfInBounds_toArray, List.set_cons_zero, List.set_cons_succ]
  refine tkW 4 (some 11) (v := ?_) rfl ?_ ?_
  rotate_left
  · intro u hSu; have hSv := blkCell hSu; clear hSu; go_simp; (try with_reducible rfl)
  try simp only [Act.put, List.setIfInBounds_toArray, List.set_cons_zero, List.set_cons_succ]
  refine tkW 5 (some 12) (v := ?_) rfl ?_ ?_
  rotate_left
  · intro u hSu; have hSv := blkCell hSu; clear hSu; go_simp; (try with_reducible rfl)
  try simp only [Act.put, List.setIfInBounds_toArray, List.set_cons_zero, List.set_cons_succ]
  refine tkW 6 (some 13) (v := ?_) rfl ?_ ?_
  rotate_left
  · intro u hSu; have hSv := blkCell hSu; clear hSu; go_simp; (try with_reducible rfl)
  try simp only [Act.put, List.setIfInBounds_toArray, List.set_cons_zero, List.set_cons_succ]
  refine tkW 7 (some 14) (v := ?_) rfl ?_ ?_
  rotate_left
  · intro u hSu; have hSv := blkCell hSu; clear hSu; go_simp; (try with_reducible rfl)
  try simp only [Act.put, List.setIfInBounds_toArray, List.set_cons_zero, List.set_cons_succ]
  refine rdH 8 (some 15) rfl (fun K hK => ?_)
  go_simp
  refine (HG.out _).mono ?_; rintro e w1 ⟨rfl, hb1⟩; have hSn := blkOld HB.out ((Below.refl _ w).drew.trans hb1); try go_simp
  refine hK.out _ _ ?_ (fun hHeld => ?_)
  · first | exact hSn | exact HB.out
  clear hK K
  try simp only [Act.put, List.setIfInBounds_toArray, List.set_cons_zero, List.set_cons_succ]
  refine tkW 9 (some 6) (v := ?_) rfl ?_ ?_
  rotate_left
  · intro u hSu; have hSv := blkCell hSu; clear hSu; go_simp; (try with_reducible rfl)
  try simp only [Act.put, List.setIfInBounds_toArray, List.set_cons_zero, List.set_cons_succ]
  refine tkW 10 (some 16) (v := ?_) rfl ?_ ?_
  rotate_left
  · intro u hSu; have hSv := blkCell hSu; clear hSu; go_simp; (try with_reducible rfl)
  try simp only [Act.put, List.setIfInBounds_toArray, List.set_cons_zero, List.set_cons_succ]
  refine tkW 11 (some 17) (v := ?_) rfl ?_ ?_
  rotate_left
  · intro u hSu; have hSv := blkCell hSu; clear hSu; go_simp; (try with_reducible rfl)
  try simp only [Act.put, List.setIfInBounds_toArray, List.set_cons_zero, List.set_cons_succ]
  refine tkW 12 (some 18) (v := ?_) rfl ?_ ?_
  rotate_left
  · intro u hSu; have hSv := blkCell hSu; clear hSu; go_simp; (try with_reducible rfl)
  try simp only [Act.put, List.setIfInBounds_toArray, List.set_cons_zero, List.set_cons_succ]
  refine tkW 13 (some 3) (v := ?_) rfl ?_ ?_
  rotate_left
  · intro u hSu; have hSv := blkCell hSu; clear hSu; go_simp; (try with_reducible rfl)
  try simp only [Act.put, List.setIfInBounds_toArray, List.set_cons_zero, List.set_cons_succ]
  refine tkW 14 (some 4) (v := ?_) rfl ?_ ?_
  rotate_left
  · intro u hSu; have hSv := blkCell hSu; clear hSu; go_simp; (try with_reducible rfl)
  try simp only [Act.put, List.setIfInBounds_toArray, List.set_cons_zero, List.set_cons_succ]
  refine tkW 15 (some 5) (v := ?_) rfl ?_ ?_
  rotate_left
  · intro u hSu; have hSv := blkCell hSu; clear hSu; go_simp; (try with_reducible rfl)
  try simp only [Act.put, List.setIfInBounds_toArray, List.set_cons_zero, List.set_cons_succ]
  refine wpAnyH_done (by kernel_rfl) ?_ _
  have H1 := Lib.hid hHeld
  have HK := Lib.hid (show Below w.heap.size w w1 from (Below.refl _ w).drew.trans hb1)
  clear hHeld hSn hb1
  have c0 := blkCell H1.out 0
  have c1 := blkCell H1.out 1
  have c2 := blkCell H1.out 2
  have f1 := blkFrozen H1.out 1
  have f2 := blkFrozen H1.out 2
  simp at c0 c1 c2
  go_wp2_with fail
  go_ret
  refine ⟨rfl, ?_, ?_⟩
  · have h := blkSet 1 H1.out (.int .i64 (q : Int))
    first | exact h | simpa using h
  · refine ⟨HK.out.os, HK.out.tape, HK.out.output, by have := HK.out.size; simpa [World.setCell] using this, fun i hi hib => ?_⟩
    rw [Below.heap_setCell _ _ _ _ hib]
    exact HK.out.block i hi
set_option maxRecDepth 100000 in
set_option maxHeartbeats 1000000 in
theorem rtext_f (b : Nat) (s : ByteArray) (a : Nat) (bad : Bool) (hg : ∀ W, Calls Try.prog 82 #[.string s, .int .i64 (a : Int)] W fun e w' => e = .returned (.tuple #[.string ⟨#[]⟩, .int .i64 0, .bool false]) ∧ Below W.heap.size W w') (w : World) (hb : w.heap[b]? = some (.cells (rdC s a bad) 118 (0, 0))) :
    Calls Try.prog 65 #[.pointer (some ⟨b, 0, none⟩)] w fun e w' => e = .returned (.string ⟨#[]⟩) ∧ w'.heap[b]? = some (.cells (rdC s a true) 118 (0, 0)) ∧ KeptB w.heap.size b w w' := by
  have HG := Lib.hid hg
  have HB := Lib.hid hb
  clear hb hg
  go_enter Try.func65, Try.ntmps65
  go_upto_region 1 with fail
  refine wp_region_held_drew (S := (fun u => u.heap[b]? = some (.cells (rdC s a bad) 118 (0, 0)))) (by kernel_rfl) ?_ (fun hHeld => ?_)
  · first | exact hSn | exact HB.out
  refine tkW 0 (some 7) (v := ?_) rfl ?_ ?_
  rotate_left
  · intro u hSu; have hSv := blkCell hSu; clear hSu; go_simp; (try with_reducible rfl)
  try simp only [Act.put, List.setIfInBounds_toArray, List.set_cons_zero, List.set_cons_succ]
  refine tkW 1 (some 8) (v := ?_) rfl ?_ ?_
  rotate_left
  · intro u hSu; have hSv := blkCell hSu; clear hSu; go_simp; (try with_reducible rfl)
  try simp only [Act.put, List.setIfInBounds_toArray, List.set_cons_zero, List.set_cons_succ]
  refine tkW 2 (some 9) (v := ?_) rfl ?_ ?_
  rotate_left
  · intro u hSu; have hSv := blkCell hSu; clear hSu; go_simp; (try with_reducible rfl)
  try simp only [Act.put, List.setIfInBounds_toArray, List.set_cons_zero, List.set_cons_succ]
  refine tkW 3 (some 10) (v := ?_) rfl ?_ ?_
  rotate_left
  · intro u hSu; have hSv := blkCell hSu; clear hSu; go_simp; (try with_reducible rfl)
  try simp only [Act.put, List.setIfInBounds_toArray, List.set_cons_zero, List.set_cons_succ]
  refine tkW 4 (some 11) (v := ?_) rfl ?_ ?_
  rotate_left
  · intro u hSu; have hSv := blkCell hSu; clear hSu; go_simp; (try with_reducible rfl)
  try simp only [Act.put, List.setIfInBounds_toArray, List.set_cons_zero, List.set_cons_succ]
  refine tkW 5 (some 12) (v := ?_) rfl ?_ ?_
  rotate_left
  · intro u hSu; have hSv := blkCell hSu; clear hSu; go_simp; (try with_reducible rfl)
  try simp only [Act.put, List.setIfInBounds_toArray, List.set_cons_zero, List.set_cons_succ]
  refine tkW 6 (some 13) (v := ?_) rfl ?_ ?_
  rotate_left
  · intro u hSu; have hSv := blkCell hSu; clear hSu; go_simp; (try with_reducible rfl)
  try simp only [Act.put, List.setIfInBounds_toArray, List.set_cons_zero, List.set_cons_succ]
  refine tkW 7 (some 14) (v := ?_) rfl ?_ ?_
  rotate_left
  · intro u hSu; have hSv := blkCell hSu; clear hSu; go_simp; (try with_reducible rfl)
  try simp only [Act.put, List.setIfInBounds_toArray, List.set_cons_zero, List.set_cons_succ]
  refine rdH 8 (some 15) rfl (fun K hK => ?_)
  go_simp
  refine (HG.out _).mono ?_; rintro e w1 ⟨rfl, hb1⟩; have hSn := blkOld HB.out ((Below.refl _ w).drew.trans hb1); try go_simp
  refine hK.out _ _ ?_ (fun hHeld => ?_)
  · first | exact hSn | exact HB.out
  clear hK K
  try simp only [Act.put, List.setIfInBounds_toArray, List.set_cons_zero, List.set_cons_succ]
  refine tkW 9 (some 6) (v := ?_) rfl ?_ ?_
  rotate_left
  · intro u hSu; have hSv := blkCell hSu; clear hSu; go_simp; (try with_reducible rfl)
  try simp only [Act.put, List.setIfInBounds_toArray, List.set_cons_zero, List.set_cons_succ]
  refine tkW 10 (some 16) (v := ?_) rfl ?_ ?_
  rotate_left
  · intro u hSu; have hSv := blkCell hSu; clear hSu; go_simp; (try with_reducible rfl)
  try simp only [Act.put, List.setIfInBounds_toArray, List.set_cons_zero, List.set_cons_succ]
  refine tkW 11 (some 17) (v := ?_) rfl ?_ ?_
  rotate_left
  · intro u hSu; have hSv := blkCell hSu; clear hSu; go_simp; (try with_reducible rfl)
  try simp only [Act.put, List.setIfInBounds_toArray, List.set_cons_zero, List.set_cons_succ]
  refine tkW 12 (some 18) (v := ?_) rfl ?_ ?_
  rotate_left
  · intro u hSu; have hSv := blkCell hSu; clear hSu; go_simp; (try with_reducible rfl)
  try simp only [Act.put, List.setIfInBounds_toArray, List.set_cons_zero, List.set_cons_succ]
  refine tkW 13 (some 3) (v := ?_) rfl ?_ ?_
  rotate_left
  · intro u hSu; have hSv := blkCell hSu; clear hSu; go_simp; (try with_reducible rfl)
  try simp only [Act.put, List.setIfInBounds_toArray, List.set_cons_zero, List.set_cons_succ]
  refine tkW 14 (some 4) (v := ?_) rfl ?_ ?_
  rotate_left
  · intro u hSu; have hSv := blkCell hSu; clear hSu; go_simp; (try with_reducible rfl)
  try simp only [Act.put, List.setIfInBounds_toArray, List.set_cons_zero, List.set_cons_succ]
  refine tkW 15 (some 5) (v := ?_) rfl ?_ ?_
  rotate_left
  · intro u hSu; have hSv := blkCell hSu; clear hSu; go_simp; (try with_reducible rfl)
  try simp only [Act.put, List.setIfInBounds_toArray, List.set_cons_zero, List.set_cons_succ]
  refine wpAnyH_done (by kernel_rfl) ?_ _
  have H1 := Lib.hid hHeld
  have HK := Lib.hid (show Below w.heap.size w w1 from (Below.refl _ w).drew.trans hb1)
  clear hHeld hSn hb1
  have c0 := blkCell H1.out 0
  have c1 := blkCell H1.out 1
  have c2 := blkCell H1.out 2
  have f1 := blkFrozen H1.out 1
  have f2 := blkFrozen H1.out 2
  simp at c0 c1 c2
  go_wp2_with fail
  go_ret
  refine ⟨rfl, ?_, ?_⟩
  · have h := blkSet 2 H1.out (.bool true)
    first | exact h | simpa using h
  · refine ⟨HK.out.os, HK.out.tape, HK.out.output, by have := HK.out.size; simpa [World.setCell] using this, fun i hi hib => ?_⟩
    rw [Below.heap_setCell _ _ _ _ hib]
    exact HK.out.block i hi
theorem rtext_any (b : Nat) (s : ByteArray) (x : Rc.St) (hm : s.size ≤ 1000000000) (ha : x.at_ ≤ 2000000000) (w : World) (hb : w.heap[b]? = some (.cells (rdC s x.at_ x.bad) 118 (0, 0))) :
    Calls Try.prog 65 #[.pointer (some ⟨b, 0, none⟩)] w fun e w' => e = .returned (.string (Rc.textM s.data.toList x).1) ∧ w'.heap[b]? = some (.cells (rdC s (Rc.textM s.data.toList x).2.at_ (Rc.textM s.data.toList x).2.bad) 118 (0, 0)) ∧ KeptB w.heap.size b w w' := by
  obtain ⟨a, bad⟩ := x
  have hl : s.data.toList.length = s.size := by simp
  have HG := fun W => getText_any s a hm ha W
  by_cases hin : a + 2 + Oct.getN s.data.toList a 2 ≤ s.size
  · have hN : Rc.textM s.data.toList ⟨a, bad⟩ = (s.extract (a + 2) (a + 2 + Oct.getN s.data.toList a 2), (⟨a + 2 + Oct.getN s.data.toList a 2, bad⟩ : Rc.St)) := by
      unfold Rc.textM
      rw [if_pos (by show a + 2 + Oct.getN s.data.toList a 2 ≤ _; omega), extract_list]
    rw [hN]
    simp only [if_pos hin] at HG
    exact rtext_t b s a bad _ _ HG w hb
  · have hN : Rc.textM s.data.toList ⟨a, bad⟩ = (⟨#[]⟩, (⟨a, true⟩ : Rc.St)) := by
      unfold Rc.textM
      rw [if_neg (by show ¬ a + 2 + Oct.getN s.data.toList a 2 ≤ _; omega)]
    rw [hN]
    simp only [if_neg hin] at HG
    exact rtext_f b s a bad HG w hb
end Go.Proofs.Ythfglhafphfhiaa
