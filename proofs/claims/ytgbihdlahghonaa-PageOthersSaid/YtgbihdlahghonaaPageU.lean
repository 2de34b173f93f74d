/- The records of a page with a slot turned: the reference's with. -/
import Derived.Test.YtgbihdlahghonaaPageT
namespace Go.Proofs.Ytgbihdlahghonaa
open Go.RowKit

set_option maxRecDepth 100000 in
set_option maxHeartbeats 2000000 in
theorem rwith_far (A : Option Addr) (c n : Nat) (i : Int) (r : ByteArray) (h : 512 < i) (w : World) :
    Calls Try.prog 90 #[.slice A n c, .int .i64 i, .string r] w fun e w' => e = .returned (.tuple #[.slice none 0 0, .bool false]) ∧ w = w' := by
  go_enter Try.func90, Try.ntmps90
  go_wp2_with fail
  go_ret2
  exact ⟨rfl, rfl⟩

set_option maxRecDepth 100000 in
set_option maxHeartbeats 2000000 in
theorem rwith_any (rs : List ByteArray) (A : Option Addr) (c k : Nat) (r : ByteArray) (hl : rs.length ≤ 4096) (hk : k ≤ 512) (w : World) (h : Cells w A c rs) :
    Calls Try.prog 90 #[.slice A rs.length c, .int .i64 (k : Int), .string r] w fun e w' => ∃ A' c', e = .returned (.tuple #[.slice A' (Pg.putAt rs k r).length c', .bool true]) ∧ OwnCells w.heap.size w' A' c' (Pg.putAt rs k r) ∧ Below w.heap.size w w' := by
  have hk5 : (k : Int) ≤ 512 := by omega
  go_enter Try.func90, Try.ntmps90
  go_wp2_with (at_builtin; refine wpList_app _ rfl _ _ rfl w.heap.size (.slice none 0 0) [] rfl (OwnT.nil _ _) A c rs rfl h (by simp; omega) (Nat.le_refl _) ?_; intro v1 w1 hown1 hg1 hb1)
  rw [List.nil_append] at hown1
  have HC := Lib.hid h
  have HB := Lib.hid hb1
  clear hg1 h hk5 hb1
  go_loopw [8] (fun v wr => ∃ j, j ≤ k + 1 - rs.length ∧ OwnT w.heap.size wr v (Pg.upTo rs j) ∧ Below w.heap.size w wr) (fun v _ => 8193 - lenV v)
  case atStart => exact ⟨0, Nat.zero_le _, by simpa [Pg.upTo] using hown1, HB.out⟩
  case round =>
    obtain ⟨j, hj, hown, hb⟩ := hrel
    have hwr := hb.size
    have hln := Pg.upTo_length rs j
    have HS := Lib.hid (Pg.upTo_succ rs j)
    obtain ⟨L, hL⟩ : ∃ L, L = Pg.upTo rs j := ⟨_, rfl⟩
    rw [← hL] at hown hln HS
    have HL := Lib.hid hL
    have HLN := Lib.hid hln
    clear hL
    obtain ⟨Av, cv, rfl, hoc, -⟩ := hown.form
    by_cases hlt : L.length ≤ k
    · have hj2 : j + 1 ≤ k + 1 - rs.length := by omega
      clear hln hoc
      go_wp2_with (at_builtin; refine wpList_app _ rfl _ _ rfl w.heap.size _ L rfl (hown.below ((Below.refl _ _).alloc (Nat.le_refl _) _)) _ 1 [⟨#[]⟩] rfl (cells_one wr _) (by simp; omega) (by simp; omega) ?_; intro v2 w2 hown2 hg2 hb2)
      have hb3 : Below w.heap.size w w2 := hb.trans (((Below.refl _ _).alloc (by omega) _).trans hb2)
      rw [← HS.out] at hown2
      have hf : ∃ A' c', v2 = .slice A' (L.length + 1) c' := by
        obtain ⟨A', c', rfl, -⟩ := hown2.form
        exact ⟨A', c', by rw [HS.out, List.length_append]; rfl⟩
      obtain ⟨A', c', rfl⟩ := hf
      clear hg2
      go_roundw
      case rel => exact ⟨j + 1, hj2, hown2, hb3⟩
      case measure => simp [lenV]; omega
    · have hj3 : j = k + 1 - rs.length := by omega
      have hkl : k < L.length := by omega
      obtain ⟨g, cv', hv, hg, hcv, hgl, hcell, hfz⟩ := own_some hown (by omega)
      injection hv with hA hn hcc
      subst hA
      subst hcc
      have hck := hcell k hkl
      have hfk := hfz k
      have hst := own_stored hown k r
      have hset : L.set k r = Pg.putAt rs k r := by rw [HL.out, hj3]; rfl
      rw [hset] at hst
      have HST := Lib.hid hst
      have hLl : (Pg.putAt rs k r).length = L.length := by rw [← hset, List.length_set]
      have HSE := Lib.hid hLl
      have hk0 : (0 : Int) ≤ (k : Int) := by omega
      have hk1 : (k : Int) < (L.length : Int) := by omega
      clear hcell hfz hst hset hLl hj3 hln hoc
      go_wp2_with fail
      go_ret2
      exact ⟨some ⟨g, 0, none⟩, cv, (by rw [HSE.out]; rfl), own_cells HST.out rfl, hb.setCell hg _⟩
end Go.Proofs.Ytgbihdlahghonaa
