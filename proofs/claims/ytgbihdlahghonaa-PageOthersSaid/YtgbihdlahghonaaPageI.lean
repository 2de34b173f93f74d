/- The walks over package page and its reference: the reference's Get. -/
import Derived.Test.YtgbihdlahghonaaPageH
namespace Go.Proofs.Ytgbihdlahghonaa
open Go.RowKit

theorem bytes_nil {r : ByteArray} (h : r.size = 0) : r = ⟨#[]⟩ := by
  apply ByteArray.ext
  exact Array.eq_empty_of_size_eq_zero h

set_option maxRecDepth 100000 in
set_option maxHeartbeats 1000000 in
theorem rget_any_rec (p : ByteArray) (i : Int) (hm : p.size ≤ 1048576) (w : World) :
    Calls Try.prog 16 #[.string p, .int .i64 i] w fun e w' => e = .returned (.tuple #[.string (Pg.slotAt (leafP p).recs i), .bool (!decide ((Pg.slotAt (leafP p).recs i).size = 0))]) ∧ Below w.heap.size w w' := by
  have HT := Lib.hid (fun W => rpart_any p hm W)
  generalize leafP p = x at HT ⊢
  by_cases h1 : i < 0
  · rw [Pg.slotAt_neg h1]
    go_enter Try.func16, Try.ntmps16
    go_wp2_with (go_at_call 77; refine (HT.out _).mono ?_; rintro e w1 ⟨A, c, rfl, hcl, hb1⟩)
    refine bodyPost_ret (v := .tuple #[.string ⟨#[]⟩, .bool false]) (by simp [results, Try.results16, go_sem]) rfl ?_
    exact ⟨rfl, below_past_alloc hb1⟩
  · by_cases h2 : (x.recs.length : Int) ≤ i
    · rw [Pg.slotAt_past h2]
      go_enter Try.func16, Try.ntmps16
      go_wp2_with (go_at_call 77; refine (HT.out _).mono ?_; rintro e w1 ⟨A, c, rfl, hcl, hb1⟩)
      refine bodyPost_ret (v := .tuple #[.string ⟨#[]⟩, .bool false]) (by simp [results, Try.results16, go_sem]) rfl ?_
      exact ⟨rfl, below_past_alloc hb1⟩
    · obtain ⟨k, rfl⟩ := Int.eq_ofNat_of_zero_le (show 0 ≤ i by omega)
      have hk : k < x.recs.length := by omega
      rw [Pg.slotAt_in hk]
      have h3 : (k : Int) < (x.recs.length : Int) := by omega
      have h4 : (0 : Int) ≤ (k : Int) := by omega
      clear h1 h2
      obtain ⟨r, hr⟩ : ∃ r, r = x.recs[k] := ⟨_, rfl⟩
      rw [← hr]
      have HR := Lib.hid hr
      clear hr
      have hie : r.toList.isEmpty = decide (r.size = 0) := empty_iff r
      by_cases he : r.size = 0
      · rw [decide_eq_true he] at hie ⊢
        rw [bytes_nil he] at hie HR ⊢
        clear he
        go_enter Try.func16, Try.ntmps16
        go_wp2_with (go_at_call 77; refine (HT.out _).mono ?_; rintro e w1 ⟨A, c, rfl, hcl, hb1⟩; obtain ⟨b, off, rfl, hc, hbl, hcell⟩ := hcl.cells.at_ hk; rw [← HR.out] at hcell)
        refine bodyPost_ret (v := .tuple #[.string ⟨#[]⟩, .bool false]) (by simp [results, Try.results16, go_sem]) rfl ?_
        exact ⟨rfl, below_past_alloc hb1⟩
      · rw [decide_eq_false he] at hie ⊢
        clear he
        go_enter Try.func16, Try.ntmps16
        go_wp2_with (go_at_call 77; refine (HT.out _).mono ?_; rintro e w1 ⟨A, c, rfl, hcl, hb1⟩; obtain ⟨b, off, rfl, hc, hbl, hcell⟩ := hcl.cells.at_ hk; rw [← HR.out] at hcell)
        refine bodyPost_ret (v := .tuple #[.string r, .bool true]) (by simp [results, Try.results16, go_sem]) rfl ?_
        exact ⟨rfl, below_past_alloc hb1⟩
end Go.Proofs.Ytgbihdlahghonaa
