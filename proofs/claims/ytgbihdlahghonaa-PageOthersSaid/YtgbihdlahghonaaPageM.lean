/- The walks over package page and its reference: a new page. -/
import Derived.Test.YtgbihdlahghonaaPageL
namespace Go.Proofs.Ytgbihdlahghonaa
open Go.RowKit

/-- A new page of a kind; empty: there is no such kind. -/
def newB (n : Int) : ByteArray := if n < 0 ∨ 4 < n then ⟨#[]⟩ else ⟨(Pg.layL ⟨0, n.toNat, 0, []⟩).toArray⟩

set_option maxRecDepth 100000 in
set_option maxHeartbeats 1000000 in
theorem new_any (n : Int) (w : World) :
    Calls Try.prog 37 #[.int .i64 n] w fun e w' => e = .returned (.string (newB n)) ∧ Below w.heap.size w w' := by
  by_cases h1 : n < 0
  · rw [show newB n = ⟨#[]⟩ from if_pos (.inl h1)]
    go_enter Try.func37, Try.ntmps37
    go_wp2_with fail
    go_ret
    exact ⟨rfl, Below.refl _ _⟩
  · by_cases h2 : 4 < n
    · rw [show newB n = ⟨#[]⟩ from if_pos (.inr h2)]
      go_enter Try.func37, Try.ntmps37
      go_wp2_with fail
      go_ret
      exact ⟨rfl, Below.refl _ _⟩
    · obtain ⟨k, rfl⟩ := Int.eq_ofNat_of_zero_le (show 0 ≤ n by omega)
      have HM := Lib.hid (fun W => made_any ⟨0, k, 0, []⟩ none 0 ⟨(by show 0 < 281474976710656; omega), (by show k ≤ 4; omega), (by show 0 < 16777216; omega)⟩ (by show 19 ≤ 1099511627776; omega) W (fun h0 => by simp at h0))
      rw [show newB (k : Int) = ⟨(Pg.layL ⟨0, k, 0, []⟩).toArray⟩ by unfold newB; rw [if_neg (by omega)]; rfl]
      generalize (⟨(Pg.layL ⟨0, k, 0, []⟩).toArray⟩ : ByteArray) = q at HM ⊢
      have h3 : (0 : Int) ≤ (k : Int) := by omega
      have h4 : (k : Int) ≤ 4 := by omega
      clear h1 h2
      go_enter Try.func37, Try.ntmps37
      go_wp2_with (go_at_call 87; refine (HM.out _).mono ?_; rintro e w1 ⟨rfl, hb1⟩)
      go_ret
      exact ⟨rfl, hb1⟩
set_option maxRecDepth 100000 in
set_option maxHeartbeats 1000000 in
theorem rnew_any (n : Int) (w : World) :
    Calls Try.prog 38 #[.int .i64 n] w fun e w' => e = .returned (.string (newB n)) ∧ Below w.heap.size w w' := by
  by_cases h1 : n < 0
  · rw [show newB n = ⟨#[]⟩ from if_pos (.inl h1)]
    go_enter Try.func38, Try.ntmps38
    go_wp2_with fail
    go_ret
    exact ⟨rfl, Below.refl _ _⟩
  · by_cases h2 : 4 < n
    · rw [show newB n = ⟨#[]⟩ from if_pos (.inr h2)]
      go_enter Try.func38, Try.ntmps38
      go_wp2_with fail
      go_ret
      exact ⟨rfl, Below.refl _ _⟩
    · obtain ⟨k, rfl⟩ := Int.eq_ofNat_of_zero_le (show 0 ≤ n by omega)
      have HM := Lib.hid (fun W => rlay_any ⟨0, k, 0, []⟩ none 0 ⟨(by show 0 < 281474976710656; omega), (by show k ≤ 4; omega), (by show 0 < 16777216; omega)⟩ (by show 19 ≤ 1099511627776; omega) W (fun h0 => by simp at h0))
      rw [show newB (k : Int) = ⟨(Pg.layL ⟨0, k, 0, []⟩).toArray⟩ by unfold newB; rw [if_neg (by omega)]; rfl]
      generalize (⟨(Pg.layL ⟨0, k, 0, []⟩).toArray⟩ : ByteArray) = q at HM ⊢
      have h3 : (0 : Int) ≤ (k : Int) := by omega
      have h4 : (k : Int) ≤ 4 := by omega
      clear h1 h2
      go_enter Try.func38, Try.ntmps38
      go_wp2_with (go_at_call 88; refine (HM.out _).mono ?_; rintro e w1 ⟨rfl, hb1⟩)
      go_ret
      exact ⟨rfl, hb1⟩
end Go.Proofs.Ytgbihdlahghonaa
