/- The walks over package page and its reference: may. -/
import Derived.Test.YtgbihdlahghonaaPageK
namespace Go.Proofs.Ytgbihdlahghonaa
open Go.RowKit

set_option maxRecDepth 100000 in
set_option maxHeartbeats 1000000 in
theorem may_any (r : ByteArray) (w : World) :
    Calls Try.prog 84 #[.string r] w fun e w' => e = .returned (.bool (decide (1 ≤ r.size ∧ r.size ≤ 400))) ∧ w = w' := by
  by_cases h1 : 1 ≤ r.size
  · by_cases h2 : r.size ≤ 400
    · rw [decide_eq_true ⟨h1, h2⟩]
      have h3 : (1 : Int) ≤ (r.size : Int) := by omega
      have h4 : (r.size : Int) ≤ 400 := by omega
      go_enter Try.func84, Try.ntmps84
      go_wp2_with fail
      go_ret
      exact ⟨by simp [h3, h4], rfl⟩
    · rw [decide_eq_false (fun h => h2 h.2)]
      have h3 : (1 : Int) ≤ (r.size : Int) := by omega
      have h4 : (400 : Int) < (r.size : Int) := by omega
      go_enter Try.func84, Try.ntmps84
      go_wp2_with fail
      go_ret
      exact ⟨by simp [h3, Int.not_le.2 h4], rfl⟩
  · rw [decide_eq_false (fun h => h1 h.1)]
    have h3 : (r.size : Int) < 1 := by omega
    go_enter Try.func84, Try.ntmps84
    go_wp2_with fail
    go_ret
    exact ⟨by simp [Int.not_le.2 h3], rfl⟩
set_option maxRecDepth 100000 in
set_option maxHeartbeats 1000000 in
theorem rmay_any (r : ByteArray) (w : World) :
    Calls Try.prog 89 #[.string r] w fun e w' => e = .returned (.bool (decide (1 ≤ r.size ∧ r.size ≤ 400))) ∧ w = w' := by
  by_cases h1 : 1 ≤ r.size
  · by_cases h2 : r.size ≤ 400
    · rw [decide_eq_true ⟨h1, h2⟩]
      have h3 : (1 : Int) ≤ (r.size : Int) := by omega
      have h4 : (r.size : Int) ≤ 400 := by omega
      go_enter Try.func89, Try.ntmps89
      go_wp2_with fail
      go_ret
      exact ⟨by simp [h3, h4], rfl⟩
    · rw [decide_eq_false (fun h => h2 h.2)]
      have h3 : (1 : Int) ≤ (r.size : Int) := by omega
      have h4 : (400 : Int) < (r.size : Int) := by omega
      go_enter Try.func89, Try.ntmps89
      go_wp2_with fail
      go_ret
      exact ⟨by simp [h3, Int.not_le.2 h4], rfl⟩
  · rw [decide_eq_false (fun h => h1 h.1)]
    have h3 : (r.size : Int) < 1 := by omega
    go_enter Try.func89, Try.ntmps89
    go_wp2_with fail
    go_ret
    exact ⟨by simp [Int.not_le.2 h3], rfl⟩
end Go.Proofs.Ytgbihdlahghonaa
