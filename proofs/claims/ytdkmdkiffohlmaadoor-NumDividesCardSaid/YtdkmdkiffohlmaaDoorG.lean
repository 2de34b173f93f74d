/- The walks over two statements of chapter 2: quotients and rests; rings. -/
import Derived.Test.YtdkmdkiffohlmaaDoorF
namespace Go.Proofs.YtdkmdkiffohlmaaDoor
open Go.RowKit NumPlain

theorem two_same (r : Int × Bool) (v : Int) (ok : Bool) (h : r = (v, ok)) : two r = .returned (.tuple #[.int .i64 v, .bool ok]) := by rw [h]

/-- A quotient and a rest, within the bounds. -/
theorem div_parts {a b : Int} (ha : inN a = true) (hb : inN b = true) (hz : b ≠ 0) :
    mulN (a.tdiv b) b = (a.tdiv b * b, true) ∧ addN (a.tdiv b * b) (a.tmod b) = (a, true) ∧
    (a.tmod b = 0 ∨ (a.tmod b < 0 ↔ a < 0)) ∧ (a.tmod b).natAbs < b.natAbs := by
  have hq := quot_in (b := b) ha
  have hr := rem_in (b := b) ha
  have hsum : a.tdiv b * b + a.tmod b = a := by rw [Int.mul_comm]; exact Int.mul_tdiv_add_tmod a b
  have habs : (a.tdiv b * b).natAbs ≤ a.natAbs := by
    rw [Int.natAbs_mul, Int.natAbs_tdiv]; exact Nat.div_mul_le_self _ _
  have hm : inN (a.tdiv b * b) = true := (inN_natAbs _).2 (Nat.le_trans habs ((inN_natAbs _).1 ha))
  refine ⟨?_, ?_, ?_, ?_⟩
  · simp [mulN, told, hq, hb, hm]
  · simp [addN, told, hm, hr, hsum, ha]
  · by_cases h0 : a.tmod b = 0
    · exact .inl h0
    · right
      by_cases hn : a < 0
      · refine ⟨fun _ => hn, fun _ => ?_⟩
        have : a.tmod b ≤ 0 := by
          obtain ⟨u, rfl⟩ : ∃ u : Nat, a = -(u : Int) := ⟨a.natAbs, by omega⟩
          rw [Int.neg_tmod]
          have := Int.tmod_nonneg (a := (u : Int)) b (by omega)
          omega
        omega
      · have := Int.tmod_nonneg (a := a) b (by omega)
        exact ⟨fun h => by omega, fun h => absurd h hn⟩
  · rw [Int.natAbs_tmod]; exact Nat.mod_lt _ (by omega)

set_option maxRecDepth 100000 in
set_option maxHeartbeats 1000000 in
theorem divides_any (a b : Int) (w : World) (hv : Vars w) : Calls Tryd.prog 7 #[.int .i64 a, .int .i64 b] w (Yes w) := by
  have HV := Lib.hid hv
  clear hv
  by_cases hz : b = 0
  · subst hz
    have HD := Lib.hid (show ∀ W, Calls Tryd.prog 22 #[.int .i64 a, .int .i64 0] W fun e w' => e = .returned (.tuple #[.int .i64 0, .bool false]) ∧ W = w' from fun W => by
      have := div_any a 0 W
      rwa [show divN a 0 = (0, false) by simp [divN]] at this)
    have HE := Lib.hid (show ∀ W, Calls Tryd.prog 23 #[.int .i64 a, .int .i64 0] W fun e w' => e = .returned (.tuple #[.int .i64 0, .bool false]) ∧ W = w' from fun W => by
      have := rdiv_any a 0 W
      rwa [show divN a 0 = (0, false) by simp [divN]] at this)
    go_enter Tryd.func7, Tryd.ntmps7
    go_wp2_with (first | (go_at_call 22; refine (HD.out _).mono ?_; rintro e w' ⟨rfl, rfl⟩) | (go_at_call 23; refine (HE.out _).mono ?_; rintro e w' ⟨rfl, rfl⟩) | (go_at_call 24; refine (mod_any _ _ _).mono ?_; rintro e w' ⟨rfl, rfl⟩) | (go_at_call 25; refine (rmod_any _ _ _).mono ?_; rintro e w' ⟨rfl, rfl⟩) | (go_at_call 26; refine (neg_any _ _).mono ?_; rintro e w' ⟨rfl, rfl⟩) | (go_at_call 27; refine (rneg_any _ _).mono ?_; rintro e w' ⟨rfl, rfl⟩) | (go_at_call 10; refine (awake_any _ HV.out).mono ?_; rintro e w' ⟨rfl, hb⟩) | (go_at_call 14; (with_reducible refine (same_same _ _).mono ?_); rintro e w' ⟨rfl, rfl⟩) | (go_at_call 14; refine (same_same (0, false) _).mono ?_; rintro e w' ⟨rfl, rfl⟩))
    go_ret
    exact ⟨rfl, hb⟩
  · by_cases hin : inN a = true ∧ inN b = true
    · obtain ⟨ha, hb⟩ := hin
      obtain ⟨a1, a2⟩ := inN_true ha
      obtain ⟨b1, b2⟩ := inN_true hb
      obtain ⟨q1, q2, q3, q4⟩ := div_parts ha hb hz
      have hdiv : divN a b = (a.tdiv b, true) := by rw [divN, if_neg hz, told, ha, hb, quot_in ha]; rfl
      have hmod : modN a b = (a.tmod b, true) := by rw [modN, if_neg hz, told, ha, hb, rem_in ha]; rfl
      generalize hx : a.tdiv b = x at q1 q2 hdiv
      generalize hy : a.tmod b = y at q2 q3 q4 hmod
      generalize hp : x * b = p at q1 q2
      have HD := Lib.hid (show ∀ W, Calls Tryd.prog 22 #[.int .i64 a, .int .i64 b] W fun e w' => e = .returned (.tuple #[.int .i64 x, .bool true]) ∧ W = w' from fun W => by
        have := div_any a b W
        rwa [hdiv] at this)
      have HE := Lib.hid (show ∀ W, Calls Tryd.prog 23 #[.int .i64 a, .int .i64 b] W fun e w' => e = .returned (.tuple #[.int .i64 x, .bool true]) ∧ W = w' from fun W => by
        have := rdiv_any a b W
        rwa [hdiv] at this)
      have HF := Lib.hid (show ∀ W, Calls Tryd.prog 24 #[.int .i64 a, .int .i64 b] W fun e w' => e = .returned (.tuple #[.int .i64 y, .bool true]) ∧ W = w' from fun W => by
        have := mod_any a b W
        rwa [hmod] at this)
      have HG := Lib.hid (show ∀ W, Calls Tryd.prog 25 #[.int .i64 a, .int .i64 b] W fun e w' => e = .returned (.tuple #[.int .i64 y, .bool true]) ∧ W = w' from fun W => by
        have := rmod_any a b W
        rwa [hmod] at this)
      have HM := Lib.hid (show ∀ W, Calls Tryd.prog 19 #[.int .i64 x, .int .i64 b] W fun e w' => e = .returned (.tuple #[.int .i64 p, .bool true]) ∧ W = w' from fun W => by
        have := mul_any x b W
        rwa [q1] at this)
      have HA := Lib.hid (show ∀ W, Calls Tryd.prog 15 #[.int .i64 p, .int .i64 y] W fun e w' => e = .returned (.tuple #[.int .i64 a, .bool true]) ∧ W = w' from fun W => by
        have := add_any p y W
        rwa [q2] at this)
      clear q1 q2 hdiv hmod hx hy hp ha hb hz
      have hy0 : (y = 0) ∨ (y < 0 ∧ a < 0) ∨ (0 < y ∧ 0 ≤ a) := by omega
      have hb0 : (b < 0 ∧ b < y ∧ y < -b) ∨ (0 < b ∧ y < b ∧ -b < y) := by omega
      clear q3 q4
      rcases hb0 with ⟨c1, c2, c3⟩ | ⟨c1, c2, c3⟩
      all_goals
        rcases hy0 with rfl | ⟨d1, d2⟩ | ⟨d1, d2⟩
        all_goals
          go_enter Tryd.func7, Tryd.ntmps7
          go_wp2_with (first | (go_at_call 22; refine (HD.out _).mono ?_; rintro e w' ⟨rfl, rfl⟩) | (go_at_call 23; refine (HE.out _).mono ?_; rintro e w' ⟨rfl, rfl⟩) | (go_at_call 24; refine (HF.out _).mono ?_; rintro e w' ⟨rfl, rfl⟩) | (go_at_call 25; refine (HG.out _).mono ?_; rintro e w' ⟨rfl, rfl⟩) | (go_at_call 26; refine (neg_any _ _).mono ?_; rintro e w' ⟨rfl, rfl⟩) | (go_at_call 27; refine (rneg_any _ _).mono ?_; rintro e w' ⟨rfl, rfl⟩) | (go_at_call 10; refine (awake_any _ HV.out).mono ?_; rintro e w' ⟨rfl, hb⟩) | (go_at_call 19; refine (HM.out _).mono ?_; rintro e w' ⟨rfl, rfl⟩) | (go_at_call 15; refine (HA.out _).mono ?_; rintro e w' ⟨rfl, rfl⟩) | (go_at_call 14; (with_reducible refine (same_same _ _).mono ?_); rintro e w' ⟨rfl, rfl⟩) | (go_at_call 14; refine (same_same (_, true) _).mono ?_; rintro e w' ⟨rfl, rfl⟩))
          go_ret
          exact ⟨rfl, hb⟩
    · have hno : divN a b = (0, false) ∧ modN a b = (0, false) := by
        have : (inN a && inN b) = false := by
          cases h1 : inN a <;> cases h2 : inN b <;> simp_all
        rw [divN, if_neg hz, modN, if_neg hz]
        simp [told, this]
      have hab : inN a = false ∨ (inN a = true ∧ inN b = false) := by
        cases h1 : inN a <;> cases h2 : inN b <;> simp_all
      have hz' : (b == 0) = false := by simpa using hz
      have HD := Lib.hid (show ∀ W, Calls Tryd.prog 22 #[.int .i64 a, .int .i64 b] W fun e w' => e = .returned (.tuple #[.int .i64 0, .bool false]) ∧ W = w' from fun W => by
        have := div_any a b W
        rwa [hno.1] at this)
      have HE := Lib.hid (show ∀ W, Calls Tryd.prog 23 #[.int .i64 a, .int .i64 b] W fun e w' => e = .returned (.tuple #[.int .i64 0, .bool false]) ∧ W = w' from fun W => by
        have := rdiv_any a b W
        rwa [hno.1] at this)
      clear hno hin hz
      rcases hab with h1 | ⟨h1, h2⟩
      all_goals
        go_enter Tryd.func7, Tryd.ntmps7
        go_wp2_with (first | (go_at_call 22; refine (HD.out _).mono ?_; rintro e w' ⟨rfl, rfl⟩) | (go_at_call 23; refine (HE.out _).mono ?_; rintro e w' ⟨rfl, rfl⟩) | (go_at_call 24; refine (mod_any _ _ _).mono ?_; rintro e w' ⟨rfl, rfl⟩) | (go_at_call 25; refine (rmod_any _ _ _).mono ?_; rintro e w' ⟨rfl, rfl⟩) | (go_at_call 26; refine (neg_any _ _).mono ?_; rintro e w' ⟨rfl, rfl⟩) | (go_at_call 27; refine (rneg_any _ _).mono ?_; rintro e w' ⟨rfl, rfl⟩) | (go_at_call 10; refine (awake_any _ HV.out).mono ?_; rintro e w' ⟨rfl, hb⟩) | (go_at_call 12; refine (in_any _ _).mono ?_; rintro e w' ⟨rfl, rfl⟩) | (go_at_call 14; (with_reducible refine (same_same _ _).mono ?_); rintro e w' ⟨rfl, rfl⟩) | (go_at_call 14; refine (same_same (0, false) _).mono ?_; rintro e w' ⟨rfl, rfl⟩))
        go_ret
        exact ⟨rfl, hb⟩
end Go.Proofs.YtdkmdkiffohlmaaDoor
