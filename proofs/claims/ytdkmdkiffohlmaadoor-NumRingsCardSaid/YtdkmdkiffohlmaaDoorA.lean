/- The walks over package num and the reference of chapter 2: what each function of two numbers returns. -/
import Derived.Test.YtdkmdkiffohlmaaDoorProg
import Derived.Test.YtdkmdkiffohlmaaDoorPlain
import Derived.WalkKit
import Derived.WalkSpells
import Derived.WalkLawsBesides
import Derived.Lib.Hide
namespace Go.Proofs.YtdkmdkiffohlmaaDoor
open Go.RowKit NumPlain

theorem in_any (a : Int) (w : World) :
    Calls Tryd.prog 12 #[.int .i64 a] w fun e w' => e = .returned (.bool (inN a)) ∧ w = w' := by
  go_enter Tryd.func12, Tryd.ntmps12
  go_wp2
  · go_ret
    rename_i h
    exact ⟨by simp [inN, h], rfl⟩
  · go_ret
    rename_i h
    exact ⟨by simp [inN]; omega, rfl⟩
theorem rin_any (a : Int) (w : World) :
    Calls Tryd.prog 21 #[.int .i64 a] w fun e w' => e = .returned (.bool (inN a)) ∧ w = w' := by
  go_enter Tryd.func21, Tryd.ntmps21
  go_wp2
  · go_ret
    rename_i h
    exact ⟨by simp [inN, h], rfl⟩
  · go_ret
    rename_i h
    exact ⟨by simp [inN]; omega, rfl⟩

abbrev two (r : Int × Bool) : Ending := .returned (.tuple #[.int .i64 r.1, .bool r.2])

theorem told_any (a b n : Int) (w : World) :
    Calls Tryd.prog 30 #[.int .i64 a, .int .i64 b, .int .i64 n] w fun e w' => e = two (told a b n) ∧ w = w' := by
  cases ha : inN a <;> cases hb : inN b <;> cases hn : inN n
  all_goals
    go_enter Tryd.func30, Tryd.ntmps30
    go_wp2_with (go_at_call 12; refine (in_any _ _).mono ?_; rintro e w' ⟨rfl, rfl⟩)
    go_ret2
    exact ⟨by simp [told, ha, hb, hn], rfl⟩
theorem rboth_any (a b : Int) (w : World) :
    Calls Tryd.prog 31 #[.int .i64 a, .int .i64 b] w fun e w' => e = .returned (.bool (inN a && inN b)) ∧ w = w' := by
  cases ha : inN a <;> cases hb : inN b
  all_goals
    go_enter Tryd.func31, Tryd.ntmps31
    go_wp2_with (go_at_call 21; refine (rin_any _ _).mono ?_; rintro e w' ⟨rfl, rfl⟩)
    go_ret
    exact ⟨rfl, rfl⟩
theorem rtold_any (n : Int) (w : World) :
    Calls Tryd.prog 32 #[.int .i64 n] w fun e w' => e = two (told1 n) ∧ w = w' := by
  cases hn : inN n
  all_goals
    go_enter Tryd.func32, Tryd.ntmps32
    go_wp2_with (go_at_call 21; refine (rin_any _ _).mono ?_; rintro e w' ⟨rfl, rfl⟩)
    go_ret2
    exact ⟨by simp [told1, hn], rfl⟩
theorem rsize_any (a : Int) (ha : inN a = true) (w : World) :
    Calls Tryd.prog 33 #[.int .i64 a] w fun e w' => e = .returned (.int .i64 (sizeN a)) ∧ w = w' := by
  obtain ⟨h1, h2⟩ := inN_true ha
  clear ha
  by_cases h : a < 0
  all_goals
    go_enter Tryd.func33, Tryd.ntmps33
    go_wp2
    go_ret
    exact ⟨by simp only [sizeN]; first | (rw [if_pos (by omega)]; rfl) | (rw [if_neg (by omega)]; rfl), rfl⟩

theorem add_any (a b : Int) (w : World) :
    Calls Tryd.prog 15 #[.int .i64 a, .int .i64 b] w fun e w' => e = two (addN a b) ∧ w = w' := by
  cases ha : inN a <;> cases hb : inN b
  case true.true =>
    obtain ⟨h1, h2⟩ := inN_true ha
    obtain ⟨h3, h4⟩ := inN_true hb
    go_enter Tryd.func15, Tryd.ntmps15
    go_wp2_with (first | (go_at_call 12; refine (in_any _ _).mono ?_; rintro e w' ⟨rfl, rfl⟩) | (go_at_call 30; refine (told_any _ _ _ _).mono ?_; rintro e w' ⟨rfl, rfl⟩))
    go_ret2
    exact ⟨rfl, rfl⟩
  all_goals
    go_enter Tryd.func15, Tryd.ntmps15
    go_wp2_with (first | (go_at_call 12; refine (in_any _ _).mono ?_; rintro e w' ⟨rfl, rfl⟩) | (go_at_call 30; refine (told_any _ _ _ _).mono ?_; rintro e w' ⟨rfl, rfl⟩))
    go_ret2
    exact ⟨by simp [two, addN, told, ha, hb], rfl⟩
theorem sub_any (a b : Int) (w : World) :
    Calls Tryd.prog 17 #[.int .i64 a, .int .i64 b] w fun e w' => e = two (subN a b) ∧ w = w' := by
  cases ha : inN a <;> cases hb : inN b
  case true.true =>
    obtain ⟨h1, h2⟩ := inN_true ha
    obtain ⟨h3, h4⟩ := inN_true hb
    go_enter Tryd.func17, Tryd.ntmps17
    go_wp2_with (first | (go_at_call 12; refine (in_any _ _).mono ?_; rintro e w' ⟨rfl, rfl⟩) | (go_at_call 30; refine (told_any _ _ _ _).mono ?_; rintro e w' ⟨rfl, rfl⟩))
    go_ret2
    exact ⟨rfl, rfl⟩
  all_goals
    go_enter Tryd.func17, Tryd.ntmps17
    go_wp2_with (first | (go_at_call 12; refine (in_any _ _).mono ?_; rintro e w' ⟨rfl, rfl⟩) | (go_at_call 30; refine (told_any _ _ _ _).mono ?_; rintro e w' ⟨rfl, rfl⟩))
    go_ret2
    exact ⟨by simp [two, subN, told, ha, hb], rfl⟩
theorem radd_any (a b : Int) (w : World) :
    Calls Tryd.prog 16 #[.int .i64 a, .int .i64 b] w fun e w' => e = two (addN a b) ∧ w = w' := by
  cases ha : inN a <;> cases hb : inN b
  case true.true =>
    obtain ⟨h1, h2⟩ := inN_true ha
    obtain ⟨h3, h4⟩ := inN_true hb
    have hr : told1 (a + b) = addN a b := by simp [addN, told, told1, ha, hb]
    have HR := Lib.hid hr
    clear hr
    go_enter Tryd.func16, Tryd.ntmps16
    go_wp2_with (first | (go_at_call 31; refine (rboth_any _ _ _).mono ?_; rintro e w' ⟨rfl, rfl⟩) | (go_at_call 32; refine (rtold_any _ _).mono ?_; rintro e w' ⟨rfl, rfl⟩))
    go_ret2
    exact ⟨by rw [← HR.out]; rfl, rfl⟩
  all_goals
    go_enter Tryd.func16, Tryd.ntmps16
    go_wp2_with (first | (go_at_call 31; refine (rboth_any _ _ _).mono ?_; rintro e w' ⟨rfl, rfl⟩))
    go_ret2
    exact ⟨by simp [two, addN, told, ha, hb], rfl⟩
theorem rsub_any (a b : Int) (w : World) :
    Calls Tryd.prog 18 #[.int .i64 a, .int .i64 b] w fun e w' => e = two (subN a b) ∧ w = w' := by
  cases ha : inN a <;> cases hb : inN b
  case true.true =>
    obtain ⟨h1, h2⟩ := inN_true ha
    obtain ⟨h3, h4⟩ := inN_true hb
    have hr : told1 (a - b) = subN a b := by simp [subN, told, told1, ha, hb]
    have HR := Lib.hid hr
    clear hr
    go_enter Tryd.func18, Tryd.ntmps18
    go_wp2_with (first | (go_at_call 31; refine (rboth_any _ _ _).mono ?_; rintro e w' ⟨rfl, rfl⟩) | (go_at_call 32; refine (rtold_any _ _).mono ?_; rintro e w' ⟨rfl, rfl⟩))
    go_ret2
    exact ⟨by rw [← HR.out]; rfl, rfl⟩
  all_goals
    go_enter Tryd.func18, Tryd.ntmps18
    go_wp2_with (first | (go_at_call 31; refine (rboth_any _ _ _).mono ?_; rintro e w' ⟨rfl, rfl⟩))
    go_ret2
    exact ⟨by simp [two, subN, told, ha, hb], rfl⟩

theorem neg_any (a : Int) (w : World) :
    Calls Tryd.prog 26 #[.int .i64 a] w fun e w' => e = two (subN 0 a) ∧ w = w' := by
  go_enter Tryd.func26, Tryd.ntmps26
  go_wp2_with (go_at_call 17; refine (sub_any _ _ _).mono ?_; rintro e w' ⟨rfl, rfl⟩)
  go_ret2
  exact ⟨rfl, rfl⟩
theorem rneg_any (a : Int) (w : World) :
    Calls Tryd.prog 27 #[.int .i64 a] w fun e w' => e = two (subN 0 a) ∧ w = w' := by
  cases ha : inN a
  · go_enter Tryd.func27, Tryd.ntmps27
    go_wp2_with (go_at_call 21; refine (rin_any _ _).mono ?_; rintro e w' ⟨rfl, rfl⟩)
    go_ret2
    exact ⟨by simp [two, subN, told, ha], rfl⟩
  · obtain ⟨h1, h2⟩ := inN_true ha
    have h0 : inN 0 = true := by decide
    have hn : inN (0 - a) = true := inN_of (by omega) (by omega)
    have hr : subN 0 a = (-a, true) := by simp only [subN, told, ha, h0, hn]; simp
    have HR := Lib.hid hr
    clear hr h0 hn
    go_enter Tryd.func27, Tryd.ntmps27
    go_wp2_with (go_at_call 21; refine (rin_any _ _).mono ?_; rintro e w' ⟨rfl, rfl⟩)
    go_ret2
    exact ⟨by rw [HR.out]; rfl, rfl⟩

theorem div_any (a b : Int) (w : World) :
    Calls Tryd.prog 22 #[.int .i64 a, .int .i64 b] w fun e w' => e = two (divN a b) ∧ w = w' := by
  cases ha : inN a <;> cases hb : inN b
  case true.true =>
    obtain ⟨h1, h2⟩ := inN_true ha
    obtain ⟨h3, h4⟩ := inN_true hb
    by_cases hz : b = 0
    · subst hz
      go_enter Tryd.func22, Tryd.ntmps22
      go_wp2_with (first | (go_at_call 12; refine (in_any _ _).mono ?_; rintro e w' ⟨rfl, rfl⟩) | (go_at_call 30; refine (told_any _ _ _ _).mono ?_; rintro e w' ⟨rfl, rfl⟩))
      go_ret2
      exact ⟨rfl, rfl⟩
    · have hz' : (b == 0) = false := by simpa using hz
      have hq := inN_true (quot_in (a := a) (b := b) ha)
      obtain ⟨q1, q2⟩ := hq
      go_enter Tryd.func22, Tryd.ntmps22
      go_wp2_with (first | (go_at_call 12; refine (in_any _ _).mono ?_; rintro e w' ⟨rfl, rfl⟩) | (go_at_call 30; refine (told_any _ _ _ _).mono ?_; rintro e w' ⟨rfl, rfl⟩))
      go_ret2
      exact ⟨by rw [divN, if_neg hz]; rfl, rfl⟩
  all_goals
    have hd : divN a b = (0, false) := by simp [divN, told, ha, hb]
    have HD := Lib.hid hd
    clear hd
    go_enter Tryd.func22, Tryd.ntmps22
    go_wp2_with (first | (go_at_call 12; refine (in_any _ _).mono ?_; rintro e w' ⟨rfl, rfl⟩) | (go_at_call 30; refine (told_any _ _ _ _).mono ?_; rintro e w' ⟨rfl, rfl⟩))
    go_ret2
    exact ⟨by rw [HD.out]; rfl, rfl⟩
theorem mod_any (a b : Int) (w : World) :
    Calls Tryd.prog 24 #[.int .i64 a, .int .i64 b] w fun e w' => e = two (modN a b) ∧ w = w' := by
  cases ha : inN a <;> cases hb : inN b
  case true.true =>
    obtain ⟨h1, h2⟩ := inN_true ha
    obtain ⟨h3, h4⟩ := inN_true hb
    by_cases hz : b = 0
    · subst hz
      go_enter Tryd.func24, Tryd.ntmps24
      go_wp2_with (first | (go_at_call 12; refine (in_any _ _).mono ?_; rintro e w' ⟨rfl, rfl⟩) | (go_at_call 30; refine (told_any _ _ _ _).mono ?_; rintro e w' ⟨rfl, rfl⟩))
      go_ret2
      exact ⟨rfl, rfl⟩
    · have hz' : (b == 0) = false := by simpa using hz
      have hq := inN_true (rem_in (a := a) (b := b) ha)
      obtain ⟨q1, q2⟩ := hq
      go_enter Tryd.func24, Tryd.ntmps24
      go_wp2_with (first | (go_at_call 12; refine (in_any _ _).mono ?_; rintro e w' ⟨rfl, rfl⟩) | (go_at_call 30; refine (told_any _ _ _ _).mono ?_; rintro e w' ⟨rfl, rfl⟩))
      go_ret2
      exact ⟨by rw [modN, if_neg hz]; rfl, rfl⟩
  all_goals
    have hd : modN a b = (0, false) := by simp [modN, told, ha, hb]
    have HD := Lib.hid hd
    clear hd
    go_enter Tryd.func24, Tryd.ntmps24
    go_wp2_with (first | (go_at_call 12; refine (in_any _ _).mono ?_; rintro e w' ⟨rfl, rfl⟩) | (go_at_call 30; refine (told_any _ _ _ _).mono ?_; rintro e w' ⟨rfl, rfl⟩))
    go_ret2
    exact ⟨by rw [HD.out]; rfl, rfl⟩

theorem mul_big_no {a b : Int} (hy : b ≠ 0) (h : (1000000000000000 : Int) / b.natAbs < a.natAbs) : two (mulN a b) = two (0, false) := by
  have hbig := (mul_big hy).1 h
  have : inN (a * b) = false := by
    cases h : inN (a * b)
    · rfl
    · have := (inN_natAbs (a * b)).1 h; omega
  simp [two, mulN, told, this]
theorem mul_small {a b : Int} (hy : b ≠ 0) (h : ¬ (1000000000000000 : Int) / b.natAbs < a.natAbs) : -1000000000000000 ≤ a * b ∧ a * b ≤ 1000000000000000 := by
  have hbig := Nat.not_lt.1 (fun h' => h ((mul_big hy).2 h'))
  omega
theorem mul_pp (a b : Int) (w : World) (h1 : 0 < a) (h2 : a ≤ 1000000000000000) (h3 : 0 < b) (h4 : b ≤ 1000000000000000) (ha : inN a = true) (hb : inN b = true) (az : (a == 0) = false) (bz : (b == 0) = false) :
    Calls Tryd.prog 19 #[.int .i64 a, .int .i64 b] w fun e w' => e = two (mulN a b) ∧ w = w' := by
  by_cases hx : (1000000000000000 : Int) / b < a
  · have HR := Lib.hid (mul_big_no (a := a) (b := b) (by omega) (by rw [show (a.natAbs : Int) = a by omega, show (b.natAbs : Int) = b by omega]; exact hx))
    go_enter Tryd.func19, Tryd.ntmps19
    go_wp2_with (first | (go_at_call 12; refine (in_any _ _).mono ?_; rintro e w' ⟨rfl, rfl⟩))
    go_ret2
    exact ⟨by rw [HR.out]; rfl, rfl⟩
  · obtain ⟨hp1, hp2⟩ := mul_small (a := a) (b := b) (by omega) (by rw [show (a.natAbs : Int) = a by omega, show (b.natAbs : Int) = b by omega]; exact hx)
    go_enter Tryd.func19, Tryd.ntmps19
    go_wp2_with (first | (go_at_call 12; refine (in_any _ _).mono ?_; rintro e w' ⟨rfl, rfl⟩) | (go_at_call 30; refine (told_any _ _ _ _).mono ?_; rintro e w' ⟨rfl, rfl⟩))
    go_ret2
    exact ⟨rfl, rfl⟩
theorem mul_np (a b : Int) (w : World) (h1 : 0 < a) (h2 : a ≤ 1000000000000000) (h3 : 0 < b) (h4 : b ≤ 1000000000000000) (ha : inN (-a) = true) (hb : inN b = true) (az : (-a == 0) = false) (bz : (b == 0) = false) :
    Calls Tryd.prog 19 #[.int .i64 (-a), .int .i64 b] w fun e w' => e = two (mulN (-a) b) ∧ w = w' := by
  by_cases hx : (1000000000000000 : Int) / b < a
  · have HR := Lib.hid (mul_big_no (a := (-a)) (b := b) (by omega) (by rw [show ((-a).natAbs : Int) = a by omega, show (b.natAbs : Int) = b by omega]; exact hx))
    go_enter Tryd.func19, Tryd.ntmps19
    go_wp2_with (first | (go_at_call 12; refine (in_any _ _).mono ?_; rintro e w' ⟨rfl, rfl⟩))
    go_ret2
    exact ⟨by rw [HR.out]; rfl, rfl⟩
  · have hp := mul_small (a := (-a)) (b := b) (by omega) (by rw [show ((-a).natAbs : Int) = a by omega, show (b.natAbs : Int) = b by omega]; exact hx)
    rw [Int.neg_mul] at hp
    have HW := Lib.hid (IntWalk.wrap64_in (-(a * b)) ⟨by omega, by omega⟩)
    clear hp
    go_enter Tryd.func19, Tryd.ntmps19
    go_wp2_with (first | (go_at_call 12; refine (in_any _ _).mono ?_; rintro e w' ⟨rfl, rfl⟩) | (go_at_call 30; refine (told_any _ _ _ _).mono ?_; rintro e w' ⟨rfl, rfl⟩))
    go_ret2
    exact ⟨by simp only [mulN, Int.neg_mul, HW.out]; rfl, rfl⟩
theorem mul_pn (a b : Int) (w : World) (h1 : 0 < a) (h2 : a ≤ 1000000000000000) (h3 : 0 < b) (h4 : b ≤ 1000000000000000) (ha : inN a = true) (hb : inN (-b) = true) (az : (a == 0) = false) (bz : (-b == 0) = false) :
    Calls Tryd.prog 19 #[.int .i64 a, .int .i64 (-b)] w fun e w' => e = two (mulN a (-b)) ∧ w = w' := by
  by_cases hx : (1000000000000000 : Int) / b < a
  · have HR := Lib.hid (mul_big_no (a := a) (b := (-b)) (by omega) (by rw [show (a.natAbs : Int) = a by omega, show ((-b).natAbs : Int) = b by omega]; exact hx))
    go_enter Tryd.func19, Tryd.ntmps19
    go_wp2_with (first | (go_at_call 12; refine (in_any _ _).mono ?_; rintro e w' ⟨rfl, rfl⟩))
    go_ret2
    exact ⟨by rw [HR.out]; rfl, rfl⟩
  · have hp := mul_small (a := a) (b := (-b)) (by omega) (by rw [show (a.natAbs : Int) = a by omega, show ((-b).natAbs : Int) = b by omega]; exact hx)
    rw [Int.mul_neg] at hp
    have HW := Lib.hid (IntWalk.wrap64_in (-(a * b)) ⟨by omega, by omega⟩)
    clear hp
    go_enter Tryd.func19, Tryd.ntmps19
    go_wp2_with (first | (go_at_call 12; refine (in_any _ _).mono ?_; rintro e w' ⟨rfl, rfl⟩) | (go_at_call 30; refine (told_any _ _ _ _).mono ?_; rintro e w' ⟨rfl, rfl⟩))
    go_ret2
    exact ⟨by simp only [mulN, Int.mul_neg, HW.out]; rfl, rfl⟩
theorem mul_nn (a b : Int) (w : World) (h1 : 0 < a) (h2 : a ≤ 1000000000000000) (h3 : 0 < b) (h4 : b ≤ 1000000000000000) (ha : inN (-a) = true) (hb : inN (-b) = true) (az : (-a == 0) = false) (bz : (-b == 0) = false) :
    Calls Tryd.prog 19 #[.int .i64 (-a), .int .i64 (-b)] w fun e w' => e = two (mulN (-a) (-b)) ∧ w = w' := by
  by_cases hx : (1000000000000000 : Int) / b < a
  · have HR := Lib.hid (mul_big_no (a := (-a)) (b := (-b)) (by omega) (by rw [show ((-a).natAbs : Int) = a by omega, show ((-b).natAbs : Int) = b by omega]; exact hx))
    go_enter Tryd.func19, Tryd.ntmps19
    go_wp2_with (first | (go_at_call 12; refine (in_any _ _).mono ?_; rintro e w' ⟨rfl, rfl⟩))
    go_ret2
    exact ⟨by rw [HR.out]; rfl, rfl⟩
  · have hp := mul_small (a := (-a)) (b := (-b)) (by omega) (by rw [show ((-a).natAbs : Int) = a by omega, show ((-b).natAbs : Int) = b by omega]; exact hx)
    rw [Int.neg_mul_neg] at hp
    have HW := Lib.hid (IntWalk.wrap64_in (a * b) ⟨by omega, by omega⟩)
    clear hp
    go_enter Tryd.func19, Tryd.ntmps19
    go_wp2_with (first | (go_at_call 12; refine (in_any _ _).mono ?_; rintro e w' ⟨rfl, rfl⟩) | (go_at_call 30; refine (told_any _ _ _ _).mono ?_; rintro e w' ⟨rfl, rfl⟩))
    go_ret2
    exact ⟨by simp only [mulN, Int.neg_mul_neg, HW.out]; rfl, rfl⟩
theorem mul_any (a b : Int) (w : World) :
    Calls Tryd.prog 19 #[.int .i64 a, .int .i64 b] w fun e w' => e = two (mulN a b) ∧ w = w' := by
  cases ha : inN a <;> cases hb : inN b
  case true.true =>
    obtain ⟨h1, h2⟩ := inN_true ha
    obtain ⟨h3, h4⟩ := inN_true hb
    by_cases hz : a = 0
    · subst hz
      have hr : mulN 0 b = (0, true) := by simp [mulN, told, hb]; decide
      have HR := Lib.hid hr
      clear hr
      go_enter Tryd.func19, Tryd.ntmps19
      go_wp2_with (first | (go_at_call 12; refine (in_any _ _).mono ?_; rintro e w' ⟨rfl, rfl⟩))
      go_ret2
      exact ⟨by rw [HR.out]; rfl, rfl⟩
    · by_cases hy : b = 0
      · subst hy
        have hz' : (a == 0) = false := by simpa using hz
        have hr : mulN a 0 = (0, true) := by simp [mulN, told, ha]; decide
        have HR := Lib.hid hr
        clear hr hz
        go_enter Tryd.func19, Tryd.ntmps19
        go_wp2_with (first | (go_at_call 12; refine (in_any _ _).mono ?_; rintro e w' ⟨rfl, rfl⟩))
        go_ret2
        exact ⟨by rw [HR.out]; rfl, rfl⟩
      · have hz' : (a == 0) = false := by simpa using hz
        have hy' : (b == 0) = false := by simpa using hy
        by_cases sa : a < 0 <;> by_cases sb : b < 0
        · obtain ⟨c, rfl⟩ : ∃ c, a = -c := ⟨-a, by omega⟩
          obtain ⟨d, rfl⟩ : ∃ d, b = -d := ⟨-b, by omega⟩
          exact mul_nn c d w (by omega) (by omega) (by omega) (by omega) ha hb hz' hy'
        · obtain ⟨c, rfl⟩ : ∃ c, a = -c := ⟨-a, by omega⟩
          exact mul_np c b w (by omega) (by omega) (by omega) (by omega) ha hb hz' hy'
        · obtain ⟨d, rfl⟩ : ∃ d, b = -d := ⟨-b, by omega⟩
          exact mul_pn a d w (by omega) (by omega) (by omega) (by omega) ha hb hz' hy'
        · exact mul_pp a b w (by omega) (by omega) (by omega) (by omega) ha hb hz' hy'
  all_goals
    have hd : mulN a b = (0, false) := by simp [mulN, told, ha, hb]
    have HD := Lib.hid hd
    clear hd
    go_enter Tryd.func19, Tryd.ntmps19
    go_wp2_with (first | (go_at_call 12; refine (in_any _ _).mono ?_; rintro e w' ⟨rfl, rfl⟩))
    go_ret2
    exact ⟨by rw [HD.out]; rfl, rfl⟩
end Go.Proofs.YtdkmdkiffohlmaaDoor
