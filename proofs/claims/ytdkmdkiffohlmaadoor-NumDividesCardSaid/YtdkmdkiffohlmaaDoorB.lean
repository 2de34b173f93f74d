/- The walks over the reference's product, quotient and remainder, one for each pair of signs. -/
import Derived.Test.YtdkmdkiffohlmaaDoorA
namespace Go.Proofs.YtdkmdkiffohlmaaDoor
open Go.RowKit NumPlain

theorem rsize_pos (a : Int) (h1 : 0 ≤ a) (h2 : a ≤ 1000000000000000) (w : World) :
    Calls Tryd.prog 33 #[.int .i64 a] w fun e w' => e = .returned (.int .i64 a) ∧ w = w' := by
  refine (rsize_any a (inN_of (by omega) (by omega)) w).mono ?_
  rintro e w' ⟨rfl, rfl⟩
  exact ⟨by rw [sizeN, if_neg (by omega)], rfl⟩
theorem rsize_neg (a : Int) (h1 : 0 < a) (h2 : a ≤ 1000000000000000) (w : World) :
    Calls Tryd.prog 33 #[.int .i64 (-a)] w fun e w' => e = .returned (.int .i64 a) ∧ w = w' := by
  refine (rsize_any (-a) (inN_of (by omega) (by omega)) w).mono ?_
  rintro e w' ⟨rfl, rfl⟩
  exact ⟨by rw [sizeN, if_pos (by omega), Int.neg_neg], rfl⟩
theorem mulN_in {a b : Int} (ha : inN a = true) (hb : inN b = true) (h1 : -1000000000000000 ≤ a * b) (h2 : a * b ≤ 1000000000000000) : mulN a b = (a * b, true) := by
  have h3 := inN_of h1 h2
  simp [mulN, told, ha, hb, h3]
theorem divN_in {a b q : Int} (ha : inN a = true) (hb : inN b = true) (hz : b ≠ 0) (hq : a.tdiv b = q) : divN a b = (q, true) := by
  have h3 := quot_in (b := b) ha
  rw [divN, if_neg hz]
  simp [told, ha, hb, h3]
  exact hq
theorem modN_in {a b q : Int} (ha : inN a = true) (hb : inN b = true) (hz : b ≠ 0) (hq : a.tmod b = q) : modN a b = (q, true) := by
  have h3 := rem_in (b := b) ha
  rw [modN, if_neg hz]
  simp [told, ha, hb, h3]
  exact hq
theorem quot_le {a b : Int} (ha : 0 ≤ a) (_hb : 0 < b) : 0 ≤ a / b ∧ a / b ≤ a :=
  ⟨Int.ediv_nonneg ha (by omega), Int.ediv_le_self _ ha⟩
theorem rem_le {a b : Int} (ha : 0 ≤ a) (hb : 0 < b) : 0 ≤ a % b ∧ a % b ≤ a :=
  ⟨Int.emod_nonneg _ (by omega), by
    have h := Int.mul_ediv_add_emod a b
    have := Int.mul_nonneg (Int.le_of_lt hb) (quot_le ha hb).1
    omega⟩
theorem rmul_pp (a b : Int) (w : World) (h1 : 0 < a) (h2 : a ≤ 1000000000000000) (h3 : 0 < b) (h4 : b ≤ 1000000000000000) (ha : inN a = true) (hb : inN b = true) (az : (a != 0) = true) :
    Calls Tryd.prog 20 #[.int .i64 a, .int .i64 b] w fun e w' => e = two (mulN a b) ∧ w = w' := by
  by_cases hx : (1000000000000000 : Int) / a < b
  · have HR := Lib.hid (mul_big_no (a := b) (b := a) (by omega) (by rw [show (a.natAbs : Int) = a by omega, show (b.natAbs : Int) = b by omega]; exact hx))
    go_enter Tryd.func20, Tryd.ntmps20
    go_wp2_with (first | (go_at_call 31; refine (rboth_any _ _ _).mono ?_; rintro e w' ⟨rfl, rfl⟩) | (go_at_call 33; (with_reducible refine (rsize_pos _ ?_ ?_ _).mono ?_); (omega); (omega); rintro e w' ⟨rfl, rfl⟩))
    go_ret2
    exact ⟨by rw [show mulN a b = mulN b a from by simp only [mulN, told, Int.mul_comm a b, Bool.and_comm (inN a) (inN b)], HR.out]; rfl, rfl⟩
  · have hp := mul_small (a := b) (b := a) (by omega) (by rw [show (a.natAbs : Int) = a by omega, show (b.natAbs : Int) = b by omega]; exact hx)
    rw [Int.mul_comm] at hp
    have HM := Lib.hid (mulN_in ha hb hp.1 hp.2)
    have HW := Lib.hid (IntWalk.wrap64_in (a * b) ⟨by omega, by omega⟩)
    clear hp
    go_enter Tryd.func20, Tryd.ntmps20
    go_wp2_with (first | (go_at_call 31; refine (rboth_any _ _ _).mono ?_; rintro e w' ⟨rfl, rfl⟩) | (go_at_call 33; (with_reducible refine (rsize_pos _ ?_ ?_ _).mono ?_); (omega); (omega); rintro e w' ⟨rfl, rfl⟩))
    go_ret2
    exact ⟨by rw [HM.out]; simp only [HW.out]; rfl, rfl⟩
theorem rdiv_pp (a b : Int) (w : World) (h1 : 0 ≤ a) (h2 : a ≤ 1000000000000000) (h3 : 0 < b) (h4 : b ≤ 1000000000000000) (ha : inN a = true) (hb : inN b = true) (bz : ((b == 0) = false)) :
    Calls Tryd.prog 23 #[.int .i64 a, .int .i64 b] w fun e w' => e = two (divN a b) ∧ w = w' := by
  have HD := Lib.hid (divN_in (q := a / b) ha hb (by omega) (by rw [Int.tdiv_eq_ediv_of_nonneg (by omega)]))
  obtain ⟨q1, q2⟩ := quot_le (a := a) (b := b) (by omega) (by omega)
  have hs1 : decide (a < 0) = false := by simp; omega
  have hs2 : decide (b < 0) = false := by simp; omega
  go_enter Tryd.func23, Tryd.ntmps23
  go_wp2_with (first | (go_at_call 31; refine (rboth_any _ _ _).mono ?_; rintro e w' ⟨rfl, rfl⟩) | (go_at_call 33; (with_reducible refine (rsize_pos _ ?_ ?_ _).mono ?_); (omega); (omega); rintro e w' ⟨rfl, rfl⟩))
  go_ret2
  exact ⟨by rw [HD.out]; rfl, rfl⟩
theorem rmod_pp (a b : Int) (w : World) (h1 : 0 ≤ a) (h2 : a ≤ 1000000000000000) (h3 : 0 < b) (h4 : b ≤ 1000000000000000) (ha : inN a = true) (hb : inN b = true) (bz : ((b == 0) = false)) :
    Calls Tryd.prog 25 #[.int .i64 a, .int .i64 b] w fun e w' => e = two (modN a b) ∧ w = w' := by
  have HD := Lib.hid (modN_in (q := a % b) ha hb (by omega) (by rw [Int.tmod_eq_emod_of_nonneg (by omega)]))
  obtain ⟨q1, q2⟩ := rem_le (a := a) (b := b) (by omega) (by omega)
  have hs1 : decide (a < 0) = false := by simp; omega
  have hs2 : decide (b < 0) = false := by simp; omega
  go_enter Tryd.func25, Tryd.ntmps25
  go_wp2_with (first | (go_at_call 31; refine (rboth_any _ _ _).mono ?_; rintro e w' ⟨rfl, rfl⟩) | (go_at_call 33; (with_reducible refine (rsize_pos _ ?_ ?_ _).mono ?_); (omega); (omega); rintro e w' ⟨rfl, rfl⟩))
  go_ret2
  exact ⟨by rw [HD.out]; rfl, rfl⟩
theorem rmul_pn (a b : Int) (w : World) (h1 : 0 < a) (h2 : a ≤ 1000000000000000) (h3 : 0 < b) (h4 : b ≤ 1000000000000000) (ha : inN a = true) (hb : inN (-b) = true) (az : (a != 0) = true) :
    Calls Tryd.prog 20 #[.int .i64 a, .int .i64 (-b)] w fun e w' => e = two (mulN a (-b)) ∧ w = w' := by
  by_cases hx : (1000000000000000 : Int) / a < b
  · have HR := Lib.hid (mul_big_no (a := (-b)) (b := a) (by omega) (by rw [show (a.natAbs : Int) = a by omega, show ((-b).natAbs : Int) = b by omega]; exact hx))
    go_enter Tryd.func20, Tryd.ntmps20
    go_wp2_with (first | (go_at_call 31; refine (rboth_any _ _ _).mono ?_; rintro e w' ⟨rfl, rfl⟩) | (go_at_call 33; (with_reducible refine (rsize_pos _ ?_ ?_ _).mono ?_); (omega); (omega); rintro e w' ⟨rfl, rfl⟩) | (go_at_call 33; (with_reducible refine (rsize_neg _ ?_ ?_ _).mono ?_); (omega); (omega); rintro e w' ⟨rfl, rfl⟩))
    go_ret2
    exact ⟨by rw [show mulN a (-b) = mulN (-b) a from by simp only [mulN, told, Int.mul_comm a (-b), Bool.and_comm (inN a) (inN (-b))], HR.out]; rfl, rfl⟩
  · have hp := mul_small (a := (-b)) (b := a) (by omega) (by rw [show (a.natAbs : Int) = a by omega, show ((-b).natAbs : Int) = b by omega]; exact hx)
    rw [Int.mul_comm] at hp
    have HM := Lib.hid (mulN_in ha hb hp.1 hp.2)
    rw [Int.mul_neg] at hp
    have HW := Lib.hid (IntWalk.wrap64_in (-(a * b)) ⟨by omega, by omega⟩)
    clear hp
    go_enter Tryd.func20, Tryd.ntmps20
    go_wp2_with (first | (go_at_call 31; refine (rboth_any _ _ _).mono ?_; rintro e w' ⟨rfl, rfl⟩) | (go_at_call 33; (with_reducible refine (rsize_pos _ ?_ ?_ _).mono ?_); (omega); (omega); rintro e w' ⟨rfl, rfl⟩) | (go_at_call 33; (with_reducible refine (rsize_neg _ ?_ ?_ _).mono ?_); (omega); (omega); rintro e w' ⟨rfl, rfl⟩))
    go_ret2
    exact ⟨by rw [HM.out]; simp only [Int.mul_neg, HW.out]; rfl, rfl⟩
theorem rdiv_pn (a b : Int) (w : World) (h1 : 0 ≤ a) (h2 : a ≤ 1000000000000000) (h3 : 0 < b) (h4 : b ≤ 1000000000000000) (ha : inN a = true) (hb : inN (-b) = true) (bz : ((-b == 0) = false)) :
    Calls Tryd.prog 23 #[.int .i64 a, .int .i64 (-b)] w fun e w' => e = two (divN a (-b)) ∧ w = w' := by
  have HD := Lib.hid (divN_in (q := -(a / b)) ha hb (by omega) (by rw [Int.tdiv_neg, Int.tdiv_eq_ediv_of_nonneg (by omega)]))
  obtain ⟨q1, q2⟩ := quot_le (a := a) (b := b) (by omega) (by omega)
  have hs1 : decide (a < 0) = false := by simp; omega
  have hs2 : decide ((-b) < 0) = true := by simp; omega
  go_enter Tryd.func23, Tryd.ntmps23
  go_wp2_with (first | (go_at_call 31; refine (rboth_any _ _ _).mono ?_; rintro e w' ⟨rfl, rfl⟩) | (go_at_call 33; (with_reducible refine (rsize_pos _ ?_ ?_ _).mono ?_); (omega); (omega); rintro e w' ⟨rfl, rfl⟩) | (go_at_call 33; (with_reducible refine (rsize_neg _ ?_ ?_ _).mono ?_); (omega); (omega); rintro e w' ⟨rfl, rfl⟩))
  go_ret2
  exact ⟨by rw [HD.out]; rfl, rfl⟩
theorem rmod_pn (a b : Int) (w : World) (h1 : 0 ≤ a) (h2 : a ≤ 1000000000000000) (h3 : 0 < b) (h4 : b ≤ 1000000000000000) (ha : inN a = true) (hb : inN (-b) = true) (bz : ((-b == 0) = false)) :
    Calls Tryd.prog 25 #[.int .i64 a, .int .i64 (-b)] w fun e w' => e = two (modN a (-b)) ∧ w = w' := by
  have HD := Lib.hid (modN_in (q := a % b) ha hb (by omega) (by rw [Int.tmod_neg, Int.tmod_eq_emod_of_nonneg (by omega)]))
  obtain ⟨q1, q2⟩ := rem_le (a := a) (b := b) (by omega) (by omega)
  have hs1 : decide (a < 0) = false := by simp; omega
  have hs2 : decide ((-b) < 0) = true := by simp; omega
  go_enter Tryd.func25, Tryd.ntmps25
  go_wp2_with (first | (go_at_call 31; refine (rboth_any _ _ _).mono ?_; rintro e w' ⟨rfl, rfl⟩) | (go_at_call 33; (with_reducible refine (rsize_pos _ ?_ ?_ _).mono ?_); (omega); (omega); rintro e w' ⟨rfl, rfl⟩) | (go_at_call 33; (with_reducible refine (rsize_neg _ ?_ ?_ _).mono ?_); (omega); (omega); rintro e w' ⟨rfl, rfl⟩))
  go_ret2
  exact ⟨by rw [HD.out]; rfl, rfl⟩
theorem rmul_np (a b : Int) (w : World) (h1 : 0 < a) (h2 : a ≤ 1000000000000000) (h3 : 0 < b) (h4 : b ≤ 1000000000000000) (ha : inN (-a) = true) (hb : inN b = true) (az : (-a != 0) = true) :
    Calls Tryd.prog 20 #[.int .i64 (-a), .int .i64 b] w fun e w' => e = two (mulN (-a) b) ∧ w = w' := by
  by_cases hx : (1000000000000000 : Int) / a < b
  · have HR := Lib.hid (mul_big_no (a := b) (b := (-a)) (by omega) (by rw [show ((-a).natAbs : Int) = a by omega, show (b.natAbs : Int) = b by omega]; exact hx))
    go_enter Tryd.func20, Tryd.ntmps20
    go_wp2_with (first | (go_at_call 31; refine (rboth_any _ _ _).mono ?_; rintro e w' ⟨rfl, rfl⟩) | (go_at_call 33; (with_reducible refine (rsize_neg _ ?_ ?_ _).mono ?_); (omega); (omega); rintro e w' ⟨rfl, rfl⟩) | (go_at_call 33; (with_reducible refine (rsize_pos _ ?_ ?_ _).mono ?_); (omega); (omega); rintro e w' ⟨rfl, rfl⟩))
    go_ret2
    exact ⟨by rw [show mulN (-a) b = mulN b (-a) from by simp only [mulN, told, Int.mul_comm (-a) b, Bool.and_comm (inN (-a)) (inN b)], HR.out]; rfl, rfl⟩
  · have hp := mul_small (a := b) (b := (-a)) (by omega) (by rw [show ((-a).natAbs : Int) = a by omega, show (b.natAbs : Int) = b by omega]; exact hx)
    rw [Int.mul_comm] at hp
    have HM := Lib.hid (mulN_in ha hb hp.1 hp.2)
    rw [Int.neg_mul] at hp
    have HW := Lib.hid (IntWalk.wrap64_in (-(a * b)) ⟨by omega, by omega⟩)
    clear hp
    go_enter Tryd.func20, Tryd.ntmps20
    go_wp2_with (first | (go_at_call 31; refine (rboth_any _ _ _).mono ?_; rintro e w' ⟨rfl, rfl⟩) | (go_at_call 33; (with_reducible refine (rsize_neg _ ?_ ?_ _).mono ?_); (omega); (omega); rintro e w' ⟨rfl, rfl⟩) | (go_at_call 33; (with_reducible refine (rsize_pos _ ?_ ?_ _).mono ?_); (omega); (omega); rintro e w' ⟨rfl, rfl⟩))
    go_ret2
    exact ⟨by rw [HM.out]; simp only [Int.neg_mul, HW.out]; rfl, rfl⟩
theorem rdiv_np (a b : Int) (w : World) (h1 : 0 < a) (h2 : a ≤ 1000000000000000) (h3 : 0 < b) (h4 : b ≤ 1000000000000000) (ha : inN (-a) = true) (hb : inN b = true) (bz : ((b == 0) = false)) :
    Calls Tryd.prog 23 #[.int .i64 (-a), .int .i64 b] w fun e w' => e = two (divN (-a) b) ∧ w = w' := by
  have HD := Lib.hid (divN_in (q := -(a / b)) ha hb (by omega) (by rw [Int.neg_tdiv, Int.tdiv_eq_ediv_of_nonneg (by omega)]))
  obtain ⟨q1, q2⟩ := quot_le (a := a) (b := b) (by omega) (by omega)
  have hs1 : decide ((-a) < 0) = true := by simp; omega
  have hs2 : decide (b < 0) = false := by simp; omega
  go_enter Tryd.func23, Tryd.ntmps23
  go_wp2_with (first | (go_at_call 31; refine (rboth_any _ _ _).mono ?_; rintro e w' ⟨rfl, rfl⟩) | (go_at_call 33; (with_reducible refine (rsize_neg _ ?_ ?_ _).mono ?_); (omega); (omega); rintro e w' ⟨rfl, rfl⟩) | (go_at_call 33; (with_reducible refine (rsize_pos _ ?_ ?_ _).mono ?_); (omega); (omega); rintro e w' ⟨rfl, rfl⟩))
  go_ret2
  exact ⟨by rw [HD.out]; rfl, rfl⟩
theorem rmod_np (a b : Int) (w : World) (h1 : 0 < a) (h2 : a ≤ 1000000000000000) (h3 : 0 < b) (h4 : b ≤ 1000000000000000) (ha : inN (-a) = true) (hb : inN b = true) (bz : ((b == 0) = false)) :
    Calls Tryd.prog 25 #[.int .i64 (-a), .int .i64 b] w fun e w' => e = two (modN (-a) b) ∧ w = w' := by
  have HD := Lib.hid (modN_in (q := -(a % b)) ha hb (by omega) (by rw [Int.neg_tmod, Int.tmod_eq_emod_of_nonneg (by omega)]))
  obtain ⟨q1, q2⟩ := rem_le (a := a) (b := b) (by omega) (by omega)
  have hs1 : decide ((-a) < 0) = true := by simp; omega
  have hs2 : decide (b < 0) = false := by simp; omega
  go_enter Tryd.func25, Tryd.ntmps25
  go_wp2_with (first | (go_at_call 31; refine (rboth_any _ _ _).mono ?_; rintro e w' ⟨rfl, rfl⟩) | (go_at_call 33; (with_reducible refine (rsize_neg _ ?_ ?_ _).mono ?_); (omega); (omega); rintro e w' ⟨rfl, rfl⟩) | (go_at_call 33; (with_reducible refine (rsize_pos _ ?_ ?_ _).mono ?_); (omega); (omega); rintro e w' ⟨rfl, rfl⟩))
  go_ret2
  exact ⟨by rw [HD.out]; rfl, rfl⟩
theorem rmul_nn (a b : Int) (w : World) (h1 : 0 < a) (h2 : a ≤ 1000000000000000) (h3 : 0 < b) (h4 : b ≤ 1000000000000000) (ha : inN (-a) = true) (hb : inN (-b) = true) (az : (-a != 0) = true) :
    Calls Tryd.prog 20 #[.int .i64 (-a), .int .i64 (-b)] w fun e w' => e = two (mulN (-a) (-b)) ∧ w = w' := by
  by_cases hx : (1000000000000000 : Int) / a < b
  · have HR := Lib.hid (mul_big_no (a := (-b)) (b := (-a)) (by omega) (by rw [show ((-a).natAbs : Int) = a by omega, show ((-b).natAbs : Int) = b by omega]; exact hx))
    go_enter Tryd.func20, Tryd.ntmps20
    go_wp2_with (first | (go_at_call 31; refine (rboth_any _ _ _).mono ?_; rintro e w' ⟨rfl, rfl⟩) | (go_at_call 33; (with_reducible refine (rsize_neg _ ?_ ?_ _).mono ?_); (omega); (omega); rintro e w' ⟨rfl, rfl⟩))
    go_ret2
    exact ⟨by rw [show mulN (-a) (-b) = mulN (-b) (-a) from by simp only [mulN, told, Int.mul_comm (-a) (-b), Bool.and_comm (inN (-a)) (inN (-b))], HR.out]; rfl, rfl⟩
  · have hp := mul_small (a := (-b)) (b := (-a)) (by omega) (by rw [show ((-a).natAbs : Int) = a by omega, show ((-b).natAbs : Int) = b by omega]; exact hx)
    rw [Int.mul_comm] at hp
    have HM := Lib.hid (mulN_in ha hb hp.1 hp.2)
    rw [Int.neg_mul_neg] at hp
    have HW := Lib.hid (IntWalk.wrap64_in (a * b) ⟨by omega, by omega⟩)
    clear hp
    go_enter Tryd.func20, Tryd.ntmps20
    go_wp2_with (first | (go_at_call 31; refine (rboth_any _ _ _).mono ?_; rintro e w' ⟨rfl, rfl⟩) | (go_at_call 33; (with_reducible refine (rsize_neg _ ?_ ?_ _).mono ?_); (omega); (omega); rintro e w' ⟨rfl, rfl⟩))
    go_ret2
    exact ⟨by rw [HM.out]; simp only [Int.neg_mul_neg, HW.out]; rfl, rfl⟩
theorem rdiv_nn (a b : Int) (w : World) (h1 : 0 < a) (h2 : a ≤ 1000000000000000) (h3 : 0 < b) (h4 : b ≤ 1000000000000000) (ha : inN (-a) = true) (hb : inN (-b) = true) (bz : ((-b == 0) = false)) :
    Calls Tryd.prog 23 #[.int .i64 (-a), .int .i64 (-b)] w fun e w' => e = two (divN (-a) (-b)) ∧ w = w' := by
  have HD := Lib.hid (divN_in (q := a / b) ha hb (by omega) (by rw [Int.neg_tdiv, Int.tdiv_neg, Int.neg_neg, Int.tdiv_eq_ediv_of_nonneg (by omega)]))
  obtain ⟨q1, q2⟩ := quot_le (a := a) (b := b) (by omega) (by omega)
  have hs1 : decide ((-a) < 0) = true := by simp; omega
  have hs2 : decide ((-b) < 0) = true := by simp; omega
  go_enter Tryd.func23, Tryd.ntmps23
  go_wp2_with (first | (go_at_call 31; refine (rboth_any _ _ _).mono ?_; rintro e w' ⟨rfl, rfl⟩) | (go_at_call 33; (with_reducible refine (rsize_neg _ ?_ ?_ _).mono ?_); (omega); (omega); rintro e w' ⟨rfl, rfl⟩))
  go_ret2
  exact ⟨by rw [HD.out]; rfl, rfl⟩
theorem rmod_nn (a b : Int) (w : World) (h1 : 0 < a) (h2 : a ≤ 1000000000000000) (h3 : 0 < b) (h4 : b ≤ 1000000000000000) (ha : inN (-a) = true) (hb : inN (-b) = true) (bz : ((-b == 0) = false)) :
    Calls Tryd.prog 25 #[.int .i64 (-a), .int .i64 (-b)] w fun e w' => e = two (modN (-a) (-b)) ∧ w = w' := by
  have HD := Lib.hid (modN_in (q := -(a % b)) ha hb (by omega) (by rw [Int.neg_tmod, Int.tmod_neg, Int.tmod_eq_emod_of_nonneg (by omega)]))
  obtain ⟨q1, q2⟩ := rem_le (a := a) (b := b) (by omega) (by omega)
  have hs1 : decide ((-a) < 0) = true := by simp; omega
  have hs2 : decide ((-b) < 0) = true := by simp; omega
  go_enter Tryd.func25, Tryd.ntmps25
  go_wp2_with (first | (go_at_call 31; refine (rboth_any _ _ _).mono ?_; rintro e w' ⟨rfl, rfl⟩) | (go_at_call 33; (with_reducible refine (rsize_neg _ ?_ ?_ _).mono ?_); (omega); (omega); rintro e w' ⟨rfl, rfl⟩))
  go_ret2
  exact ⟨by rw [HD.out]; rfl, rfl⟩
theorem rmul_any (a b : Int) (w : World) :
    Calls Tryd.prog 20 #[.int .i64 a, .int .i64 b] w fun e w' => e = two (mulN a b) ∧ w = w' := by
  cases ha : inN a <;> cases hb : inN b
  case true.true =>
    obtain ⟨h1, h2⟩ := inN_true ha
    obtain ⟨h3, h4⟩ := inN_true hb
    by_cases hz : a = 0
    · subst hz
      have h0 : mulN 0 b = (0, true) := by simp [mulN, told, hb]; decide
      have HR := Lib.hid h0
      clear h0
      go_enter Tryd.func20, Tryd.ntmps20
      go_wp2_with (first | (go_at_call 31; refine (rboth_any _ _ _).mono ?_; rintro e w' ⟨rfl, rfl⟩) | fail)
      go_ret2
      exact ⟨by rw [HR.out]; rfl, rfl⟩
    · have hz' : (a != 0) = true := by simpa using hz
      by_cases hy : b = 0
      · subst hy
        have h0 : mulN a 0 = (0, true) := by simp [mulN, told, ha]; decide
        have HR := Lib.hid h0
        have hq : 0 ≤ (1000000000000000 : Int) / sizeN a := Int.ediv_nonneg (by omega) (by unfold sizeN; split <;> omega)
        have hs1 : 0 < sizeN a := by unfold sizeN; split <;> omega
        have hs2 : sizeN a ≤ 1000000000000000 := by unfold sizeN; split <;> omega
        clear h0
        generalize hsa : sizeN a = sa at hq hs1 hs2
        have HS := Lib.hid hsa
        clear hsa
        go_enter Tryd.func20, Tryd.ntmps20
        go_wp2_with (first | (go_at_call 31; refine (rboth_any _ _ _).mono ?_; rintro e w' ⟨rfl, rfl⟩) | (go_at_call 33; refine (rsize_pos 0 (by omega) (by omega) _).mono ?_; rintro e w' ⟨rfl, rfl⟩) | (go_at_call 33; refine (rsize_any a ha _).mono ?_; rw [HS.out]; rintro e w' ⟨rfl, rfl⟩))
        go_ret2
        exact ⟨by rw [HR.out]; rfl, rfl⟩
      · by_cases sa : a < 0 <;> by_cases sb : b < 0
        · obtain ⟨c, rfl⟩ : ∃ c, a = -c := ⟨-a, by omega⟩
          obtain ⟨d, rfl⟩ : ∃ d, b = -d := ⟨-b, by omega⟩
          exact rmul_nn c d w (by omega) (by omega) (by omega) (by omega) ha hb hz'
        · obtain ⟨c, rfl⟩ : ∃ c, a = -c := ⟨-a, by omega⟩
          exact rmul_np c b w (by omega) (by omega) (by omega) (by omega) ha hb hz'
        · obtain ⟨d, rfl⟩ : ∃ d, b = -d := ⟨-b, by omega⟩
          exact rmul_pn a d w (by omega) (by omega) (by omega) (by omega) ha hb hz'
        · exact rmul_pp a b w (by omega) (by omega) (by omega) (by omega) ha hb hz'
  all_goals
    have hd : mulN a b = (0, false) := by simp [mulN, told, ha, hb]
    have HD := Lib.hid hd
    clear hd
    go_enter Tryd.func20, Tryd.ntmps20
    go_wp2_with (first | (go_at_call 31; refine (rboth_any _ _ _).mono ?_; rintro e w' ⟨rfl, rfl⟩) | fail)
    go_ret2
    exact ⟨by rw [HD.out]; rfl, rfl⟩
theorem rdiv_any (a b : Int) (w : World) :
    Calls Tryd.prog 23 #[.int .i64 a, .int .i64 b] w fun e w' => e = two (divN a b) ∧ w = w' := by
  cases ha : inN a <;> cases hb : inN b
  case true.true =>
    obtain ⟨h1, h2⟩ := inN_true ha
    obtain ⟨h3, h4⟩ := inN_true hb
    by_cases hy : b = 0
    · subst hy
      have h0 : divN a 0 = (0, false) := by simp [divN]
      have HR := Lib.hid h0
      clear h0
      go_enter Tryd.func23, Tryd.ntmps23
      go_wp2_with (first | (go_at_call 31; refine (rboth_any _ _ _).mono ?_; rintro e w' ⟨rfl, rfl⟩) | fail)
      go_ret2
      exact ⟨by rw [HR.out]; rfl, rfl⟩
    · have hy' : (b == 0) = false := by simpa using hy
      by_cases sa : a < 0 <;> by_cases sb : b < 0
      · obtain ⟨c, rfl⟩ : ∃ c, a = -c := ⟨-a, by omega⟩
        obtain ⟨d, rfl⟩ : ∃ d, b = -d := ⟨-b, by omega⟩
        exact rdiv_nn c d w (by omega) (by omega) (by omega) (by omega) ha hb hy'
      · obtain ⟨c, rfl⟩ : ∃ c, a = -c := ⟨-a, by omega⟩
        exact rdiv_np c b w (by omega) (by omega) (by omega) (by omega) ha hb hy'
      · obtain ⟨d, rfl⟩ : ∃ d, b = -d := ⟨-b, by omega⟩
        exact rdiv_pn a d w (by omega) (by omega) (by omega) (by omega) ha hb hy'
      · exact rdiv_pp a b w (by omega) (by omega) (by omega) (by omega) ha hb hy'
  all_goals
    have hd : divN a b = (0, false) := by simp [divN, told, ha, hb]
    have HD := Lib.hid hd
    clear hd
    go_enter Tryd.func23, Tryd.ntmps23
    go_wp2_with (first | (go_at_call 31; refine (rboth_any _ _ _).mono ?_; rintro e w' ⟨rfl, rfl⟩) | fail)
    go_ret2
    exact ⟨by rw [HD.out]; rfl, rfl⟩
theorem rmod_any (a b : Int) (w : World) :
    Calls Tryd.prog 25 #[.int .i64 a, .int .i64 b] w fun e w' => e = two (modN a b) ∧ w = w' := by
  cases ha : inN a <;> cases hb : inN b
  case true.true =>
    obtain ⟨h1, h2⟩ := inN_true ha
    obtain ⟨h3, h4⟩ := inN_true hb
    by_cases hy : b = 0
    · subst hy
      have h0 : modN a 0 = (0, false) := by simp [modN]
      have HR := Lib.hid h0
      clear h0
      go_enter Tryd.func25, Tryd.ntmps25
      go_wp2_with (first | (go_at_call 31; refine (rboth_any _ _ _).mono ?_; rintro e w' ⟨rfl, rfl⟩) | fail)
      go_ret2
      exact ⟨by rw [HR.out]; rfl, rfl⟩
    · have hy' : (b == 0) = false := by simpa using hy
      by_cases sa : a < 0 <;> by_cases sb : b < 0
      · obtain ⟨c, rfl⟩ : ∃ c, a = -c := ⟨-a, by omega⟩
        obtain ⟨d, rfl⟩ : ∃ d, b = -d := ⟨-b, by omega⟩
        exact rmod_nn c d w (by omega) (by omega) (by omega) (by omega) ha hb hy'
      · obtain ⟨c, rfl⟩ : ∃ c, a = -c := ⟨-a, by omega⟩
        exact rmod_np c b w (by omega) (by omega) (by omega) (by omega) ha hb hy'
      · obtain ⟨d, rfl⟩ : ∃ d, b = -d := ⟨-b, by omega⟩
        exact rmod_pn a d w (by omega) (by omega) (by omega) (by omega) ha hb hy'
      · exact rmod_pp a b w (by omega) (by omega) (by omega) (by omega) ha hb hy'
  all_goals
    have hd : modN a b = (0, false) := by simp [modN, told, ha, hb]
    have HD := Lib.hid hd
    clear hd
    go_enter Tryd.func25, Tryd.ntmps25
    go_wp2_with (first | (go_at_call 31; refine (rboth_any _ _ _).mono ?_; rintro e w' ⟨rfl, rfl⟩) | fail)
    go_ret2
    exact ⟨by rw [HD.out]; rfl, rfl⟩
end Go.Proofs.YtdkmdkiffohlmaaDoor
