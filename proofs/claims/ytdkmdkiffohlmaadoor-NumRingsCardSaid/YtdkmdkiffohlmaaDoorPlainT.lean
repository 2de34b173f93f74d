/- The plain mathematics of decimal texts: the text of a number within the bounds is parsed back, and what both parsers compute is the same. -/
import Derived.Test.YtdkmdkiffohlmaaDoorPlain
import Derived.Lib.AtoiAll
import Derived.Lib.ItoaMem
import Derived.Lib.ItoaLen
namespace NumPlain
open Go.Lib

/-- A byte of a digit. -/
theorem digit_toNat {d : Nat} (h : d < 10) : (UInt8.ofNat (48 + d)).toNat = 48 + d := by
  rw [UInt8.toNat_ofNat']; omega

theorem parse_digits : ∀ (u : Nat), u ≤ 1000000000000000 → parseUint10 0 (decDigits u) = .ok u := by
  have key : ∀ (u : Nat), u ≤ 1000000000000000 → ∀ r, parseUint10 0 (decDigits u ++ r) = parseUint10 u r := by
    intro u
    induction u using Nat.strongRecOn with
    | _ u ih =>
      intro hu r
      rw [decDigits]
      by_cases h : u < 10
      · rw [dif_pos h]
        simp only [List.cons_append, List.nil_append, parseUint10, digit_toNat h]
        rw [if_pos (by omega), if_neg (by omega), if_neg (by omega)]
        congr 1; omega
      · rw [dif_neg h, List.append_assoc, ih (u / 10) (by omega) (by omega)]
        simp only [List.cons_append, List.nil_append, parseUint10, digit_toNat (show u % 10 < 10 by omega)]
        rw [if_pos (by omega), if_neg (by omega), if_neg (by omega)]
        congr 1; omega
  intro u hu
  have := key u hu []
  simpa [parseUint10] using this

theorem decDigits_ne (u : Nat) : decDigits u ≠ [] := by
  rw [decDigits]; split <;> simp

theorem decDigits_head (u : Nat) : ∃ c r, decDigits u = c :: r ∧ 48 ≤ c.toNat ∧ c.toNat ≤ 57 := by
  induction u using Nat.strongRecOn with
  | _ u ih =>
    rw [decDigits]
    by_cases h : u < 10
    · rw [dif_pos h]
      exact ⟨_, _, rfl, by rw [digit_toNat h]; omega, by rw [digit_toNat h]; omega⟩
    · rw [dif_neg h]
      obtain ⟨c, r, e, h1, h2⟩ := ih (u / 10) (by omega)
      exact ⟨c, r ++ [UInt8.ofNat (48 + u % 10)], by rw [e]; rfl, h1, h2⟩

/-- A number within the bounds is read back from its text. -/
theorem atoiAll_itoa {v : Int} (hv : inN v = true) : atoiAll (itoa v) = .ok v := by
  obtain ⟨h1, h2⟩ := inN_true hv
  by_cases hn : v < 0
  · obtain ⟨u, rfl⟩ : ∃ u : Nat, v = -(u : Int) := ⟨v.natAbs, by omega⟩
    rw [itoa_neg u (by omega)]
    have hp : parseMag (decDigits u) = .ok u := by rw [parseMag, if_neg (decDigits_ne u), parse_digits u (by omega)]
    simp only [atoiAll]
    rw [if_pos (by decide), hp]
    simp only []
    rw [if_neg (by simp), if_neg (by omega), if_pos (by decide)]
  · obtain ⟨u, rfl⟩ : ∃ u : Nat, v = (u : Int) := ⟨v.natAbs, by omega⟩
    rw [itoa_nonneg u]
    obtain ⟨c, r, e, hc1, hc2⟩ := decDigits_head u
    have hp := parse_digits u (by omega)
    rw [e] at hp
    simp only [e, atoiAll]
    rw [if_neg (by omega)]
    simp only [parseMag, if_neg (List.cons_ne_nil c r), hp]
    rw [if_neg (by omega), if_neg (by omega), if_neg (by omega)]

/-- What package num's Parse computes. -/
def parseN (l : List UInt8) : Int × Bool :=
  match atoiAll l with
  | .ok v => if inN v && decide (itoa v = l) then (v, true) else (0, false)
  | _ => (0, false)

theorem parseN_itoa {v : Int} (hv : inN v = true) : parseN (itoa v) = (v, true) := by
  simp [parseN, atoiAll_itoa hv, hv]
theorem parseN_none {l : List UInt8} (h : ∀ v, inN v = true → itoa v ≠ l) : parseN l = (0, false) := by
  unfold parseN
  split
  · rename_i v hv
    rw [if_neg]
    intro hc
    simp only [Bool.and_eq_true, decide_eq_true_eq] at hc
    exact h v hc.1 hc.2
  · rfl

/-- What the reference's loop has collected from the digits of a text. -/
def gather (n : Int) : List UInt8 → Int
  | [] => n
  | c :: r => gather (if 48 ≤ c.toNat ∧ c.toNat ≤ 57 then 10 * n + c.toNat - 48 else n) r

theorem gather_append (n : Int) : ∀ (l r : List UInt8), gather n (l ++ r) = gather (gather n l) r := by
  intro l
  induction l generalizing n with
  | nil => intro r; rfl
  | cons c l ih => intro r; simp only [List.cons_append, gather]; exact ih _ r

theorem gather_bound : ∀ (l : List UInt8) (n : Int), 0 ≤ n → 0 ≤ gather n l ∧ gather n l < (n + 1) * 10 ^ l.length := by
  intro l
  induction l with
  | nil => intro n h; simp [gather]; omega
  | cons c l ih =>
    intro n h
    simp only [gather]
    have hp : (0 : Int) < 10 ^ l.length := Int.pow_pos (by omega)
    split
    · rename_i hc
      obtain ⟨h1, h2⟩ := ih (10 * n + c.toNat - 48) (by omega)
      refine ⟨h1, Int.lt_of_lt_of_le h2 ?_⟩
      rw [List.length_cons, Int.pow_succ, Int.mul_comm (10 ^ l.length) 10, ← Int.mul_assoc]
      exact Int.mul_le_mul_of_nonneg_right (by omega) (Int.le_of_lt hp)
    · obtain ⟨h1, h2⟩ := ih n h
      refine ⟨h1, Int.lt_of_lt_of_le h2 ?_⟩
      rw [List.length_cons, Int.pow_succ, Int.mul_comm (10 ^ l.length) 10, ← Int.mul_assoc]
      exact Int.mul_le_mul_of_nonneg_right (by omega) (Int.le_of_lt hp)

theorem gather_digits (u : Nat) : gather 0 (decDigits u) = u := by
  induction u using Nat.strongRecOn with
  | _ u ih =>
    rw [decDigits]
    by_cases h : u < 10
    · rw [dif_pos h]
      simp only [gather, digit_toNat h]
      rw [if_pos (by omega)]; omega
    · rw [dif_neg h, gather_append, ih (u / 10) (by omega)]
      simp only [gather, digit_toNat (show u % 10 < 10 by omega)]
      rw [if_pos (by omega)]; omega

/-- What the reference's Parse computes. -/
def signed (l : List UInt8) : Int := if l.head? = some 45 then - gather 0 l else gather 0 l
def parseR (l : List UInt8) : Int × Bool :=
  if 17 < l.length then (0, false) else if inN (signed l) && decide (itoa (signed l) = l) then (signed l, true) else (0, false)

theorem signed_itoa (v : Int) : signed (itoa v) = v := by
  by_cases hn : v < 0
  · obtain ⟨u, rfl⟩ : ∃ u : Nat, v = -(u : Int) := ⟨v.natAbs, by omega⟩
    rw [itoa_neg u (by omega)]
    simp only [signed, List.head?_cons, if_true]
    rw [show gather 0 (45 :: decDigits u) = gather 0 (decDigits u) from rfl, gather_digits]
  · obtain ⟨u, rfl⟩ : ∃ u : Nat, v = (u : Int) := ⟨v.natAbs, by omega⟩
    rw [itoa_nonneg u]
    obtain ⟨c, r, e, hc1, hc2⟩ := decDigits_head u
    rw [signed, if_neg, gather_digits]
    rw [e]
    simp only [List.head?_cons, Option.some.injEq]
    rintro rfl
    simp at hc1

theorem nDigits_le (u : Nat) (h : u ≤ 1000000000000000) : nDigits u ≤ 16 := by
  have key : ∀ (k u : Nat), u < 10 ^ (k + 1) → nDigits u ≤ k + 1 := by
    intro k
    induction k with
    | zero => intro u hu; rw [nDigits_small (by simpa using hu)]; exact Nat.le_refl _
    | succ k ih =>
      intro u hu
      by_cases h : u < 10
      · rw [nDigits_small h]; omega
      · rw [nDigits_big h]
        have := ih (u / 10) (by rw [Nat.div_lt_iff_lt_mul (by omega)]; rw [Nat.pow_succ] at hu; exact hu)
        omega
  exact key 15 u (by omega)

theorem itoa_short {v : Int} (hv : inN v = true) : (itoa v).length ≤ 17 := by
  obtain ⟨h1, h2⟩ := inN_true hv
  by_cases hn : v < 0
  · obtain ⟨u, rfl⟩ : ∃ u : Nat, v = -(u : Int) := ⟨v.natAbs, by omega⟩
    rw [itoa_neg u (by omega), List.length_cons, decDigits_length]
    have := nDigits_le u (by omega); omega
  · obtain ⟨u, rfl⟩ : ∃ u : Nat, v = (u : Int) := ⟨v.natAbs, by omega⟩
    rw [itoa_nonneg u, decDigits_length]
    have := nDigits_le u (by omega); omega

/-- The two parsers compute the same. -/
theorem parseR_eq (l : List UInt8) : parseR l = parseN l := by
  by_cases h : ∃ v, inN v = true ∧ itoa v = l
  · obtain ⟨v, hv, rfl⟩ := h
    rw [parseN_itoa hv, parseR, if_neg (by have := itoa_short hv; omega)]
    simp only [signed_itoa, hv]
    simp
  · have h' : ∀ v, inN v = true → itoa v ≠ l := fun v hv e => h ⟨v, hv, e⟩
    rw [parseN_none h', parseR]
    split
    · rfl
    · rw [if_neg]
      intro hc
      simp only [Bool.and_eq_true, decide_eq_true_eq] at hc
      exact h' _ hc.1 hc.2

theorem parseN_ok {l : List UInt8} {v : Int} (h : parseN l = (v, true)) : inN v = true ∧ itoa v = l := by
  unfold parseN at h
  split at h
  · split at h
    · rename_i hc
      simp only [Bool.and_eq_true, decide_eq_true_eq] at hc
      simp only [Prod.mk.injEq, and_true] at h
      subst h; exact hc
    · simp at h
  · simp at h
theorem parseN_snd {l : List UInt8} (h : (parseN l).2 = true) : inN (parseN l).1 = true ∧ itoa (parseN l).1 = l :=
  parseN_ok (v := (parseN l).1) (by rw [← h])

/-- The reference's Text goes digit by digit. -/
theorem itoa_step {n : Int} (h : 10 ≤ n.natAbs) : itoa n = itoa (n.tdiv 10) ++ [UInt8.ofNat (48 + n.natAbs % 10)] := by
  by_cases hn : n < 0
  · obtain ⟨u, rfl⟩ : ∃ u : Nat, n = -(u : Int) := ⟨n.natAbs, by omega⟩
    have e : (-(u : Int)).tdiv 10 = -((u / 10 : Nat) : Int) := by
      rw [Int.neg_tdiv]; congr 1
    rw [e, itoa_neg u (by omega), itoa_neg (u / 10) (by omega), decDigits, dif_neg (by omega)]
    simp
  · obtain ⟨u, rfl⟩ : ∃ u : Nat, n = (u : Int) := ⟨n.natAbs, by omega⟩
    have e : (u : Int).tdiv 10 = ((u / 10 : Nat) : Int) := by
      rw [Int.tdiv_eq_ediv_of_nonneg (by omega)]; rfl
    rw [e, itoa_nonneg, itoa_nonneg, decDigits, dif_neg (by omega)]
    simp
theorem itoa_one {d : Nat} (h : d < 10) : itoa (d : Int) = [UInt8.ofNat (48 + d)] := by
  rw [itoa_nonneg, decDigits, dif_pos h]
theorem itoa_minus {d : Nat} (h1 : 1 ≤ d) (h : d < 10) : itoa (-(d : Int)) = [45, UInt8.ofNat (48 + d)] := by
  rw [itoa_neg d h1, decDigits, dif_pos h]

/-- The ten digits, and a piece of them. -/
def digits : ByteArray := ⟨#[48, 49, 50, 51, 52, 53, 54, 55, 56, 57]⟩
theorem digits_piece (d : Nat) (h : d < 10) : digits.extract d (d + 1) = ⟨#[UInt8.ofNat (48 + d)]⟩ := by
  have : ∀ d : Fin 10, (digits.extract d.val (d.val + 1)).data = #[UInt8.ofNat (48 + d.val)] := by decide +kernel
  exact congrArg ByteArray.mk (this ⟨d, h⟩)

theorem tdiv10_neg {n : Int} (h : n < 0) : n.tdiv 10 = -((n.natAbs / 10 : Nat) : Int) ∧ n.tmod 10 = -((n.natAbs % 10 : Nat) : Int) := by
  obtain ⟨u, rfl⟩ : ∃ u : Nat, n = -(u : Int) := ⟨n.natAbs, by omega⟩
  rw [Int.neg_tdiv, Int.neg_tmod]
  constructor
  · rw [Int.tdiv_eq_ediv_of_nonneg (by omega)]; omega
  · rw [Int.tmod_eq_emod_of_nonneg (by omega)]; omega
end NumPlain
