/- The plain mathematics of package octet: numbers in bytes, the sum of a text. -/
namespace Oct

/-- A number as the 64 bits that it has in memory. -/
def word (n : Int) : Nat := (n % 18446744073709551616).toNat
theorem word_lt (n : Int) : word n < 18446744073709551616 := by unfold word; omega
theorem word_nat (n : Nat) (h : n < 18446744073709551616) : word (n : Int) = n := by unfold word; omega

/-- The lowest k bytes of u, the highest one first. -/
def putL (u : Nat) : Nat → List UInt8
  | 0 => []
  | k + 1 => putL (u / 256) k ++ [UInt8.ofNat (u % 256)]
theorem putL_length (u k : Nat) : (putL u k).length = k := by
  induction k generalizing u with
  | zero => rfl
  | succ k ih => simp [putL, ih]
theorem putL_get (k : Nat) : ∀ (u i : Nat), i < k → (putL u k)[i]? = some (UInt8.ofNat (u / 256 ^ (k - 1 - i) % 256)) := by
  induction k with
  | zero => intro u i h; omega
  | succ k ih =>
    intro u i h
    rw [putL]
    by_cases hi : i < k
    · rw [List.getElem?_append_left (by rw [putL_length]; exact hi), ih (u / 256) i hi]
      congr 2
      rw [show k + 1 - 1 - i = (k - 1 - i) + 1 by omega, Nat.pow_succ, Nat.mul_comm, Nat.div_div_eq_div_mul]
    · obtain rfl : i = k := by omega
      rw [List.getElem?_append_right (by rw [putL_length]; omega), putL_length]
      simp

/-- What octet.Put returns. -/
def putB (n size : Int) : ByteArray := if size < 0 ∨ 8 < size then ⟨#[]⟩ else ⟨(putL (word n) size.toNat).toArray⟩
theorem putB_size (n : Int) (k : Nat) (h : k ≤ 8) : (putB n k).size = k := by
  unfold putB
  rw [if_neg (by omega)]
  show (putL _ _).toArray.size = _
  simp [putL_length]

theorem putB_list (n : Int) (k : Nat) (h : k ≤ 8) : (putB n k).data.toList = putL (word n) k := by
  unfold putB
  rw [if_neg (by omega)]
  simp
/-- The number that bytes make, the first one the highest. -/
def getL (l : List UInt8) : Nat := l.foldl (fun n c => 256 * n + c.toNat) 0
theorem getL_snoc (l : List UInt8) (c : UInt8) : getL (l ++ [c]) = 256 * getL l + c.toNat := by simp [getL, List.foldl_append]
theorem getL_lt (l : List UInt8) : getL l < 256 ^ l.length := by
  have key : ∀ (n : Nat) (l : List UInt8), l.length = n → getL l < 256 ^ n := by
    intro n
    induction n with
    | zero => intro l h; rw [List.eq_nil_of_length_eq_zero h]; simp [getL]
    | succ n ih =>
      intro l h
      have hl : l ≠ [] := by intro e; rw [e] at h; simp at h
      rw [← List.dropLast_concat_getLast hl, getL_snoc, Nat.pow_succ]
      have h1 := ih l.dropLast (by simp [h])
      have h2 := (l.getLast hl).toNat_lt
      omega
  exact key _ l rfl
theorem putL_getL : ∀ (k : Nat) (l : List UInt8), l.length = k → putL (getL l) k = l := by
  intro k
  induction k with
  | zero => intro l h; rw [List.eq_nil_of_length_eq_zero h]; rfl
  | succ k ih =>
    intro l h
    have hl : l ≠ [] := by intro e; rw [e] at h; simp at h
    rw [← List.dropLast_concat_getLast hl, getL_snoc, putL]
    have h2 := (l.getLast hl).toNat_lt
    rw [show (256 * getL l.dropLast + (l.getLast hl).toNat) / 256 = getL l.dropLast by omega, show (256 * getL l.dropLast + (l.getLast hl).toNat) % 256 = (l.getLast hl).toNat by omega, ih _ (by simp [h])]
    simp
theorem getL_putL (k : Nat) : ∀ u : Nat, getL (putL u k) = u % 256 ^ k := by
  induction k with
  | zero => intro u; simp [putL, getL, Nat.mod_one]
  | succ k ih =>
    intro u
    rw [putL, getL_snoc, ih]
    have h1 : (UInt8.ofNat (u % 256)).toNat = u % 256 := by rw [UInt8.toNat_ofNat']; omega
    rw [h1, Nat.pow_succ, Nat.mul_comm (256 ^ k) 256, Nat.mod_mul]
    omega

theorem or_byte (x c : Nat) (hc : c < 256) : (256 * x) ||| c = 256 * x + c := by
  have h := Nat.shiftLeft_add_eq_or_of_lt (i := 8) (b := c) (by omega) x
  rw [Nat.shiftLeft_eq, Nat.mul_comm x (2 ^ 8)] at h
  exact h.symm
theorem getL_take (l : List UInt8) (k : Nat) (hk : k < l.length) : getL (l.take (k + 1)) = 256 * getL (l.take k) + (l[k]?.getD 0).toNat := by
  rw [List.take_succ_eq_append_getElem hk, getL_snoc, List.getElem?_eq_getElem hk]; rfl
theorem getL_take_lt (l : List UInt8) (k : Nat) (hk : k < 8) : getL (l.take k) < 72057594037927936 := by
  have h := getL_lt (l.take k)
  have h2 : 256 ^ (l.take k).length ≤ 256 ^ 7 := Nat.pow_le_pow_right (by omega) (by rw [List.length_take]; omega)
  omega
/-- The number as an int. -/
def intOf (u : Nat) : Int := if u < 9223372036854775808 then (u : Int) else (u : Int) - 18446744073709551616
/-- What octet.Get returns. -/
def getN (s : List UInt8) (at_ size : Nat) : Nat := getL ((s.drop at_).take size)
def there (len : Nat) (at_ size : Int) : Bool := decide (1 ≤ size) && decide (size ≤ 8) && decide (0 ≤ at_) && decide (at_ + size ≤ len)

/-- One bit of the sum. -/
def bit1 (n : Nat) : Nat := if n % 2 = 1 then (n / 2) ^^^ 3988292384 else n / 2
def bits8 : Nat → Nat → Nat
  | 0, n => n
  | k + 1, n => bits8 k (bit1 n)
/-- The register, one byte on. -/
def crcByte (n : Nat) (c : UInt8) : Nat := bits8 8 (n ^^^ c.toNat)
def crcFrom (n : Nat) (l : List UInt8) : Nat := l.foldl crcByte n
def sumN (l : List UInt8) : Nat := crcFrom 4294967295 l ^^^ 4294967295
theorem crcFrom_snoc (n : Nat) (l : List UInt8) (c : UInt8) : crcFrom n (l ++ [c]) = crcByte (crcFrom n l) c := by simp [crcFrom, List.foldl_append]
theorem bits8_succ (k n : Nat) : bits8 (k + 1) n = bit1 (bits8 k n) := by
  induction k generalizing n with
  | zero => rfl
  | succ k ih => exact ih (bit1 n)
theorem bit1_lt {n : Nat} (h : n < 4294967296) : bit1 n < 4294967296 := by
  unfold bit1
  split
  · exact Nat.xor_lt_two_pow (n := 32) (by omega) (by omega)
  · omega
theorem bits8_lt (k : Nat) : ∀ {n : Nat}, n < 4294967296 → bits8 k n < 4294967296 := by
  induction k with
  | zero => intro n h; exact h
  | succ k ih => intro n h; exact ih (bit1_lt h)
theorem crcByte_lt {n : Nat} (h : n < 4294967296) (c : UInt8) : crcByte n c < 4294967296 :=
  bits8_lt 8 (Nat.xor_lt_two_pow (n := 32) h (by have := c.toNat_lt; omega))
theorem crcFrom_lt (l : List UInt8) : ∀ {n : Nat}, n < 4294967296 → crcFrom n l < 4294967296 := by
  induction l with
  | nil => intro n h; exact h
  | cons c l ih => intro n h; exact ih (crcByte_lt h c)
theorem sumN_lt (l : List UInt8) : sumN l < 4294967296 := Nat.xor_lt_two_pow (n := 32) (crcFrom_lt l (by omega)) (by omega)

end Oct
