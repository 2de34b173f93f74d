/- The plain mathematics of the numbers' chapter: what the functions of package num and of the reference compute, and that the two agree. -/
namespace NumPlain

def inN (n : Int) : Bool := decide (-1000000000000000 ≤ n) && decide (n ≤ 1000000000000000)

theorem inN_true {n : Int} (h : inN n = true) : -1000000000000000 ≤ n ∧ n ≤ 1000000000000000 := by
  simpa [inN] using h
theorem inN_false {n : Int} (h : inN n = false) : n < -1000000000000000 ∨ 1000000000000000 < n := by
  by_cases h1 : -1000000000000000 ≤ n
  · right
    by_cases h2 : n ≤ 1000000000000000
    · simp [inN, h1, h2] at h
    · omega
  · left; omega
theorem inN_of {n : Int} (h1 : -1000000000000000 ≤ n) (h2 : n ≤ 1000000000000000) : inN n = true := by
  simp [inN, h1, h2]

def told (a b n : Int) : Int × Bool := if inN a && inN b && inN n then (n, true) else (0, false)
def told1 (n : Int) : Int × Bool := if inN n then (n, true) else (0, false)
def addN (a b : Int) : Int × Bool := told a b (a + b)
def subN (a b : Int) : Int × Bool := told a b (a - b)
def mulN (a b : Int) : Int × Bool := told a b (a * b)
def divN (a b : Int) : Int × Bool := if b = 0 then (0, false) else told a b (a.tdiv b)
def modN (a b : Int) : Int × Bool := if b = 0 then (0, false) else told a b (a.tmod b)
def sizeN (a : Int) : Int := if a < 0 then -a else a

theorem natAbs_bound {a : Int} (h : inN a = true) : a.natAbs ≤ 1000000000000000 := by
  have := inN_true h; omega

/-- The guard of the program's product: beyond the bound, exactly if the greater one is greater than the bound has of the other. -/
theorem mul_big {a b : Int} (hb : b ≠ 0) : (a.natAbs : Int) > (1000000000000000 : Int) / (b.natAbs : Int) ↔ 1000000000000000 < (a * b).natAbs := by
  have hbp : 0 < (b.natAbs : Int) := by omega
  rw [Int.natAbs_mul]
  have h := Int.ediv_lt_iff_lt_mul (a := 1000000000000000) (b := (a.natAbs : Int)) hbp
  constructor
  · intro hlt
    have := h.1 hlt
    have e : ((a.natAbs * b.natAbs : Nat) : Int) = (a.natAbs : Int) * (b.natAbs : Int) := by simp
    omega
  · intro hlt
    apply h.2
    have e : ((a.natAbs * b.natAbs : Nat) : Int) = (a.natAbs : Int) * (b.natAbs : Int) := by simp
    omega
theorem inN_natAbs (n : Int) : inN n = true ↔ n.natAbs ≤ 1000000000000000 := by
  constructor
  · intro h; have := inN_true h; omega
  · intro h; exact inN_of (by omega) (by omega)

theorem quot_in {a b : Int} (ha : inN a = true) : inN (a.tdiv b) = true := by
  rw [inN_natAbs] at ha ⊢
  rw [Int.natAbs_tdiv]
  exact Nat.le_trans (Nat.div_le_self _ _) ha
theorem rem_in {a b : Int} (ha : inN a = true) : inN (a.tmod b) = true := by
  rw [inN_natAbs] at ha ⊢
  rw [Int.natAbs_tmod]
  exact Nat.le_trans (Nat.mod_le _ _) ha

end NumPlain
