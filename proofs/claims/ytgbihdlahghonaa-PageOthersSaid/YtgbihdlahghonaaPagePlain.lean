/- The plain mathematics of pages: a page's parts, its bytes, and back. -/
import Derived.Test.YtgbihdlahghonaaOctPlain
namespace Pg
open Oct

structure Leaf where
  lsn : Nat
  kind : Nat
  link : Nat
  recs : List ByteArray

/-- The numbers of a page are small. -/
def Small (x : Leaf) : Prop := x.lsn < 281474976710656 ∧ x.kind ≤ 4 ∧ x.link < 16777216
def zero : Leaf := ⟨0, 0, 0, []⟩
def sumSizes : List ByteArray → Nat
  | [] => 0
  | r :: rs => r.size + sumSizes rs
theorem sumSizes_append (a b : List ByteArray) : sumSizes (a ++ b) = sumSizes a + sumSizes b := by
  induction a with
  | nil => simp [sumSizes]
  | cons r a ih => simp [sumSizes, ih]; omega
theorem sumSizes_take_le (rs : List ByteArray) (k : Nat) : sumSizes (rs.take k) ≤ sumSizes rs := by
  have h := sumSizes_append (rs.take k) (rs.drop k)
  rw [List.take_append_drop] at h
  omega
theorem sumSizes_snoc (rs : List ByteArray) (k : Nat) (h : k < rs.length) : sumSizes (rs.take (k + 1)) = sumSizes (rs.take k) + rs[k].size := by
  rw [List.take_succ_eq_append_getElem h, sumSizes_append]; simp [sumSizes]
def sizeN (rs : List ByteArray) : Nat := 19 + 4 * rs.length + sumSizes rs

/-- How many of the first m records are left, once the empty ones at the end have gone. -/
def trimN (rs : List ByteArray) : Nat → Nat
  | 0 => 0
  | m + 1 => if (rs[m]?.getD ⟨#[]⟩).size = 0 then trimN rs m else m + 1
theorem trimN_le (rs : List ByteArray) (m : Nat) : trimN rs m ≤ m := by
  induction m with
  | zero => exact Nat.le_refl _
  | succ m ih => unfold trimN; split <;> omega
def trim (rs : List ByteArray) : List ByteArray := rs.take (trimN rs rs.length)

/-- A slot's four bytes, given where the records before it begin. -/
def slotL (at_ : Nat) (r : ByteArray) : List UInt8 := if r.size = 0 then putL 0 4 else putL (at_ - r.size) 2 ++ putL r.size 2
def slotsL (at_ : Nat) : List ByteArray → List UInt8
  | [] => []
  | r :: rs => slotL at_ r ++ slotsL (at_ - r.size) rs
theorem slotsL_append (a b : List ByteArray) : ∀ at_ : Nat, slotsL at_ (a ++ b) = slotsL at_ a ++ slotsL (at_ - sumSizes a) b := by
  induction a with
  | nil => intro at_; simp [slotsL, sumSizes]
  | cons r a ih => intro at_; simp only [List.cons_append, slotsL, ih, sumSizes, List.append_assoc, Nat.sub_sub]
theorem slotsL_snoc (rs : List ByteArray) (k : Nat) (h : k < rs.length) : slotsL 512 (rs.take (k + 1)) = slotsL 512 (rs.take k) ++ slotL (512 - sumSizes (rs.take k)) rs[k] := by
  rw [List.take_succ_eq_append_getElem h, slotsL_append]; simp [slotsL]
theorem slotL_length (at_ : Nat) (r : ByteArray) : (slotL at_ r).length = 4 := by
  unfold slotL; split <;> simp [putL_length]
theorem slotsL_length (rs : List ByteArray) : ∀ at_, (slotsL at_ rs).length = 4 * rs.length := by
  induction rs with
  | nil => intro _; rfl
  | cons r rs ih => intro at_; simp [slotsL, slotL_length, ih]; omega

/-- The records' bytes, the last one first. -/
def bodyL : List ByteArray → List UInt8
  | [] => []
  | r :: rs => bodyL rs ++ r.data.toList
theorem bodyL_length (rs : List ByteArray) : (bodyL rs).length = sumSizes rs := by
  induction rs with
  | nil => rfl
  | cons r rs ih => simp [bodyL, sumSizes, ih]; omega
theorem bodyL_drop (rs : List ByteArray) (k : Nat) (h : k < rs.length) : bodyL (rs.drop k) = bodyL (rs.drop (k + 1)) ++ rs[k].data.toList := by
  rw [List.drop_eq_getElem_cons h]; rfl

theorem bodyL_append (a b : List ByteArray) : bodyL (a ++ b) = bodyL b ++ bodyL a := by
  induction a with
  | nil => simp [bodyL]
  | cons r a ih => simp [bodyL, ih]
theorem bodyL_snoc (rs : List ByteArray) (k : Nat) (h : k < rs.length) : bodyL (rs.take (k + 1)) = rs[k].data.toList ++ bodyL (rs.take k) := by
  rw [List.take_succ_eq_append_getElem h, bodyL_append]; simp [bodyL]
def headL (x : Leaf) (n at_ : Nat) : List UInt8 := putL 0 4 ++ putL x.lsn 6 ++ putL x.kind 1 ++ putL 0 1 ++ putL x.link 3 ++ putL n 2 ++ putL at_ 2
theorem headL_length (x : Leaf) (n at_ : Nat) : (headL x n at_).length = 19 := by simp [headL, putL_length]

/-- The bytes of the parts, with the sum 0; none, if they do not fit. -/
def layR (x : Leaf) (rs : List ByteArray) : List UInt8 :=
  if 512 < sizeN rs then [] else headL x rs.length (512 - sumSizes rs) ++ slotsL 512 rs ++ List.replicate (512 - sizeN rs) 0 ++ bodyL rs
def layL (x : Leaf) : List UInt8 := layR x (trim x.recs)
theorem layR_length (x : Leaf) (rs : List ByteArray) (h : ¬ 512 < sizeN rs) : (layR x rs).length = 512 := by
  rw [layR, if_neg h]
  simp [headL_length, slotsL_length, bodyL_length]
  unfold sizeN at h ⊢; omega

/-- The records of the first k slots; none, if one of them can't be. -/
def recsOf (p : List UInt8) : Nat → Option (List ByteArray)
  | 0 => some []
  | k + 1 => match recsOf p k with
    | none => none
    | some rs =>
      if 400 < getN p (21 + 4 * k) 2 ∨ 512 < getN p (19 + 4 * k) 2 + getN p (21 + 4 * k) 2 then none
      else some (rs ++ [⟨((p.drop (getN p (19 + 4 * k) 2)).take (getN p (21 + 4 * k) 2)).toArray⟩])
theorem recsOf_length (p : List UInt8) : ∀ (k : Nat) (rs : List ByteArray), recsOf p k = some rs → rs.length = k := by
  intro k
  induction k with
  | zero => intro rs h; simp [recsOf] at h; rw [h]; rfl
  | succ k ih =>
    intro rs h
    unfold recsOf at h
    split at h
    · cases h
    · rename_i r0 h0
      split at h
      · cases h
      · injection h with h
        rw [← h, List.length_append, ih _ h0]; rfl
theorem recsOf_none (p : List UInt8) {k : Nat} (h : recsOf p k = none) : ∀ j, recsOf p (k + j) = none := by
  intro j
  induction j with
  | zero => exact h
  | succ j ih =>
    show recsOf p ((k + j) + 1) = none
    simp only [recsOf, ih]
/-- A page taken apart, whatever it says. -/
def rd (p : List UInt8) : Option Leaf :=
  if p.length ≠ 512 ∨ 4 < getN p 10 1 ∨ 123 < getN p 15 2 then none
  else (recsOf p (getN p 15 2)).map fun rs => ⟨getN p 4 6, getN p 10 1, getN p 12 3, rs⟩
/-- A page's parts, if it is one. -/
def right (p : List UInt8) : Option Leaf := (rd p).filter fun x => decide (layL x = putL 0 4 ++ p.drop 4)
def leafOf (p : List UInt8) : Leaf := (right p).getD zero

end Pg
