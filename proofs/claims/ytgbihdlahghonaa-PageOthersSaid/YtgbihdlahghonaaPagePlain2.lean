/- The plain mathematics of pages, second part: what a page that reads can be. -/
import Derived.Test.YtgbihdlahghonaaPagePlain
namespace Pg
open Oct

theorem getN_pow (s : List UInt8) (a k : Nat) : Oct.getN s a k < 256 ^ k := by
  have h1 := Oct.getL_lt ((s.drop a).take k)
  have h2 : 256 ^ ((s.drop a).take k).length ≤ 256 ^ k := Nat.pow_le_pow_right (by omega) (by rw [List.length_take]; omega)
  unfold Oct.getN; omega
theorem recsOf_sizes (p : List UInt8) : ∀ (k : Nat) (rs : List ByteArray), recsOf p k = some rs → ∀ r ∈ rs, r.size ≤ 400 := by
  intro k
  induction k with
  | zero => intro rs h; simp [recsOf] at h; subst h; intro r hr; cases hr
  | succ k ih =>
    intro rs h
    unfold recsOf at h
    split at h
    · cases h
    · rename_i r0 h0
      split at h
      · cases h
      · rename_i hc
        injection h with h
        intro r hr
        rw [← h, List.mem_append] at hr
        rcases hr with hr | hr
        · exact ih r0 h0 r hr
        · rw [List.mem_singleton.1 hr]
          simp [ByteArray.size]
          omega
theorem sumSizes_le (rs : List ByteArray) (m : Nat) (h : ∀ r ∈ rs, r.size ≤ m) : sumSizes rs ≤ m * rs.length := by
  induction rs with
  | nil => simp [sumSizes]
  | cons r rs ih =>
    have h1 := h r (by simp)
    have h2 := ih (fun r hr => h r (by simp [hr]))
    simp only [sumSizes, List.length_cons, Nat.mul_succ]
    omega
structure Fine (x : Leaf) : Prop where
  small : Small x
  len : x.recs.length ≤ 123
  each : ∀ r ∈ x.recs, r.size ≤ 400
theorem Fine.sum {x : Leaf} (h : Fine x) : sumSizes x.recs ≤ 49200 := by
  have := sumSizes_le x.recs 400 h.each
  have := h.len
  omega
theorem Fine.sizeN {x : Leaf} (h : Fine x) : Pg.sizeN x.recs ≤ 60000 := by
  have := h.sum
  have := h.len
  unfold Pg.sizeN; omega
theorem zero_fine : Fine zero := ⟨⟨by decide, by decide, by decide⟩, by decide, by intro r hr; cases hr⟩
theorem rd_fine {p : List UInt8} {x : Leaf} (h : rd p = some x) : Fine x ∧ p.length = 512 := by
  unfold rd at h
  split at h
  · cases h
  · rename_i hc
    cases hr : recsOf p (getN p 15 2) with
    | none => rw [hr] at h; cases h
    | some rs =>
      rw [hr] at h
      injection h with h
      subst h
      have h1 := getN_pow p 4 6
      have h2 := getN_pow p 12 3
      refine ⟨⟨⟨by simpa using h1, (by show getN p 10 1 ≤ 4; omega), by simpa using h2⟩, (by show rs.length ≤ 123; rw [recsOf_length p _ rs hr]; omega), recsOf_sizes p _ rs hr⟩, by omega⟩
theorem layL_cases (x : Leaf) : layL x = [] ∨ ((layL x).length = 512 ∧ ∀ p : List UInt8, (layL x = putL 0 4 ++ p.drop 4 ↔ (layL x).drop 4 = p.drop 4)) := by
  by_cases h : 512 < Pg.sizeN (trim x.recs)
  · left; unfold layL layR; rw [if_pos h]
  · right
    refine ⟨layR_length x _ h, fun p => ?_⟩
    have h1 : layL x = putL 0 4 ++ (layL x).drop 4 := by
      unfold layL layR
      rw [if_neg h]
      unfold headL
      simp only [List.append_assoc]
      rw [List.drop_append_of_le_length (by rw [putL_length]; exact Nat.le_refl _), List.drop_of_length_le (by rw [putL_length]; exact Nat.le_refl _), List.nil_append]
    constructor
    · intro h2; rw [h2, List.drop_append_of_le_length (by rw [putL_length]; exact Nat.le_refl _), List.drop_of_length_le (by rw [putL_length]; exact Nat.le_refl _), List.nil_append]
    · intro h2; rw [h1, h2]
theorem right_some {p : List UInt8} {x : Leaf} : right p = some x ↔ rd p = some x ∧ layL x = putL 0 4 ++ p.drop 4 := by
  unfold right
  rw [Option.filter_eq_some_iff, decide_eq_true_iff]
theorem right_of {p : List UInt8} {x : Leaf} (h : rd p = some x) : right p = if decide (layL x = putL 0 4 ++ p.drop 4) then some x else none := by
  unfold right
  rw [h]; rfl
theorem right_none_of {p : List UInt8} (h : rd p = none) : right p = none := by unfold right; rw [h]; rfl
theorem right_fine {p : List UInt8} {x : Leaf} (h : right p = some x) : Fine x ∧ p.length = 512 := rd_fine (right_some.1 h).1
theorem leafOf_fine (p : List UInt8) : Fine (leafOf p) := by
  unfold leafOf
  cases h : right p with
  | none => exact zero_fine
  | some x => exact (right_fine h).1
/-- The record of a slot; empty: there is none. -/
def slotAt (rs : List ByteArray) (i : Int) : ByteArray := if i < 0 then ⟨#[]⟩ else (rs[i.toNat]?).getD ⟨#[]⟩
/-- The lowest slot whose record is empty. -/
def freeN : List ByteArray → Nat
  | [] => 0
  | r :: rs => if r.size = 0 then 0 else freeN rs + 1
theorem slotAt_neg {rs : List ByteArray} {i : Int} (h : i < 0) : slotAt rs i = ⟨#[]⟩ := if_pos h
theorem slotAt_past {rs : List ByteArray} {i : Int} (h : (rs.length : Int) ≤ i) : slotAt rs i = ⟨#[]⟩ := by
  unfold slotAt
  rw [if_neg (by omega), List.getElem?_eq_none (by omega)]; rfl
theorem slotAt_in {rs : List ByteArray} {k : Nat} (h : k < rs.length) : slotAt rs (k : Int) = rs[k] := by
  unfold slotAt
  rw [if_neg (by omega), show ((k : Int).toNat) = k from rfl, List.getElem?_eq_getElem h]; rfl
theorem freeN_at (rs : List ByteArray) (k : Nat) (h : k < rs.length) : freeN (rs.drop k) = if rs[k].size = 0 then 0 else freeN (rs.drop (k + 1)) + 1 := by
  rw [List.drop_eq_getElem_cons h]; rfl
theorem freeN_le (rs : List ByteArray) : freeN rs ≤ rs.length := by
  induction rs with
  | nil => exact Nat.le_refl _
  | cons r rs ih => unfold freeN; split <;> simp <;> omega
end Pg
