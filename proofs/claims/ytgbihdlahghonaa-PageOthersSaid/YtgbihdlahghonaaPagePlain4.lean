/- The plain mathematics of pages, fourth part: records put, cut, set, added, deleted. -/
import Derived.Test.YtgbihdlahghonaaPagePlain3
import Derived.Test.YtgbihdlahghonaaPageV
namespace Pg

theorem sumSizes_replicate (n : Nat) : sumSizes (List.replicate n (⟨#[]⟩ : ByteArray)) = 0 := by
  induction n with
  | zero => rfl
  | succ n ih => rw [List.replicate_succ, sumSizes, ih]; rfl
theorem sumSizes_set (rs : List ByteArray) (k : Nat) (r : ByteArray) (h : k < rs.length) : sumSizes (rs.set k r) + rs[k].size = sumSizes rs + r.size := by
  have h1 := sumSizes_split rs k h
  rw [List.set_eq_take_append_cons_drop, if_pos h, sumSizes_append, sumSizes]
  omega
theorem putAt_length (rs : List ByteArray) (k : Nat) (r : ByteArray) : (putAt rs k r).length = max rs.length (k + 1) := by
  unfold putAt
  simp
  omega
theorem putAt_in {rs : List ByteArray} {k : Nat} (h : k < rs.length) (r : ByteArray) : putAt rs k r = rs.set k r := by
  unfold putAt
  rw [show k + 1 - rs.length = 0 by omega]; simp
theorem putAt_sum (rs : List ByteArray) (k : Nat) (r : ByteArray) : sumSizes (putAt rs k r) ≤ sumSizes rs + r.size := by
  unfold putAt
  have h : k < (rs ++ List.replicate (k + 1 - rs.length) (⟨#[]⟩ : ByteArray)).length := by simp; omega
  have h1 := sumSizes_set _ k r h
  rw [sumSizes_append, sumSizes_replicate] at h1
  omega
theorem putAt_mem {rs : List ByteArray} {k : Nat} {r : ByteArray} {m : Nat} (he : ∀ r ∈ rs, r.size ≤ m) (hr : r.size ≤ m) : ∀ q ∈ putAt rs k r, q.size ≤ m := by
  intro q hq
  unfold putAt at hq
  rcases List.mem_or_eq_of_mem_set hq with h | h
  · rw [List.mem_append] at h
    rcases h with h | h
    · exact he q h
    · rw [(List.mem_replicate.1 h).2]; exact Nat.zero_le _
  · rw [h]; exact hr
theorem putAt_get (rs : List ByteArray) (k : Nat) (r : ByteArray) (j : Nat) : ((putAt rs k r)[j]?).getD ⟨#[]⟩ = if j = k then r else (rs[j]?).getD ⟨#[]⟩ := by
  unfold putAt
  rw [List.getElem?_set]
  by_cases h : k = j
  · subst h
    rw [if_pos rfl, if_pos (by simp; omega), if_pos rfl]; rfl
  · rw [if_neg h, if_neg (fun e => h e.symm), List.getElem?_append]
    split
    · rfl
    · rename_i h1
      rw [List.getElem?_replicate, List.getElem?_eq_none (by omega)]
      split <;> rfl
theorem tight_of_last {rs : List ByteArray} (h : rs.length = 0 ∨ ((rs[rs.length - 1]?).getD ⟨#[]⟩).size ≠ 0) : Tight rs := by
  intro r hr
  rw [List.getLast?_eq_getElem?] at hr
  rcases h with h | h
  · rw [List.eq_nil_of_length_eq_zero h] at hr; simp at hr
  · rw [hr] at h; exact h
theorem tight_last {rs : List ByteArray} (h : Tight rs) : rs.length = 0 ∨ ((rs[rs.length - 1]?).getD ⟨#[]⟩).size ≠ 0 := by
  rcases Nat.eq_zero_or_pos rs.length with h0 | h0
  · exact .inl h0
  · right
    have hg : rs[rs.length - 1]? = some rs[rs.length - 1] := List.getElem?_eq_getElem (by omega)
    rw [hg]
    exact h _ (by rw [List.getLast?_eq_getElem?, hg]; rfl)
theorem putAt_tight {rs : List ByteArray} (h : Tight rs) (k : Nat) {r : ByteArray} (hr : r.size ≠ 0) : Tight (putAt rs k r) := by
  refine tight_of_last (.inr ?_)
  rw [putAt_get, putAt_length]
  split
  · exact hr
  · rcases tight_last h with h1 | h1
    · omega
    · rw [show max rs.length (k + 1) - 1 = rs.length - 1 by omega]; exact h1
theorem putAt_size (rs : List ByteArray) (k : Nat) (r : ByteArray) : sizeN (putAt rs k r) ≤ 19 + 4 * max rs.length (k + 1) + (sumSizes rs + r.size) := by
  have := putAt_sum rs k r
  unfold sizeN
  rw [putAt_length]; omega
theorem cutAt_size {rs : List ByteArray} {k : Nat} (h : k < rs.length) : sizeN (putAt rs k ⟨#[]⟩) ≤ sizeN rs := by
  have h1 := putAt_size rs k ⟨#[]⟩
  have h2 : (⟨#[]⟩ : ByteArray).size = 0 := rfl
  unfold sizeN at h1 ⊢; omega
/-- The records with one more at a place; those from there on move up. -/
def insAt (rs : List ByteArray) (k : Nat) (r : ByteArray) : List ByteArray := if rs.length ≤ k then putAt rs k r else rs.take k ++ [r] ++ rs.drop k
/-- The records without one; those behind it move down. -/
def delAt (rs : List ByteArray) (k : Nat) : List ByteArray := rs.take k ++ rs.drop (k + 1)
theorem insAt_sum (rs : List ByteArray) (k : Nat) (r : ByteArray) : sumSizes (insAt rs k r) ≤ sumSizes rs + r.size := by
  unfold insAt
  split
  · exact putAt_sum rs k r
  · have h := sumSizes_append (rs.take k) (rs.drop k)
    rw [List.take_append_drop] at h
    rw [sumSizes_append, sumSizes_append, sumSizes, sumSizes]; omega
theorem insAt_length (rs : List ByteArray) (k : Nat) (r : ByteArray) : (insAt rs k r).length = max (rs.length + 1) (k + 1) := by
  unfold insAt
  split
  · rw [putAt_length]; omega
  · simp; omega
theorem delAt_sum {rs : List ByteArray} {k : Nat} (h : k < rs.length) : sumSizes (delAt rs k) + rs[k].size = sumSizes rs := by
  have h1 := sumSizes_split rs k h
  unfold delAt
  rw [sumSizes_append]; omega
theorem delAt_length {rs : List ByteArray} {k : Nat} (h : k < rs.length) : (delAt rs k).length + 1 = rs.length := by
  unfold delAt; simp; omega
theorem delAt_size {rs : List ByteArray} {k : Nat} (h : k < rs.length) : sizeN (delAt rs k) ≤ sizeN rs := by
  have h1 := delAt_sum h
  have h2 := delAt_length h
  unfold sizeN; omega
theorem insAt_tight {rs : List ByteArray} (h : Tight rs) (k : Nat) {r : ByteArray} (hr : r.size ≠ 0) : Tight (insAt rs k r) := by
  unfold insAt
  split
  · exact putAt_tight h k hr
  · rename_i h1
    intro q hq
    rw [List.getLast?_append] at hq
    refine h q ?_
    rw [List.getLast?_drop, if_neg h1] at hq
    have hl : rs.getLast? = some (rs.getLast (by intro e; rw [e] at h1; simp at h1)) := List.getLast?_eq_some_getLast _
    rw [hl] at hq ⊢
    exact hq
theorem insAt_mem {rs : List ByteArray} {k : Nat} {r : ByteArray} {m : Nat} (he : ∀ r ∈ rs, r.size ≤ m) (hr : r.size ≤ m) : ∀ q ∈ insAt rs k r, q.size ≤ m := by
  unfold insAt
  split
  · exact putAt_mem he hr
  · intro q hq
    simp only [List.mem_append, List.mem_singleton] at hq
    rcases hq with (h | h) | h
    · exact he q (List.mem_of_mem_take h)
    · rw [h]; exact hr
    · exact he q (List.mem_of_mem_drop h)
theorem delAt_mem {rs : List ByteArray} {k : Nat} {m : Nat} (he : ∀ r ∈ rs, r.size ≤ m) : ∀ q ∈ delAt rs k, q.size ≤ m := by
  intro q hq
  unfold delAt at hq
  rw [List.mem_append] at hq
  rcases hq with h | h
  · exact he q (List.mem_of_mem_take h)
  · exact he q (List.mem_of_mem_drop h)
theorem slotAt_lt {rs : List ByteArray} {i : Int} (h : (slotAt rs i).size ≠ 0) : 0 ≤ i ∧ i < rs.length := by
  constructor
  · rcases Int.lt_or_le i 0 with h1 | h1
    · rw [slotAt_neg h1] at h; exact absurd rfl h
    · exact h1
  · rcases Int.lt_or_le i rs.length with h1 | h1
    · exact h1
    · rw [slotAt_past h1] at h; exact absurd rfl h

/-- A page's parts, of which it may be said what they are. -/
structure Good (x : Leaf) : Prop where
  fine : Fine x
  tight : Tight x.recs
  fits : sizeN x.recs ≤ 512
theorem right_good {p : List UInt8} {x : Leaf} (h : right p = some x) : Good x :=
  ⟨(right_fine h).1, (right_tight h).1, (right_tight h).2⟩
theorem leafOf_good (p : List UInt8) : Good (leafOf p) := by
  unfold leafOf
  cases h : right p with
  | none => exact ⟨zero_fine, (by intro r hr; cases hr), by decide⟩
  | some x => exact right_good h
end Pg
