/- The plain law of the statistics: what is known of right rows is right, does not hang on their order, and counts each of them. -/
import Derived.Test.YtmhpbmobfdgkeaaHm01
import Derived.BigRegion
import Derived.Lib.SliceRun
import Derived.Laws.RangeAny
import Derived.Laws.RangeString
namespace Sp
theorem up_getD {l : List Val} (h : Up ordV l) {a b : Nat} (hab : a ≤ b) (hb : b < l.length) : ordV (l.getD a nullV) (l.getD b nullV) ≤ 0 := by
  rw [List.getD_eq_getElem?_getD, List.getD_eq_getElem?_getD, List.getElem?_eq_getElem hb, List.getElem?_eq_getElem (Nat.lt_of_le_of_lt hab hb)]
  simp only [Option.getD_some]
  rcases Nat.lt_or_eq_of_le hab with h1 | h1
  · exact (List.pairwise_iff_getElem.1 h) a b _ hb h1
  · subst h1; rw [ordV_self]; exact Int.le_refl _
theorem getD_mem {l : List Val} {a : Nat} (h : a < l.length) : l.getD a nullV ∈ l := by
  rw [List.getD_eq_getElem?_getD, List.getElem?_eq_getElem h, Option.getD_some]
  exact List.getElem_mem h
theorem others_mem {l : List Val} {v : Val} (h : v ∈ others l) : v ∈ l ∧ v ≠ nullV := by
  have h1 := ((sort_perm ordV (l.filter known)).mem_iff).1 h
  rw [List.mem_filter] at h1
  exact ⟨h1.1, known_iff.1 h1.2⟩
theorem others_of {l : List Val} {v : Val} (h : v ∈ l) (hn : v ≠ nullV) : v ∈ others l := ((sort_perm ordV (l.filter known)).mem_iff).2 (List.mem_filter.2 ⟨h, known_iff.2 hn⟩)
theorem others_len (l : List Val) : (others l).length = (l.filter known).length := sort_len _ _
theorem others_le (l : List Val) : (others l).length ≤ l.length := by rw [others_len]; exact List.length_filter_le _ _
theorem colAt_len (rows : List (List Val)) (i : Nat) : (colAt rows i).length = rows.length := by unfold colAt; simp
theorem sum_ge : ∀ {l : List Oft}, (∀ o ∈ l, 1 ≤ o.n) → (l.length : Int) ≤ (l.map (·.n)).sum
  | [], _ => by simp
  | o :: l, h => by
    have h1 := h o (by simp)
    have h2 := @sum_ge l (fun x hx => h x (List.mem_cons_of_mem _ hx))
    simp only [List.map_cons, List.sum_cons, List.length_cons]
    omega
theorem sum_perm {l m : List Oft} (h : l.Perm m) : (l.map (·.n)).sum = (m.map (·.n)).sum := by
  induction h with
  | nil => rfl
  | cons x _ ih => simp only [List.map_cons, List.sum_cons, ih]
  | swap x y l => simp only [List.map_cons, List.sum_cons]; omega
  | trans _ _ h1 h2 => exact h1.trans h2
theorem filter_perm {l : List Oft} (p : Oft → Bool) : l.Perm (l.filter p ++ l.filter (fun o => !p o)) := by
  induction l with
  | nil => exact .nil
  | cons a l ih =>
    by_cases h : p a = true
    · rw [List.filter_cons_of_pos h, List.filter_cons_of_neg (by simp [h])]
      exact ih.cons a
    · rw [List.filter_cons_of_neg h, List.filter_cons_of_pos (by simpa using h)]
      exact (ih.cons a).trans List.perm_middle.symm
theorem times_le (l : List Val) (v : Val) : times l v ≤ l.length := by unfold times; exact List.length_filter_le _ _
/-- The commonest of counted values. -/
theorem com_ok {l : List Val} (hu : Up ordV l) (hg : ∀ v ∈ l, goodV v) (ends : List Val) (nulls : Int) : commonOk ⟨nulls, ((cntV l).length : Int), ends, comV (cntV l)⟩ (l.length : Int) := by
  have hc := cnt_all l hu
  have hp : (sortO ordO (oftF (cntV l))).Perm (oftF (cntV l)) := sort_perm _ _
  have hup : Up ordO (sortO ordO (oftF (cntV l))) := totO.sort_up _
  have hmem : ∀ o ∈ sortO ordO (oftF (cntV l)), o ∈ cntV l ∧ 2 ≤ o.n := fun o ho => by
    have h1 := hp.mem_iff.1 ho
    unfold oftF at h1
    rw [List.mem_filter] at h1
    refine ⟨h1.1, ?_⟩
    have := h1.2
    simp only [Bool.not_eq_true', decide_eq_false_iff_not] at this
    omega
  have hne : (sortO ordO (oftF (cntV l))).Pairwise (fun a b => a.v ≠ b.v) := by
    have h1 : (oftF (cntV l)).Pairwise (fun a b => a.v ≠ b.v) := by
      unfold oftF
      refine List.Pairwise.sublist List.filter_sublist (hc.up.imp (fun {a b} h e => ?_))
      rw [e, ordV_self] at h
      omega
    exact (hp.pairwise_iff (fun {a b} h e => h e.symm)).2 h1
  have hsum : ((sortO ordO (oftF (cntV l))).map (·.n)).sum + (((cntV l).filter (fun o => !(!decide (o.n < 2)))).map (·.n)).sum = (l.length : Int) := by
    rw [sum_perm hp, ← hc.sum, sum_perm (filter_perm (fun o => !decide (o.n < 2)) (l := cntV l)), List.map_append, List.sum_append]
    rfl
  have hlen : (sortO ordO (oftF (cntV l))).length + ((cntV l).filter (fun o => !(!decide (o.n < 2)))).length = (cntV l).length := by
    rw [hp.length_eq, (filter_perm (fun o => !decide (o.n < 2)) (l := cntV l)).length_eq, List.length_append]
    rfl
  have hr : ((((cntV l).filter (fun o => !(!decide (o.n < 2))))).length : Int) ≤ (((cntV l).filter (fun o => !(!decide (o.n < 2)))).map (·.n)).sum := sum_ge (fun o ho => hc.one o (List.mem_filter.1 ho).1)
  generalize (cntV l).filter (fun o => !(!decide (o.n < 2))) = R at hsum hlen hr
  unfold comV
  generalize sortO ordO (oftF (cntV l)) = S at hup hmem hne hsum hlen
  clear hp
  have hsd : (S.map (·.n)).sum = sumO (S.take 4) + ((S.drop 4).map (·.n)).sum := by
    unfold sumO
    rw [← List.sum_append, ← List.map_append, List.take_append_drop]
  have hdr : ((S.drop 4).length : Int) ≤ ((S.drop 4).map (·.n)).sum := sum_ge (fun o ho => hc.one o (hmem o (List.mem_of_mem_drop ho)).1)
  have hld : (S.take 4).length + (S.drop 4).length = S.length := by rw [← List.length_append, List.take_append_drop]
  have hl4 : (S.take 4).length ≤ 4 := by rw [List.length_take]; omega
  refine ⟨hl4, by show ((S.take 4).length : Int) ≤ ((cntV l).length : Int); omega, fun i hi => ?_, ?_⟩
  · have hi' : i < (S.take 4).length := hi
    have hiS : i < S.length := by rw [List.length_take] at hi'; omega
    have e : (S.take 4)[i] = S[i] := List.getElem_take
    have hm := hmem S[i] (List.getElem_mem hiS)
    refine ⟨?_, ?_, ?_, fun h0 => ?_, fun j hj => ?_⟩
    · show goodV ((S.take 4)[i]).v
      rw [e]; exact hg _ (hc.mem _ hm.1)
    · show 2 ≤ ((S.take 4)[i]).n
      rw [e]; exact hm.2
    · show ((S.take 4)[i]).n ≤ (l.length : Int)
      rw [e, hc.n _ hm.1]
      have := times_le l S[i].v
      omega
    · show ordO ((S.take 4)[i - 1]'(by omega)) ((S.take 4)[i]) < 0
      rw [e, List.getElem_take]
      have h1 := (List.pairwise_iff_getElem.1 hup) (i - 1) i (by omega) hiS (by omega)
      have h2 := (List.pairwise_iff_getElem.1 hne) (i - 1) i (by omega) hiS (by omega)
      have h3 : ordO (S[i - 1]'(by omega)) S[i] ≠ 0 := fun e3 => h2 (by rw [ordO_zero.1 e3])
      omega
    · show ((S.take 4)[j]'(by omega)).v ≠ ((S.take 4)[i]).v
      rw [e, List.getElem_take]
      exact (List.pairwise_iff_getElem.1 hne) j i (by omega) hiS hj
  · show ((cntV l).length : Int) - ((S.take 4).length : Int) + sumO (S.take 4) ≤ (l.length : Int)
    omega
theorem ends_at {l : List Val} (h0 : 0 < l.length) (i : Nat) (hi : i < (endsV l).length) : ∃ a, a < l.length ∧ (endsV l)[i] = l.getD a nullV ∧ (i < 7 → a = (i + 1) * l.length / 8) ∧ (¬ i < 7 → a = l.length - 1) := by
  have hl := endsV_len h0
  have e : endsV l = endsK l 7 ++ [l.getD (l.length - 1) nullV] := by unfold endsV; rw [if_neg (by omega)]
  by_cases h7 : i < 7
  · refine ⟨(i + 1) * l.length / 8, ?_, ?_, fun _ => rfl, fun h => absurd h7 h⟩
    · have : (i + 1) * l.length ≤ 7 * l.length := Nat.mul_le_mul_right _ (by omega)
      omega
    · simp only [e]
      rw [List.getElem_append_left (by rw [endsK_len]; exact h7)]
      unfold endsK
      rw [List.getElem_map, List.getElem_range]
  · refine ⟨l.length - 1, by omega, ?_, fun h => absurd h h7, fun _ => rfl⟩
    obtain rfl : i = 7 := by omega
    simp only [e]
    rw [List.getElem_append_right (by rw [endsK_len]; omega)]
    simp only [endsK_len]
    rfl
theorem ends_ok {l : List Val} (hu : Up ordV l) (hg : ∀ v ∈ l, goodV v) (nulls : Int) (com : List Oft) : endsOk ⟨nulls, ((cntV l).length : Int), endsV l, com⟩ := by
  have hc := cnt_all l hu
  unfold endsOk
  by_cases h0 : (cntV l).length = 0
  · rw [if_pos (by show ((cntV l).length : Int) = 0; omega)]
    have e : cntV l = [] := List.eq_nil_of_length_eq_zero h0
    have hs := hc.sum
    rw [e] at hs
    simp only [List.map_nil, List.sum_nil] at hs
    show (endsV l).length = 0
    unfold endsV
    rw [if_pos (by omega)]
    rfl
  · rw [if_neg (by show ¬ ((cntV l).length : Int) = 0; omega)]
    have hl0 : 0 < l.length := by
      rcases Nat.eq_zero_or_pos l.length with h | h
      · have e : l = [] := List.eq_nil_of_length_eq_zero h
        rw [e] at h0; exact absurd rfl h0
      · exact h
    refine ⟨endsV_len hl0, fun i hi => ?_, fun i hi => ?_⟩
    · obtain ⟨a, ha, e, _, _⟩ := ends_at hl0 i hi
      show goodV (endsV l)[i]
      rw [e]; exact hg _ (getD_mem ha)
    · have hi2 : i + 1 < (endsV l).length := hi
      have hl8 := endsV_len hl0
      obtain ⟨a, ha, e, h1, h2⟩ := ends_at hl0 i (by omega)
      obtain ⟨b, hb, e', h3, h4⟩ := ends_at hl0 (i + 1) hi
      show ordV ((endsV l)[i]'(by omega)) (endsV l)[i + 1] ≤ 0
      rw [e, e']
      refine up_getD hu ?_ hb
      rw [h1 (by omega)]
      by_cases h7 : i + 1 < 7
      · rw [h3 h7]
        exact Nat.div_le_div_right (Nat.mul_le_mul_right _ (by omega))
      · rw [h4 h7]
        have : (i + 1) * l.length ≤ 7 * l.length := Nat.mul_le_mul_right _ (by omega)
        omega
theorem right_null : rightV nullV := .inl ⟨rfl, rfl, rfl⟩
theorem colAt_right {rows : List (List Val)} (h : ∀ r ∈ rows, ∀ v ∈ r, rightV v) (i : Nat) : ∀ v ∈ colAt rows i, rightV v := fun v hv => by
  unfold colAt at hv
  obtain ⟨r, hr, rfl⟩ := List.mem_map.1 hv
  by_cases hi : i < r.length
  · exact h r hr _ (getD_mem hi)
  · rw [List.getD_eq_getElem?_getD, List.getElem?_eq_none (by omega), Option.getD_none]; exact right_null
theorem col_ok {l : List Val} (h : ∀ v ∈ l, rightV v) : colOk (l.length : Int) (colS l) := by
  have hg : ∀ v ∈ others l, goodV v := fun v hv => ⟨h v (others_mem hv).1, (others_mem hv).2⟩
  have hle := others_le l
  have hc := cnt_all _ (others_up l)
  have hd : ((cntV (others l)).length : Int) ≤ ((others l).length : Int) := by rw [← hc.sum]; exact sum_ge hc.one
  refine ⟨⟨?_, ?_, ?_, ?_⟩, ?_, ends_ok (others_up l) hg _ _⟩
  · show 0 ≤ (l.length : Int) - ((others l).length : Int); omega
  · show (l.length : Int) - ((others l).length : Int) ≤ (l.length : Int); omega
  · show 0 ≤ ((cntV (others l)).length : Int); omega
  · show ((cntV (others l)).length : Int) ≤ (l.length : Int) - ((l.length : Int) - ((others l).length : Int)); omega
  · rw [show (l.length : Int) - (colS l).nulls = ((others l).length : Int) from by show (l.length : Int) - ((l.length : Int) - ((others l).length : Int)) = _; omega]
    exact com_ok (others_up l) hg _ _
/-- What is known of right rows is right. -/
theorem stat_right {rows : List (List Val)} (h : ∀ r ∈ rows, ∀ v ∈ r, rightV v) (hl : rows.length ≤ 1000000000000) (t : ByteArray) (width pages : Int) (hp : pages ≤ 1000000000000) : rightS (statOf t rows width pages) := by
  refine ⟨⟨?_, ?_, ?_, ?_⟩, fun c hc => ?_⟩
  · show 0 ≤ (rows.length : Int); omega
  · show (rows.length : Int) ≤ 1000000000000; omega
  · show 0 ≤ max pages 0; omega
  · show max pages 0 ≤ 1000000000000; omega
  · obtain ⟨i, _, rfl⟩ := List.mem_map.1 (show c ∈ (List.range (widthS width)).map (fun i => colS (colAt rows i)) from hc)
    have := col_ok (colAt_right h i)
    rw [colAt_len] at this
    exact this
theorem others_perm {l m : List Val} (h : l.Perm m) : others l = others m :=
  totV.unique ((sort_perm _ _).trans ((h.filter known).trans (sort_perm _ _).symm)) (others_up l) (others_up m)
/-- It does not hang on the rows' order. -/
theorem stat_perm {rows rows2 : List (List Val)} (h : rows.Perm rows2) (t : ByteArray) (width pages : Int) : statOf t rows width pages = statOf t rows2 width pages := by
  unfold statOf
  have e : ∀ i, colS (colAt rows i) = colS (colAt rows2 i) := fun i => by
    have hp : (colAt rows i).Perm (colAt rows2 i) := h.map _
    unfold colS
    rw [others_perm hp, hp.length_eq]
  simp only [e, h.length_eq]
theorem rot_perm {α : Type} (l : List α) (k : Nat) : (l.drop k ++ l.take k).Perm l := by
  have h := List.perm_append_comm (l₁ := l.drop k) (l₂ := l.take k)
  rw [List.take_append_drop] at h
  exact h
/-! ### How the law counts -/
/-- Is a row's value at this place there, and not null? -/
def isV (r : List Val) (i : Nat) : Bool := known (r.getD i nullV)
theorem filter_len {α : Type} (p : α → Bool) : ∀ l : List α, (l.filter p).length + (l.filter (fun x => !p x)).length = l.length
  | [] => rfl
  | a :: l => by
    have ih := filter_len p l
    by_cases h : p a = true
    · rw [List.filter_cons_of_pos h, List.filter_cons_of_neg (by simp [h]), List.length_cons, List.length_cons]; omega
    · rw [List.filter_cons_of_neg h, List.filter_cons_of_pos (by simpa using h), List.length_cons, List.length_cons]; omega
theorem nulls_count (rows : List (List Val)) (i : Nat) : (colS (colAt rows i)).nulls = ((rows.filter (fun r => !isV r i)).length : Int) := by
  show ((colAt rows i).length : Int) - ((others (colAt rows i)).length : Int) = _
  rw [others_len, colAt_len]
  unfold colAt
  rw [List.filter_map, List.length_map]
  have h := filter_len (fun r => isV r i) rows
  have e2 : (known ∘ fun r : List Val => r.getD i nullV) = fun r => isV r i := rfl
  rw [e2]
  omega
theorem least_count (rows : List (List Val)) (i : Nat) : ((rows.filter (fun r => isV r i && decide (ordV (r.getD i nullV) ((colS (colAt rows i)).ends.getD 0 nullV) < 0))).length : Int) ≤ (rows.length : Int) / 8 := by
  have hu := others_up (colAt rows i)
  have hle := others_le (colAt rows i)
  rw [colAt_len] at hle
  show (((rows.filter (fun r => isV r i && decide (ordV (r.getD i nullV) ((endsV (others (colAt rows i))).getD 0 nullV) < 0))).length : Nat) : Int) ≤ _
  obtain ⟨e0, he0⟩ : ∃ e, e = (endsV (others (colAt rows i))).getD 0 nullV := ⟨_, rfl⟩
  rw [← he0]
  have h1 : (rows.filter (fun r => isV r i && decide (ordV (r.getD i nullV) e0 < 0))).length = ((others (colAt rows i)).filter (fun v => decide (ordV v e0 < 0))).length := by
    unfold others
    rw [((sort_perm ordV ((colAt rows i).filter known)).filter _).length_eq, List.filter_filter]
    unfold colAt
    rw [List.filter_map, List.length_map]
    congr 1
    refine List.filter_congr (fun r _ => ?_)
    show (isV r i && decide (ordV (r.getD i nullV) e0 < 0)) = (decide (ordV (r.getD i nullV) e0 < 0) && known (r.getD i nullV))
    unfold isV
    rw [Bool.and_comm]
  rw [h1]
  generalize others (colAt rows i) = l at hu hle he0
  rcases Nat.eq_zero_or_pos l.length with h0 | h0
  · have e : l = [] := List.eq_nil_of_length_eq_zero h0
    rw [e]
    simp
    omega
  · obtain ⟨a, ha, e, h2, _⟩ := ends_at h0 0 (by rw [endsV_len h0]; omega)
    have he : e0 = l.getD a nullV := by
      rw [he0, ← e, List.getD_eq_getElem?_getD, List.getElem?_eq_getElem (by rw [endsV_len h0]; omega), Option.getD_some]
    have hcount : (l.filter (fun v => decide (ordV v e0 < 0))).length ≤ a := by
      have hsplit : l.filter (fun v => decide (ordV v e0 < 0)) = (l.take a).filter (fun v => decide (ordV v e0 < 0)) := by
        conv => lhs; rw [← List.take_append_drop a l, List.filter_append]
        have hd : (l.drop a).filter (fun v => decide (ordV v e0 < 0)) = [] := by
          rw [List.filter_eq_nil_iff]
          intro v hv
          obtain ⟨j, hj, rfl⟩ := List.getElem_of_mem hv
          rw [List.length_drop] at hj
          rw [List.getElem_drop]
          have h3 := up_getD hu (a := a) (b := a + j) (by omega) (by omega)
          rw [← he, List.getD_eq_getElem?_getD, List.getElem?_eq_getElem (by omega), Option.getD_some] at h3
          have h4 := ordV_neg (l[a + j]'(by omega)) e0
          simp only [decide_eq_true_eq]
          omega
        rw [hd, List.append_nil]
      rw [hsplit]
      refine Nat.le_trans (List.length_filter_le _ _) ?_
      rw [List.length_take]; omega
    have := h2 (by omega)
    omega
theorem ends_last {rows : List (List Val)} {i : Nat} {r : List Val} (hr : r ∈ rows) (hk : isV r i = true) : (colS (colAt rows i)).ends.length = 8 ∧ ordV (r.getD i nullV) ((colS (colAt rows i)).ends.getD 7 nullV) ≤ 0 := by
  have hm : r.getD i nullV ∈ others (colAt rows i) := others_of (List.mem_map.2 ⟨r, hr, rfl⟩) (known_iff.1 hk)
  have h0 : 0 < (others (colAt rows i)).length := List.length_pos_of_mem hm
  have hu := others_up (colAt rows i)
  have hl8 := endsV_len h0
  refine ⟨hl8, ?_⟩
  show ordV (r.getD i nullV) ((endsV (others (colAt rows i))).getD 7 nullV) ≤ 0
  obtain ⟨a, ha, e, _, h2⟩ := ends_at h0 7 (by omega)
  rw [List.getD_eq_getElem?_getD (l := endsV _), List.getElem?_eq_getElem (by omega), Option.getD_some, e]
  obtain ⟨j, hj, e2⟩ := List.getElem_of_mem hm
  have h3 := up_getD hu (a := j) (b := a) (by have := h2 (by omega); omega) ha
  rw [List.getD_eq_getElem?_getD (i := j), List.getElem?_eq_getElem hj, Option.getD_some, e2] at h3
  exact h3
end Sp
/- Words for the memory of the statistics: values, rows, what a call that only makes blocks leaves. -/
namespace Go.Proofs.Ytmhpbmobfdgkeaa
open Go.RowKit
/-- w' is w behind some draws, with some blocks laid behind it. -/
def Grew (w w' : World) : Prop := ∃ (q : Nat) (os : Array Obj), w' = Go.Sort.grow (w.drewN q) os
theorem Grew.refl (w : World) : Grew w w := ⟨0, #[], by rw [Go.Sort.grow_empty]; rfl⟩
theorem Grew.trans {u v w : World} (h : Grew u v) (k : Grew v w) : Grew u w := by
  obtain ⟨q, os, rfl⟩ := h
  obtain ⟨q', os', rfl⟩ := k
  refine ⟨q + q', os ++ os', ?_⟩
  show Go.Sort.grow (Go.Sort.grow ((u.drewN q).drewN q') os) os' = _
  rw [Go.Sort.grow_grow, World.drewN_drewN]
theorem Grew.drew {u v : World} (h : Grew u v) : Grew u v.drew := h.trans ⟨1, #[], by rw [Go.Sort.grow_empty]; rfl⟩
theorem Grew.alloc {u v : World} (h : Grew u v) (o : Obj) : Grew u (v.alloc o) := h.trans ⟨0, #[o], by rw [Go.Sort.alloc_eq_grow]; rfl⟩
theorem Grew.below {u v : World} (h : Grew u v) : Below u.heap.size u v := by
  obtain ⟨q, os, rfl⟩ := h
  refine ⟨rfl, rfl, rfl, ?_, fun k hk => ?_⟩
  · show u.heap.size ≤ (u.heap ++ os).size; rw [Array.size_append]; omega
  · show (u.heap ++ os)[k]? = u.heap[k]?
    rw [Array.getElem?_append_left hk]
/-- A call that answers a truth. -/
def Says (p : Prop) (w : World) (e : Ending) (w' : World) : Prop := ∃ b : Bool, e = .returned (.bool b) ∧ (b = true ↔ p) ∧ Below w.heap.size w w'
theorem says_yes {p : Prop} {w w' : World} {e : Ending} (hp : p) (he : e = .returned (.bool true)) (hb : Below w.heap.size w w') : Says p w e w' := ⟨true, he, ⟨fun _ => hp, fun _ => rfl⟩, hb⟩
theorem says_no {p : Prop} {w w' : World} {e : Ending} (hp : ¬ p) (he : e = .returned (.bool false)) (hb : Below w.heap.size w w') : Says p w e w' := ⟨false, he, ⟨fun h => (by cases h), fun h => absurd h hp⟩, hb⟩
def valC (v : Sp.Val) : List Value := [.int .i64 v.kind, .int .i64 v.n, .string v.s]
abbrev valA (v : Sp.Val) : Array Value := #[.int .i64 v.kind, .int .i64 v.n, .string v.s]
theorem valC_len (v : Sp.Val) : (valC v).length = 3 := rfl
theorem valC_one (v : Sp.Val) : ∀ u ∈ valC v, u.oneCell' = true := by
  intro u hu
  simp only [valC, List.mem_cons, List.not_mem_nil, or_false] at hu
  rcases hu with rfl | rfl | rfl <;> rfl
theorem valC_all (l : List Sp.Val) : ∀ u ∈ l.flatMap valC, u.oneCell' = true := by
  intro u hu
  obtain ⟨v, _, h⟩ := List.mem_flatMap.1 hu
  exact valC_one v u h
def oftC (o : Sp.Oft) : List Value := [.int .i64 o.v.kind, .int .i64 o.v.n, .string o.v.s, .int .i64 o.n]
abbrev oftA (o : Sp.Oft) : Array Value := #[.int .i64 o.v.kind, .int .i64 o.v.n, .string o.v.s, .int .i64 o.n]
theorem oftC_len (o : Sp.Oft) : (oftC o).length = 4 := rfl
theorem oftC_one (o : Sp.Oft) : ∀ u ∈ oftC o, u.oneCell' = true := by
  intro u hu
  simp only [oftC, List.mem_cons, List.not_mem_nil, or_false] at hu
  rcases hu with rfl | rfl | rfl | rfl <;> rfl
theorem oftC_all (l : List Sp.Oft) : ∀ u ∈ l.flatMap oftC, u.oneCell' = true := by
  intro u hu
  obtain ⟨v, _, h⟩ := List.mem_flatMap.1 hu
  exact oftC_one v u h
theorem info_val : (Try.prog.info? 36).map (fun i => (i.zero, i.size, i.bytes)) = some (some (.agg (valA Sp.nullV)), 3, 32) := by kernel_rfl
theorem info_oft : (Try.prog.info? 48).map (fun i => (i.zero, i.size, i.bytes)) = some (some (.agg (oftA ⟨Sp.nullV, 0⟩)), 4, 40) := by kernel_rfl
/-- A row of values that came in, or that another call made: its place. -/
structure PRow where
  l : List Sp.Val
  A : Option Addr
  c : Nat
abbrev PRowR (w : World) (p : PRow) : Prop := Reads w p.A p.c p.l.length (p.l.flatMap valC)
def rowC (p : PRow) : List Value := [.slice p.A p.l.length p.c]
theorem rowC_len (p : PRow) : (rowC p).length = 1 := rfl
/-- A column's statistics in memory. -/
structure PCol where
  c : Sp.ColS
  E : Option Addr
  ec : Nat
  C : Option Addr
  cc : Nat
abbrev colA (p : PCol) : Array Value := #[.int .i64 p.c.nulls, .int .i64 p.c.distinct, .slice p.E p.c.ends.length p.ec, .slice p.C p.c.common.length p.cc]
def colC (p : PCol) : List Value := [.int .i64 p.c.nulls, .int .i64 p.c.distinct, .slice p.E p.c.ends.length p.ec, .slice p.C p.c.common.length p.cc]
theorem colC_len (p : PCol) : (colC p).length = 4 := rfl
theorem colC_one (p : PCol) : ∀ u ∈ colC p, u.oneCell' = true := by
  intro u hu
  simp only [colC, List.mem_cons, List.not_mem_nil, or_false] at hu
  rcases hu with rfl | rfl | rfl | rfl <;> rfl
structure PColR (w : World) (p : PCol) : Prop where
  ends : Reads w p.E p.ec p.c.ends.length (p.c.ends.flatMap valC)
  com : Reads w p.C p.cc p.c.common.length (p.c.common.flatMap oftC)
theorem PColR.below {w w' : World} {p : PCol} (h : PColR w p) (hb : Below w.heap.size w w') : PColR w' p := ⟨h.ends.below hb, h.com.below hb⟩
/-- A column's statistics that a call has made, from block n on. -/
structure PColN (n : Nat) (w : World) (p : PCol) : Prop where
  rr : PColR w p
  te : NewT n w 36 p.E
  tc : NewT n w 48 p.C
theorem PColN.below {n : Nat} {w w' : World} {p : PCol} (h : PColN n w p) (hb : Below w.heap.size w w') : PColN n w' p := ⟨h.rr.below hb, h.te.below hb, h.tc.below hb⟩
theorem PColN.mono {n m : Nat} {w : World} {p : PCol} (h : PColN n w p) (hm : m ≤ n) : PColN m w p := ⟨h.rr, h.te.mono hm, h.tc.mono hm⟩
theorem PColN.set {n : Nat} {w : World} {p : PCol} (h : PColN n w p) (b j : Nat) (v : Value) (hb : b < n) : PColN n (w.setCell ⟨b, j, none⟩ v) p :=
  ⟨⟨h.rr.ends.off b j v (fun _ ad e => by have := (h.te ad e).1; omega), h.rr.com.off b j v (fun _ ad e => by have := (h.tc ad e).1; omega)⟩, h.te.set b j v, h.tc.set b j v⟩
theorem PColN.row {n : Nat} {w : World} {p : PCol} (h : PColN n w p) (b : Nat) (cs : Array Value) (hb : b < n) : PColN n (w.setRow b cs) p :=
  ⟨⟨h.rr.ends.offRow b cs (fun _ ad e => by have := (h.te ad e).1; omega), h.rr.com.offRow b cs (fun _ ad e => by have := (h.tc ad e).1; omega)⟩, h.te.row b cs, h.tc.row b cs⟩
theorem PColN.grown {n m size B0 : Nat} {w w' : World} {p : PCol} {e : TypeId} {v : Value} {xs : List Value} (h : PColN n w p) (ho : w.ownsRow B0 e size v m xs) (h1 : e ≠ 36) (h2 : e ≠ 48) (hg : w.grownBy w' v.ownBlock) : PColN n w' p :=
  ⟨⟨h.te.reads h.rr.ends ho h1 hg, h.tc.reads h.rr.com ho h2 hg⟩, h.te.grown ho h1 hg, h.tc.grown ho h2 hg⟩
/-- A table's statistics in memory. -/
structure PStat where
  t : ByteArray
  rows : Int
  pages : Int
  cols : List PCol
  A : Option Addr
  c : Nat
def PStat.plain (p : PStat) : Sp.StatS := ⟨p.t, p.rows, p.pages, p.cols.map (·.c)⟩
abbrev statA (p : PStat) : Array Value := #[.string p.t, .int .i64 p.rows, .int .i64 p.pages, .slice p.A p.cols.length p.c]
structure PStatR (w : World) (p : PStat) : Prop where
  cols : Reads w p.A p.c p.cols.length (p.cols.flatMap colC)
  col : ∀ c ∈ p.cols, PColR w c
theorem PStatR.below {w w' : World} {p : PStat} (h : PStatR w p) (hb : Below w.heap.size w w') : PStatR w' p := ⟨h.cols.below hb, fun c hc => (h.col c hc).below hb⟩
/-- One cell of a row of the call's own is written. -/
theorem ownSetAt {w : World} {B size n c g : Nat} {e : TypeId} {xs : List Value} (h : w.ownsRow B e size (.slice (some ⟨g, 0, none⟩) n c) n xs) (j : Nat) (hj : j < n * size) :
    w.cell? ⟨g, j, none⟩ = xs[j]? ∧ w.frozen? ⟨g, j, none⟩ = false ∧ ∀ x, (w.setCell ⟨g, j, none⟩ x).ownsRow B e size (.slice (some ⟨g, 0, none⟩) n c) n (xs.set j x) := by
  obtain ⟨hl, h2⟩ := h
  rcases h2 with ⟨h0, _⟩ | ⟨g', cap, cur, hv, hg, hh, hn, hcap, hsz, htake⟩
  · cases h0
  · injection hv with hv1 hv2 hv3
    injection hv1 with hv1
    injection hv1 with hv1 _ _
    subst hv1 hv3
    have hnc : n * size ≤ c * size := Nat.mul_le_mul_right _ hn
    refine ⟨?_, blkFrozen hh j, fun x => ⟨by rw [List.length_set]; exact hl, .inr ⟨g, c, cur.setIfInBounds j x, rfl, hg, blkSet j hh x, hn, hcap, by rw [Array.size_setIfInBounds]; exact hsz, ?_⟩⟩⟩
    · rw [blkCell hh j, ← htake, List.getElem?_take, if_pos hj, Array.getElem?_toList]
    · rw [← htake]
      refine List.ext_getElem? fun i => ?_
      rw [List.getElem?_set, List.getElem?_take, List.length_take, List.getElem?_take, Array.toList_setIfInBounds, List.getElem?_set]
      have hs : cur.toList.length = cur.size := by simp
      by_cases h1 : j = i
      · subst h1
        rw [if_pos rfl, if_pos rfl, if_pos hj, if_pos (by omega), if_pos (by omega)]
      · rw [if_neg h1, if_neg h1]
theorem flat_set {α : Type} {enc : α → List Value} {k : Nat} (hk : ∀ x, (enc x).length = k) : ∀ (l : List α) (j f : Nat) (y : α) (x : Value) (hj : j < l.length), f < k → enc y = (enc l[j]).set f x → (l.flatMap enc).set (j * k + f) x = (l.set j y).flatMap enc := by
  intro l
  induction l with
  | nil => intro j f y x hj; simp at hj
  | cons a l ih =>
    intro j f y x hj hf he
    cases j with
    | zero =>
      simp only [List.getElem_cons_zero] at he
      rw [List.flatMap_cons, List.set_cons_zero, List.flatMap_cons, he, Nat.zero_mul, Nat.zero_add, List.set_append_left _ _ (by rw [hk]; exact hf)]
    | succ j =>
      simp only [List.getElem_cons_succ] at he
      rw [List.flatMap_cons, List.set_cons_succ, List.flatMap_cons, List.set_append_right _ _ (by rw [hk, Nat.succ_mul]; omega)]
      congr 1
      rw [show (j + 1) * k + f - (enc a).length = j * k + f by rw [hk, Nat.succ_mul]; omega]
      exact ih j f y x (by simpa using hj) hf he
theorem setCells_blk {g : Nat} {T : TypeId} {fr : Nat × Nat} : ∀ (vs : List Value) (o : Nat) (cs : Array Value) (w : World), w.heap[g]? = some (.cells cs T fr) → ∃ cs' : Array Value, (w.setCells g o vs).heap[g]? = some (.cells cs' T fr) ∧ cs'.size = cs.size ∧ ∀ j, cs'[j]? = if o ≤ j ∧ j < o + vs.length ∧ j < cs.size then vs[j - o]? else cs[j]? := by
  intro vs
  induction vs with
  | nil => intro o cs w h; exact ⟨cs, h, rfl, fun j => by rw [if_neg (by simp; omega)]⟩
  | cons v vs ih =>
    intro o cs w h
    obtain ⟨cs', h1, h2, h3⟩ := ih (o + 1) _ _ (blkSet o h v)
    refine ⟨cs', h1, by rw [h2, Array.size_setIfInBounds], fun j => ?_⟩
    rw [h3, Array.size_setIfInBounds, Array.getElem?_setIfInBounds]
    by_cases hj : j = o
    · subst hj
      rw [if_neg (by omega), if_pos rfl]
      by_cases hb : j < cs.size
      · rw [if_pos hb, if_pos ⟨Nat.le_refl _, by simp, hb⟩, Nat.sub_self]; rfl
      · rw [if_neg hb, if_neg (by omega), Array.getElem?_eq_none (by omega)]
    · by_cases hc : o + 1 ≤ j ∧ j < o + 1 + vs.length ∧ j < cs.size
      · rw [if_pos hc, if_pos (by simp; omega)]
        obtain ⟨m, rfl⟩ : ∃ m, j = o + 1 + m := ⟨j - (o + 1), by omega⟩
        rw [show o + 1 + m - (o + 1) = m by omega, show o + 1 + m - o = m + 1 by omega, List.getElem?_cons_succ]
      · rw [if_neg hc, if_neg (fun e => hj e.symm), if_neg (by simp; omega)]
theorem setCells_below {B g : Nat} (hg : B ≤ g) : ∀ (vs : List Value) (o : Nat) (w : World), Below B w (w.setCells g o vs) := by
  intro vs
  induction vs with
  | nil => intro o w; exact Below.refl _ _
  | cons v vs ih =>
    intro o w
    exact ((Below.refl B w).setCell (p := ⟨g, o, none⟩) hg v).trans (ih (o + 1) _)
end Go.Proofs.Ytmhpbmobfdgkeaa
/- The walks over the orders of values. -/
namespace Sp
/-- The first number that is not 0. -/
def orL : List Int → Int
  | [] => 0
  | a :: l => orI a (orL l)
theorem orL_go {l : List Int} {k : Nat} (hk : k < l.length) (h : l[k] = 0) : orL (l.drop k) = orL (l.drop (k + 1)) := by
  rw [List.drop_eq_getElem_cons hk]; show orI _ _ = _; unfold orI; rw [if_pos h]
theorem orL_stop {l : List Int} {k : Nat} (hk : k < l.length) (h : l[k] ≠ 0) : orL (l.drop k) = l[k] := by
  rw [List.drop_eq_getElem_cons hk]; show orI _ _ = _; unfold orI; rw [if_neg h]
theorem orL3 (a b c : Int) : orL [a, b, c] = orI a (orI b c) := by
  show orI a (orI b (orI c 0)) = _
  have : orI c 0 = c := by unfold orI; by_cases h : c = 0 <;> simp [h]
  rw [this]
theorem orL2 (a b : Int) : orL [a, b] = orI a b := by
  show orI a (orI b 0) = _
  have : orI b 0 = b := by unfold orI; by_cases h : b = 0 <;> simp [h]
  rw [this]
end Sp
namespace Go.Proofs.Ytmhpbmobfdgkeaa
open Go.RowKit
theorem or_any (l : List Int) (hl : l.length ≤ 100) (A : Option Addr) (c : Nat) (w : World) (hr : Reads w A c l.length (l.map (Value.int .i64))) :
    Calls Try.prog 27 #[.slice A l.length c] w fun e w' => e = .returned (.int .i64 (Sp.orL l)) ∧ w = w' := by
  have HR := Lib.hid hr
  obtain ⟨r, hr0⟩ : ∃ r, r = Sp.orL l := ⟨_, rfl⟩
  have HQ := Lib.hid (show r = Sp.orL (l.drop 0) from hr0)
  rw [← hr0]
  clear hr hr0
  go_enter Try.func27, Try.ntmps27
  go_wp2_with fail
  go_loop [8] (fun i => ∃ k : Nat, k ≤ l.length ∧ i = .int .i64 k ∧ r = Sp.orL (l.drop k)) (fun i => l.length - (intOf i).toNat)
  case atStart => exact ⟨0, Nat.zero_le _, rfl, HQ.out⟩
  case round =>
    obtain ⟨k, hk, rfl, hq⟩ := hrel
    have HK := Lib.hid hq
    clear hq HQ
    by_cases hlt : k < l.length
    · obtain ⟨b', off, rfl, hc, hbl, hcell⟩ := HR.out.at_ (by omega)
      have hck := hcell k (.int .i64 l[k]) (by rw [List.getElem?_map, List.getElem?_eq_getElem hlt]; rfl)
      clear hcell
      have HG := Lib.hid (fun h => HK.out.trans (Sp.orL_go hlt h))
      have HS := Lib.hid (fun h => HK.out.trans (Sp.orL_stop hlt h))
      generalize l[k] = x at hck HG HS
      by_cases hx : x = 0
      · have HG2 := Lib.hid (HG.out hx)
        subst hx
        clear HG HS
        go_wp2_with fail
        go_round
        case rel => exact ⟨k + 1, by omega, by go_num, HG2.out⟩
        case measure => simp [intOf]; omega
      · have HS2 := Lib.hid (HS.out hx)
        have hx2 : (x != 0) = true := by simpa using hx
        have hx1 : (x == 0) = false := by simpa using hx
        clear HG HS hx
        go_wp2_with fail
        go_ret
        exact ⟨by rw [HS2.out]; rfl, rfl⟩
    · have HE := Lib.hid (HK.out.trans (by rw [List.drop_of_length_le (by omega)]; rfl : _ = (0 : Int)))
      go_wp2_with fail
      go_ret
      exact ⟨by rw [HE.out]; rfl, rfl⟩
set_option maxRecDepth 100000 in
set_option maxHeartbeats 4000000 in
theorem order_any (a b : Sp.Val) (w : World) :
    Calls Try.prog 13 #[.agg (valA a), .agg (valA b)] w fun e w' => e = .returned (.int .i64 (Sp.ordV a b)) ∧ Grew w w' := by
  obtain ⟨ak, an, sa⟩ := a
  obtain ⟨bk, bn, sb⟩ := b
  have HC := Lib.hid (fun x y W => (Try.cmp_Compare_int x y W).mono fun _ _ ⟨h1, h2⟩ => And.intro h1 h2.symm)
  have HS := Lib.hid (fun W => (Try.strings_Compare sa sb W).mono fun _ _ ⟨h1, h2⟩ => And.intro h1 h2.symm)
  have hdef : Sp.ordV ⟨ak, an, sa⟩ ⟨bk, bn, sb⟩ = Sp.orL [Lib.compareInt ak bk, Lib.compareInt an bn, Lib.compareBytes sa.data.toList sb.data.toList] := (Sp.orL3 _ _ _).symm
  rw [hdef]
  have HC1 := Lib.hid (fun W => HC.out ak bk W)
  have HC2 := Lib.hid (fun W => HC.out an bn W)
  clear HC hdef
  generalize Lib.compareInt ak bk = c1 at HC1 ⊢
  generalize Lib.compareInt an bn = c2 at HC2 ⊢
  generalize Lib.compareBytes sa.data.toList sb.data.toList = c3 at HS ⊢
  have HO := Lib.hid (fun A W (hr : Reads W A 3 3 (([c1, c2, c3] : List Int).map (Value.int .i64))) => or_any [c1, c2, c3] (by simp) A 3 W hr)
  generalize Sp.orL [c1, c2, c3] = r at HO ⊢
  dsimp only [valA]
  have G0 := Lib.hid (((Grew.refl w).alloc (.cells #[.int .i64 ak, .int .i64 an, .string sa] 36)).alloc (.cells #[.int .i64 bk, .int .i64 bn, .string sb] 36))
  go_enter Try.func13, Try.ntmps13
  go_upto_region 1 with fail
  have H0 := Lib.hid (show BxL w.heap.size w [(#[.int .i64 ak, .int .i64 an, .string sa], 36), (#[.int .i64 bk, .int .i64 bn, .string sb], 36)] ((w.alloc (.cells #[.int .i64 ak, .int .i64 an, .string sa] 36)).alloc (.cells #[.int .i64 bk, .int .i64 bn, .string sb] 36)) from (((BxL.nil (Below.refl w.heap.size w)).new (by simp) #[.int .i64 ak, .int .i64 an, .string sa] 36).new (by simp) #[.int .i64 bk, .int .i64 bn, .string sb] 36))
  obtain ⟨W0, hW0⟩ : ∃ W, W = ((w.alloc (.cells #[.int .i64 ak, .int .i64 an, .string sa] 36)).alloc (.cells #[.int .i64 bk, .int .i64 bn, .string sb] 36)) := ⟨_, rfl⟩
  rw [← hW0] at H0 G0 ⊢
  clear hW0
  have hSn : Grew W0 W0.drew := (Grew.refl W0).drew
  refine wp_region_held_drew (S := (fun u => Grew W0 u)) (by kernel_rfl) ?_ (fun hHeld => ?_)
  · exact hSn
  generalize W0.drew = w9 at hSn ⊢
  refine tkW 0 (some 5) (v := ?_) rfl ?_ ?_
  rotate_left
  · intro u hSu; have hSa := blkCell (H0.out.step hSu.below).get0; have hSb := blkCell (H0.out.step hSu.below).get1; clear hSu; go_simp; (try with_reducible rfl)
  try simp only [Act.put, List.setIfInBounds_toArray, List.set_cons_zero, List.set_cons_succ]
  refine tkW 1 (some 6) (v := ?_) rfl ?_ ?_
  rotate_left
  · intro u hSu; have hSa := blkCell (H0.out.step hSu.below).get0; have hSb := blkCell (H0.out.step hSu.below).get1; clear hSu; go_simp; (try with_reducible rfl)
  try simp only [Act.put, List.setIfInBounds_toArray, List.set_cons_zero, List.set_cons_succ]
  refine tkW 2 (some 7) (v := ?_) rfl ?_ ?_
  rotate_left
  · intro u hSu; have hSa := blkCell (H0.out.step hSu.below).get0; have hSb := blkCell (H0.out.step hSu.below).get1; clear hSu; go_simp; (try with_reducible rfl)
  try simp only [Act.put, List.setIfInBounds_toArray, List.set_cons_zero, List.set_cons_succ]
  refine tkW 3 (some 8) (v := ?_) rfl ?_ ?_
  rotate_left
  · intro u hSu; have hSa := blkCell (H0.out.step hSu.below).get0; have hSb := blkCell (H0.out.step hSu.below).get1; clear hSu; go_simp; (try with_reducible rfl)
  try simp only [Act.put, List.setIfInBounds_toArray, List.set_cons_zero, List.set_cons_succ]
  refine tkW 5 (some 10) (v := ?_) rfl ?_ ?_
  rotate_left
  · intro u hSu; have hSa := blkCell (H0.out.step hSu.below).get0; have hSb := blkCell (H0.out.step hSu.below).get1; clear hSu; go_simp; (try with_reducible rfl)
  try simp only [Act.put, List.setIfInBounds_toArray, List.set_cons_zero, List.set_cons_succ]
  refine tkW 6 (some 11) (v := ?_) rfl ?_ ?_
  rotate_left
  · intro u hSu; have hSa := blkCell (H0.out.step hSu.below).get0; have hSb := blkCell (H0.out.step hSu.below).get1; clear hSu; go_simp; (try with_reducible rfl)
  try simp only [Act.put, List.setIfInBounds_toArray, List.set_cons_zero, List.set_cons_succ]
  refine tkW 7 (some 12) (v := ?_) rfl ?_ ?_
  rotate_left
  · intro u hSu; have hSa := blkCell (H0.out.step hSu.below).get0; have hSb := blkCell (H0.out.step hSu.below).get1; clear hSu; go_simp; (try with_reducible rfl)
  try simp only [Act.put, List.setIfInBounds_toArray, List.set_cons_zero, List.set_cons_succ]
  refine tkW 8 (some 13) (v := ?_) rfl ?_ ?_
  rotate_left
  · intro u hSu; have hSa := blkCell (H0.out.step hSu.below).get0; have hSb := blkCell (H0.out.step hSu.below).get1; clear hSu; go_simp; (try with_reducible rfl)
  try simp only [Act.put, List.setIfInBounds_toArray, List.set_cons_zero, List.set_cons_succ]
  refine tkW 10 (some 15) (v := ?_) rfl ?_ ?_
  rotate_left
  · intro u hSu; have hSa := blkCell (H0.out.step hSu.below).get0; have hSb := blkCell (H0.out.step hSu.below).get1; clear hSu; go_simp; (try with_reducible rfl)
  try simp only [Act.put, List.setIfInBounds_toArray, List.set_cons_zero, List.set_cons_succ]
  refine tkW 11 (some 16) (v := ?_) rfl ?_ ?_
  rotate_left
  · intro u hSu; have hSa := blkCell (H0.out.step hSu.below).get0; have hSb := blkCell (H0.out.step hSu.below).get1; clear hSu; go_simp; (try with_reducible rfl)
  try simp only [Act.put, List.setIfInBounds_toArray, List.set_cons_zero, List.set_cons_succ]
  refine tkW 12 (some 17) (v := ?_) rfl ?_ ?_
  rotate_left
  · intro u hSu; have hSa := blkCell (H0.out.step hSu.below).get0; have hSb := blkCell (H0.out.step hSu.below).get1; clear hSu; go_simp; (try with_reducible rfl)
  try simp only [Act.put, List.setIfInBounds_toArray, List.set_cons_zero, List.set_cons_succ]
  refine tkW 13 (some 18) (v := ?_) rfl ?_ ?_
  rotate_left
  · intro u hSu; have hSa := blkCell (H0.out.step hSu.below).get0; have hSb := blkCell (H0.out.step hSu.below).get1; clear hSu; go_simp; (try with_reducible rfl)
  try simp only [Act.put, List.setIfInBounds_toArray, List.set_cons_zero, List.set_cons_succ]
  refine rdH 4 (some 9) rfl (fun K hK => ?_)
  go_simp
  refine (HC1.out _).mono ?_; rintro e w8 ⟨rfl, rfl⟩
  refine hK.out _ _ ?_ (fun hHeld => ?_)
  · exact hSn
  clear hK K
  try simp only [Act.put, List.setIfInBounds_toArray, List.set_cons_zero, List.set_cons_succ]
  refine rdH 9 (some 14) rfl (fun K hK => ?_)
  go_simp
  refine (HC2.out _).mono ?_; rintro e w8 ⟨rfl, rfl⟩
  refine hK.out _ _ ?_ (fun hHeld => ?_)
  · exact hSn
  clear hK K
  try simp only [Act.put, List.setIfInBounds_toArray, List.set_cons_zero, List.set_cons_succ]
  refine rdH 14 (some 19) rfl (fun K hK => ?_)
  go_simp
  refine (HS.out _).mono ?_; rintro e w8 ⟨rfl, rfl⟩
  refine hK.out _ _ ?_ (fun hHeld => ?_)
  · exact hSn
  clear hK K
  try simp only [Act.put, List.setIfInBounds_toArray, List.set_cons_zero, List.set_cons_succ]
  refine rdH 15 (some 20) rfl (fun K hK => ?_)
  go_simp
  have HRD := Lib.hid (show Reads (w9.alloc (.cells #[.int .i64 c1, .int .i64 c2, .int .i64 c3] 3)) (some ⟨w9.heap.size, 0, none⟩) 3 3 (([c1, c2, c3] : List Int).map (Value.int .i64)) from reads_blk (heap_alloc_new w9 _) (Nat.le_refl _)); have hSm := hSn.alloc (.cells #[.int .i64 c1, .int .i64 c2, .int .i64 c3] 3); clear hSn; have hSn := hSm; clear hSm
  refine hK.out _ _ ?_ (fun hHeld => ?_)
  · exact hSn
  clear hK K
  try simp only [Act.put, List.setIfInBounds_toArray, List.set_cons_zero, List.set_cons_succ]
  refine rdH 16 (some 21) rfl (fun K hK => ?_)
  go_simp
  refine (HO.out _ _ HRD.out).mono ?_; rintro e w8 ⟨rfl, rfl⟩
  refine hK.out _ _ ?_ (fun hHeld => ?_)
  · exact hSn
  clear hK K
  try simp only [Act.put, List.setIfInBounds_toArray, List.set_cons_zero, List.set_cons_succ]
  refine tkW 17 (some 4) (v := ?_) rfl ?_ ?_
  rotate_left
  · intro u hSu; have hSa := blkCell (H0.out.step hSu.below).get0; have hSb := blkCell (H0.out.step hSu.below).get1; clear hSu; go_simp; (try with_reducible rfl)
  try simp only [Act.put, List.setIfInBounds_toArray, List.set_cons_zero, List.set_cons_succ]
  refine wpAnyH_done (by kernel_rfl) ?_ _
  clear hHeld
  go_wp2_with fail
  go_ret
  exact ⟨rfl, G0.out.trans hSn⟩
set_option maxRecDepth 100000 in
set_option maxHeartbeats 4000000 in
theorem ahead_any (a b : Sp.Oft) (w : World) :
    Calls Try.prog 43 #[.agg (oftA a), .agg (oftA b)] w fun e w' => e = .returned (.int .i64 (Sp.ordO a b)) ∧ Grew w w' := by
  obtain ⟨⟨ak, an, sa⟩, ac⟩ := a
  obtain ⟨⟨bk, bn, sb⟩, bc⟩ := b
  have HC := Lib.hid (fun W => (Try.cmp_Compare_int bc ac W).mono fun _ _ ⟨h1, h2⟩ => And.intro h1 h2.symm)
  have HS := Lib.hid (fun W => order_any ⟨ak, an, sa⟩ ⟨bk, bn, sb⟩ W)
  have hdef : Sp.ordO ⟨⟨ak, an, sa⟩, ac⟩ ⟨⟨bk, bn, sb⟩, bc⟩ = Sp.orL [Lib.compareInt bc ac, Sp.ordV ⟨ak, an, sa⟩ ⟨bk, bn, sb⟩] := (Sp.orL2 _ _).symm
  rw [hdef]
  clear hdef
  generalize Lib.compareInt bc ac = c1 at HC ⊢
  generalize Sp.ordV ⟨ak, an, sa⟩ ⟨bk, bn, sb⟩ = c2 at HS ⊢
  have HO := Lib.hid (fun A W (hr : Reads W A 2 2 (([c1, c2] : List Int).map (Value.int .i64))) => or_any [c1, c2] (by simp) A 2 W hr)
  generalize Sp.orL [c1, c2] = r at HO ⊢
  dsimp only [oftA, valA] at HS ⊢
  have G0 := Lib.hid (((Grew.refl w).alloc (.cells #[.int .i64 ak, .int .i64 an, .string sa, .int .i64 ac] 48)).alloc (.cells #[.int .i64 bk, .int .i64 bn, .string sb, .int .i64 bc] 48))
  go_enter Try.func43, Try.ntmps43
  go_upto_region 1 with fail
  have H0 := Lib.hid (show BxL w.heap.size w [(#[.int .i64 ak, .int .i64 an, .string sa, .int .i64 ac], 48), (#[.int .i64 bk, .int .i64 bn, .string sb, .int .i64 bc], 48)] ((w.alloc (.cells #[.int .i64 ak, .int .i64 an, .string sa, .int .i64 ac] 48)).alloc (.cells #[.int .i64 bk, .int .i64 bn, .string sb, .int .i64 bc] 48)) from (((BxL.nil (Below.refl w.heap.size w)).new (by simp) #[.int .i64 ak, .int .i64 an, .string sa, .int .i64 ac] 48).new (by simp) #[.int .i64 bk, .int .i64 bn, .string sb, .int .i64 bc] 48))
  obtain ⟨W0, hW0⟩ : ∃ W, W = ((w.alloc (.cells #[.int .i64 ak, .int .i64 an, .string sa, .int .i64 ac] 48)).alloc (.cells #[.int .i64 bk, .int .i64 bn, .string sb, .int .i64 bc] 48)) := ⟨_, rfl⟩
  rw [← hW0] at H0 G0 ⊢
  clear hW0
  have hSn : Grew W0 W0.drew := (Grew.refl W0).drew
  refine wp_region_held_drew (S := (fun u => Grew W0 u)) (by kernel_rfl) ?_ (fun hHeld => ?_)
  · exact hSn
  generalize W0.drew = w9 at hSn ⊢
  refine tkW 0 (some 5) (v := ?_) rfl ?_ ?_
  rotate_left
  · intro u hSu; have hSa := blkCell (H0.out.step hSu.below).get0; have hSb := blkCell (H0.out.step hSu.below).get1; clear hSu; go_simp; (try with_reducible rfl)
  try simp only [Act.put, List.setIfInBounds_toArray, List.set_cons_zero, List.set_cons_succ]
  refine tkW 1 (some 6) (v := ?_) rfl ?_ ?_
  rotate_left
  · intro u hSu; have hSa := blkCell (H0.out.step hSu.below).get0; have hSb := blkCell (H0.out.step hSu.below).get1; clear hSu; go_simp; (try with_reducible rfl)
  try simp only [Act.put, List.setIfInBounds_toArray, List.set_cons_zero, List.set_cons_succ]
  refine tkW 2 (some 7) (v := ?_) rfl ?_ ?_
  rotate_left
  · intro u hSu; have hSa := blkCell (H0.out.step hSu.below).get0; have hSb := blkCell (H0.out.step hSu.below).get1; clear hSu; go_simp; (try with_reducible rfl)
  try simp only [Act.put, List.setIfInBounds_toArray, List.set_cons_zero, List.set_cons_succ]
  refine tkW 3 (some 8) (v := ?_) rfl ?_ ?_
  rotate_left
  · intro u hSu; have hSa := blkCell (H0.out.step hSu.below).get0; have hSb := blkCell (H0.out.step hSu.below).get1; clear hSu; go_simp; (try with_reducible rfl)
  try simp only [Act.put, List.setIfInBounds_toArray, List.set_cons_zero, List.set_cons_succ]
  refine tkW 5 (some 10) (v := ?_) rfl ?_ ?_
  rotate_left
  · intro u hSu; have hSa := blkCell (H0.out.step hSu.below).get0; have hSb := blkCell (H0.out.step hSu.below).get1; clear hSu; go_simp; (try with_reducible rfl)
  try simp only [Act.put, List.setIfInBounds_toArray, List.set_cons_zero, List.set_cons_succ]
  refine tkV 6 (some 11) (v := .agg #[.int .i64 ak, .int .i64 an, .string sa]) rfl (yieldsIf_load_mid (by rfl) 36 (.tmp 10) rfl w.heap.size 0 (by rfl) [.int .i64 ak, .int .i64 an, .string sa] _ (fun u hu j v hj => by rw [blkCell (H0.out.step hu.below).get0]; rcases j with _ | _ | _ | j <;> simp at hj ⊢ <;> exact hj) Try.underlying36 (by kernel_rfl) (by kernel_rfl)) ?_
  try simp only [Act.put, List.setIfInBounds_toArray, List.set_cons_zero, List.set_cons_succ]
  refine tkW 7 (some 12) (v := ?_) rfl ?_ ?_
  rotate_left
  · intro u hSu; have hSa := blkCell (H0.out.step hSu.below).get0; have hSb := blkCell (H0.out.step hSu.below).get1; clear hSu; go_simp; (try with_reducible rfl)
  try simp only [Act.put, List.setIfInBounds_toArray, List.set_cons_zero, List.set_cons_succ]
  refine tkV 8 (some 13) (v := .agg #[.int .i64 bk, .int .i64 bn, .string sb]) rfl (yieldsIf_load_mid (by rfl) 36 (.tmp 12) rfl (w.heap.size + 1) 0 (by rfl) [.int .i64 bk, .int .i64 bn, .string sb] _ (fun u hu j v hj => by rw [blkCell (H0.out.step hu.below).get1]; rcases j with _ | _ | _ | j <;> simp at hj ⊢ <;> exact hj) Try.underlying36 (by kernel_rfl) (by kernel_rfl)) ?_
  try simp only [Act.put, List.setIfInBounds_toArray, List.set_cons_zero, List.set_cons_succ]
  refine rdH 4 (some 9) rfl (fun K hK => ?_)
  go_simp
  refine (HC.out _).mono ?_; rintro e w8 ⟨rfl, rfl⟩
  refine hK.out _ _ ?_ (fun hHeld => ?_)
  · exact hSn
  clear hK K
  try simp only [Act.put, List.setIfInBounds_toArray, List.set_cons_zero, List.set_cons_succ]
  refine rdH 9 (some 14) rfl (fun K hK => ?_)
  go_simp
  refine (HS.out _).mono ?_; rintro e w8 ⟨rfl, hg8⟩
  have hSm := hSn.trans hg8; clear hSn hg8; have hSn := hSm; clear hSm
  refine hK.out _ _ ?_ (fun hHeld => ?_)
  · exact hSn
  clear hK K
  try simp only [Act.put, List.setIfInBounds_toArray, List.set_cons_zero, List.set_cons_succ]
  refine rdH 10 (some 15) rfl (fun K hK => ?_)
  go_simp
  obtain ⟨w9, rfl⟩ : ∃ W : World, W = w8 := ⟨_, rfl⟩
  have HRD := Lib.hid (show Reads (w9.alloc (.cells #[.int .i64 c1, .int .i64 c2] 3)) (some ⟨w9.heap.size, 0, none⟩) 2 2 (([c1, c2] : List Int).map (Value.int .i64)) from reads_blk (heap_alloc_new w9 _) (Nat.le_refl _)); have hSm := hSn.alloc (.cells #[.int .i64 c1, .int .i64 c2] 3); clear hSn; have hSn := hSm; clear hSm
  refine hK.out _ _ ?_ (fun hHeld => ?_)
  · exact hSn
  clear hK K
  try simp only [Act.put, List.setIfInBounds_toArray, List.set_cons_zero, List.set_cons_succ]
  refine rdH 11 (some 16) rfl (fun K hK => ?_)
  go_simp
  refine (HO.out _ _ HRD.out).mono ?_; rintro e w7 ⟨rfl, rfl⟩
  refine hK.out _ _ ?_ (fun hHeld => ?_)
  · exact hSn
  clear hK K
  try simp only [Act.put, List.setIfInBounds_toArray, List.set_cons_zero, List.set_cons_succ]
  refine tkW 12 (some 4) (v := ?_) rfl ?_ ?_
  rotate_left
  · intro u hSu; have hSa := blkCell (H0.out.step hSu.below).get0; have hSb := blkCell (H0.out.step hSu.below).get1; clear hSu; go_simp; (try with_reducible rfl)
  try simp only [Act.put, List.setIfInBounds_toArray, List.set_cons_zero, List.set_cons_succ]
  refine wpAnyH_done (by kernel_rfl) ?_ _
  clear hHeld
  go_wp2_with fail
  go_ret
  exact ⟨rfl, G0.out.trans hSn⟩
set_option maxRecDepth 100000 in
set_option maxHeartbeats 4000000 in
theorem known_any (a : Sp.Val) (w : World) : Calls Try.prog 36 #[.agg (valA a)] w fun e w' => e = .returned (.bool (Sp.known a)) ∧ Grew w w' := by
  obtain ⟨ak, an, sa⟩ := a
  have HO := Lib.hid (fun W => order_any ⟨ak, an, sa⟩ Sp.nullV W)
  have hk : (Sp.ordV ⟨ak, an, sa⟩ Sp.nullV != 0) = Sp.known ⟨ak, an, sa⟩ := by unfold Sp.known; by_cases h : Sp.ordV ⟨ak, an, sa⟩ Sp.nullV = 0 <;> simp [h]
  have hk2 : (Sp.ordV ⟨ak, an, sa⟩ Sp.nullV == 0) = !Sp.known ⟨ak, an, sa⟩ := by unfold Sp.known; by_cases h : Sp.ordV ⟨ak, an, sa⟩ Sp.nullV = 0 <;> simp [h]
  generalize Sp.known ⟨ak, an, sa⟩ = b at hk hk2 ⊢
  generalize Sp.ordV ⟨ak, an, sa⟩ Sp.nullV = c at hk hk2 HO
  have G0 := Lib.hid ((Grew.refl w).alloc (.cells #[.int .i64 ak, .int .i64 an, .string sa] 36))
  dsimp only [valA, Sp.nullV] at HO ⊢
  go_enter Try.func36, Try.ntmps36
  go_upto_region 1 with fail
  have H0 := Lib.hid (show BxL w.heap.size w [(#[.int .i64 ak, .int .i64 an, .string sa], 36)] (w.alloc (.cells #[.int .i64 ak, .int .i64 an, .string sa] 36)) from ((BxL.nil (Below.refl w.heap.size w)).new (by simp) #[.int .i64 ak, .int .i64 an, .string sa] 36))
  obtain ⟨W0, hW0⟩ : ∃ W, W = (w.alloc (.cells #[.int .i64 ak, .int .i64 an, .string sa] 36)) := ⟨_, rfl⟩
  rw [← hW0] at H0 G0 ⊢
  clear hW0
  go_wp2_with (first | (with_reducible refine listLoad (by kernel_rfl) 36 (.tmp 1) rfl w.heap.size rfl #[.int .i64 ak, .int .i64 an, .string sa] _ H0.out.get0 _ Try.underlying36 (by kernel_rfl) (by kernel_rfl) ?_) | (go_at_call 13; (with_reducible refine (HO.out _).mono ?_); rintro e w8 ⟨rfl, hg8⟩))
  go_ret
  exact ⟨by simp [*], G0.out.trans hg8⟩
end Go.Proofs.Ytmhpbmobfdgkeaa
/- The walks over what values may be. -/
namespace Sp
def oddB (r : Nat) : Bool := decide (r < 32) || decide (126 < r)
def okByte (s : ByteArray) (i : Nat) : Prop := 32 ≤ (s.data.toList.getD i 0).toNat ∧ (s.data.toList.getD i 0).toNat ≤ 126
theorem plain_iff {s : ByteArray} : plainB s = true ↔ ∀ i, i < s.size → okByte s i := by
  have hl : s.data.toList.length = s.size := by simp
  unfold plainB okByte
  rw [List.all_eq_true]
  constructor
  · intro h i hi
    have h1 := h (s.data.toList.getD i 0) (by rw [List.getD_eq_getElem?_getD, List.getElem?_eq_getElem (by omega), Option.getD_some]; exact List.getElem_mem _)
    simpa using h1
  · intro h c hc
    obtain ⟨i, hi, rfl⟩ := List.getElem_of_mem hc
    have h1 := h i (by omega)
    rw [List.getD_eq_getElem?_getD, List.getElem?_eq_getElem hi, Option.getD_some] at h1
    simpa using h1
theorem idx_plain (s : ByteArray) : ∀ (f pos : Nat), s.size ≤ pos + f → (Go.Lib.idxFuncFrom oddB true s f pos < 0 ↔ ∀ i, pos ≤ i → i < s.size → okByte s i) := by
  intro f
  induction f with
  | zero =>
    intro pos h
    constructor
    · intro _ i h1 h2; omega
    · intro _; show (-1 : Int) < 0; decide
  | succ f ih =>
    intro pos h
    unfold Go.Lib.idxFuncFrom
    by_cases hp : pos < s.size
    · rw [if_pos hp]
      have hg : s.data.toList.getD pos 0 = s[pos] := by
        rw [List.getD_eq_getElem?_getD, List.getElem?_eq_getElem (by simpa using hp), Option.getD_some]; rfl
      by_cases ha : s[pos].toNat < 128
      · rw [Go.decode_ascii s pos hp ha]
        simp only
        cases ho : oddB s[pos].toNat with
        | true =>
          rw [if_pos rfl]
          constructor
          · intro h1; omega
          · intro h1
            have := h1 pos (Nat.le_refl _) hp
            unfold okByte at this
            rw [hg] at this
            unfold oddB at ho
            simp only [Bool.or_eq_true, decide_eq_true_eq] at ho
            omega
        | false =>
          rw [if_neg (by decide), ih (pos + 1) (by omega)]
          constructor
          · intro h1 i h2 h3
            rcases Nat.lt_or_eq_of_le h2 with h4 | h4
            · exact h1 i h4 h3
            · subst h4
              unfold okByte
              rw [hg]
              unfold oddB at ho
              simp only [Bool.or_eq_false_iff, decide_eq_false_iff_not] at ho
              omega
          · intro h1 i h2 h3; exact h1 i (by omega) h3
      · have hh := (Go.decode_high s pos hp (by omega)).1
        have ho : oddB (Go.Utf8.decode s pos).1 = true := by unfold oddB; simp only [Bool.or_eq_true, decide_eq_true_eq]; omega
        rw [ho, if_pos rfl]
        constructor
        · intro h1; omega
        · intro h1
          have := h1 pos (Nat.le_refl _) hp
          unfold okByte at this
          rw [hg] at this
          omega
    · rw [if_neg hp]
      constructor
      · intro _ i h1 h2; omega
      · intro _; decide
theorem idx_all (s : ByteArray) : Go.Lib.idxFunc oddB true s < 0 ↔ plainB s = true := by
  unfold Go.Lib.idxFunc
  rw [idx_plain s s.size 0 (by omega), plain_iff]
  exact ⟨fun h i hi => h i (Nat.zero_le _) hi, fun h i _ hi => h i hi⟩
theorem and_even64 (x : Nat) (hx : x < 18446744073709551616) : x &&& 18446744073709551614 = 0 ↔ x = 0 ∨ x = 1 := by
  have h1 : (x &&& 18446744073709551614) / 2 = x / 2 := by
    rw [Nat.and_div_two, show 18446744073709551614 / 2 = 2 ^ 63 - 1 by decide, Nat.and_two_pow_sub_one_eq_mod, Nat.mod_eq_of_lt (by omega)]
  constructor
  · intro h; rw [h] at h1; omega
  · rintro (rfl | rfl) <;> decide
theorem andNot_one (n : Int) (h0 : -9223372036854775808 ≤ n) (h1 : n ≤ 9223372036854775807) : (Go.bits .andNot .i64 n 1 == 0) = decide (n = 0 ∨ n = 1) := by
  show (Go.IntKind.i64.wrap ((BitVec.ofInt 64 n &&& ~~~BitVec.ofInt 64 1).toNat : Int) == 0) = _
  have e1 : (BitVec.ofInt 64 1).toNat = 1 := by decide
  have e2 : (BitVec.ofInt 64 n).toNat = (n % 18446744073709551616).toNat := by rw [BitVec.toNat_ofInt]; rfl
  rw [BitVec.toNat_and, BitVec.toNat_not, e1, e2, show 2 ^ 64 - 1 - 1 = 18446744073709551614 by decide]
  have hx := and_even64 (n % 18446744073709551616).toNat (by omega)
  have hlt : (n % 18446744073709551616).toNat &&& 18446744073709551614 ≤ 18446744073709551614 := Nat.and_le_right
  generalize (n % 18446744073709551616).toNat &&& 18446744073709551614 = y at hx hlt
  have hw : Go.IntKind.i64.wrap (y : Int) = 0 ↔ y = 0 := by
    simp only [Go.IntKind.wrap, Go.IntKind.bits, Go.IntKind.signed]
    simp
    omega
  rw [Bool.eq_iff_iff]
  simp only [beq_iff_eq, decide_eq_true_eq]
  rw [hw, hx]
  omega
end Sp
namespace Go.Proofs.Ytmhpbmobfdgkeaa
open Go.RowKit
/-- A part of a block is read. -/
theorem listPart {P : Program} {ops : Array Oper} {rest : List Oper} {op : Oper} {a : Act} {w : World} {Q : Exit → Act → World → Prop} (hw : Region.wanted op (yielded ops a.tmps) = true) (ty : TypeId) (x : Operand) (ho : op.op = .load ty x)
    (b o : Nat) (hx : a.eval x = .pointer (some ⟨b, o, none⟩)) (part cells : Array Value) (t : TypeId) (hg : w.heap[b]? = some (.cells cells t (0, 0))) (hp : (cells.toList.drop o).take part.size = part.toList) (d : TypeDesc)
    (hu : P.underlying ty = some d) (hd : d.isRow = true) (hi : (P.info? ty).map (·.size) = some part.size)
    (h : wpList P ops Q rest (a.put op.dst (.agg part)) w) : wpList P ops Q (op :: rest) a w :=
  listWants hw fun K hK => by
    refine wp_load_mid ty x ho b o hx part.toList d (fun j v hj => ?_) hu hd (by simpa using hi) ?_
    · rw [blkCell hg]
      have h1 : j < part.size := by have := (List.getElem?_eq_some_iff.1 hj).1; simpa using this
      rw [← hp, List.getElem?_take, if_pos h1, List.getElem?_drop, Array.getElem?_toList] at hj
      exact hj
    · simpa using hK _ _ h
theorem toList_nil (a : ByteArray) : a.toList = [] ↔ a.size = 0 := by
  rw [ByteArray.toList_eq]
  have h : a.data.toList.length = a.size := by simp
  constructor
  · intro e; rw [e] at h; exact h.symm
  · intro e; exact List.eq_nil_of_length_eq_zero (by omega)
theorem str_some {a : ByteArray} (h : a.size ≠ 0) : ¬ a.toList = [] ∧ a.toList.isEmpty = false ∧ (a.toList == []) = false := by
  have h2 : ¬ a.toList = [] := fun e => h ((toList_nil a).1 e)
  exact ⟨h2, by simpa using h2, by simpa using h2⟩
theorem str_zero {s : ByteArray} (h : s.size = 0) : s = ⟨#[]⟩ := by
  obtain ⟨⟨l⟩⟩ := s
  have : l.length = 0 := h
  rw [List.eq_nil_of_length_eq_zero this]
theorem odd_at (w : World) : PredAt Try.prog 51 #[] encR Sp.oddB w := fun W r _ => by
  unfold FnGives Sp.oddB
  show Calls Try.prog 51 #[.int .i32 (r : Int)] W _
  by_cases h1 : r < 32
  · have h1' : decide (r < 32) = true := decide_eq_true h1
    rw [h1']
    go_enter Try.func51, Try.ntmps51
    go_wp2_with fail
    go_ret
    exact ⟨by simp only; rfl, 0, rfl⟩
  · have h1' : decide (r < 32) = false := decide_eq_false h1
    have h1i : ¬ ((r : Int) < 32) := by omega
    rw [h1']
    go_enter Try.func51, Try.ntmps51
    go_wp2_with fail
    go_ret
    exact ⟨by have e : decide (126 < (r : Int)) = decide (126 < r) := decide_eq_decide.2 (by omega)
              simp only [e]; rfl, 0, rfl⟩
/-- strings.IndexFunc of odd runes. -/
theorem index_odd (s : ByteArray) (w : World) : Calls Try.prog 50 #[.string s, .func (.func 51) #[] #[]] w fun e w' => e = .returned (.int .i64 (Lib.idxFunc Sp.oddB true s)) ∧ Below w.heap.size w w' :=
  Any.strings_IndexFunc Try.laysIdx 51 #[] (enters_of Try.func51 (by kernel_rfl) rfl) Sp.oddB s w (odd_at w)
theorem in_any (n : Int) (w : World) : Calls Try.prog 52 #[.int .i64 n] w fun e w' => e = .returned (.bool (decide (-1000000000000000 ≤ n ∧ n ≤ 1000000000000000))) ∧ w = w' := by
  by_cases h1 : -1000000000000000 ≤ n
  · by_cases h2 : n ≤ 1000000000000000
    · rw [decide_eq_true ⟨h1, h2⟩]
      go_enter Try.func52, Try.ntmps52
      go_wp2_with fail
      go_ret
      exact ⟨by simp [*], rfl⟩
    · rw [decide_eq_false (fun h => h2 h.2)]
      go_enter Try.func52, Try.ntmps52
      go_wp2_with fail
      go_ret
      exact ⟨by simp [*], rfl⟩
  · rw [decide_eq_false (fun h => h1 h.1)]
    go_enter Try.func52, Try.ntmps52
    go_wp2_with fail
    go_ret
    exact ⟨by simp [*], rfl⟩
set_option maxRecDepth 100000 in
set_option maxHeartbeats 4000000 in
theorem right_any (a : Sp.Val) (h0 : -9223372036854775808 ≤ a.n) (h1 : a.n ≤ 9223372036854775807) (w : World) : Calls Try.prog 24 #[.agg (valA a)] w (Says (Sp.rightV a) w) := by
  obtain ⟨ak, an, sa⟩ := a
  simp only at h0 h1
  have HIX := Lib.hid (fun W => index_odd sa W)
  have HIN := Lib.hid (fun W => in_any an W)
  have HPL := Lib.hid (Sp.idx_all sa)
  generalize Lib.idxFunc Sp.oddB true sa = q at HIX HPL
  have HAN := Lib.hid (Sp.andNot_one an h0 h1)
  dsimp only [valA]
  by_cases h3 : ak = 3
  · have HY := Lib.hid (show an = 0 → sa.size ≤ 100 → Sp.plainB sa = true → Sp.rightV ⟨ak, an, sa⟩ from fun a b c => .inr (.inr (.inr ⟨h3, a, b, c⟩)))
    have HN := Lib.hid (show ¬ (an = 0 ∧ sa.size ≤ 100 ∧ Sp.plainB sa = true) → ¬ Sp.rightV ⟨ak, an, sa⟩ from fun h h' => by
      rcases h' with h' | h' | h' | h'
      · have := h'.1; simp only at this; omega
      · have := h'.1; simp only at this; omega
      · have := h'.1; simp only at this; omega
      · exact h ⟨h'.2.1, h'.2.2.1, h'.2.2.2⟩)
    generalize Sp.rightV ⟨ak, an, sa⟩ = p at HY HN ⊢
    subst h3
    by_cases hn : an = 0
    · have hn1 : (an == 0) = true := by simpa using hn
      by_cases hs : sa.size ≤ 100
      · have hs1 : decide (sa.size ≤ 100) = true := decide_eq_true hs
        have hs2 : (sa.size : Int) ≤ 100 := by omega
        cases hp : Sp.plainB sa with
        | true =>
          have hq : q < 0 := HPL.out.2 hp
          have HR := Lib.hid (HY.out hn hs hp)
          clear hn hs HY HN hp HPL
          go_enter Try.func24, Try.ntmps24
          go_upto_region 1 with fail
          have H0 := Lib.hid (show BxL w.heap.size w [(#[.int .i64 3, .int .i64 an, .string sa], 36)] (w.alloc (.cells #[.int .i64 3, .int .i64 an, .string sa] 36)) from ((BxL.nil (Below.refl w.heap.size w)).new (by simp) #[.int .i64 3, .int .i64 an, .string sa] 36))
          obtain ⟨W0, hW0⟩ : ∃ W, W = (w.alloc (.cells #[.int .i64 3, .int .i64 an, .string sa] 36)) := ⟨_, rfl⟩
          rw [← hW0] at H0 ⊢
          clear hW0
          have hc0 := blkCell H0.out.get0
          go_wp2_with (first | (go_at_call 50; (with_reducible refine (HIX.out _).mono ?_); rintro e w8 ⟨rfl, hb8⟩) | (go_at_call 52; (with_reducible refine (HIN.out _).mono ?_); rintro e w8 ⟨rfl, rfl⟩))
          go_ret
          exact says_yes HR.out (by simp [*]) (H0.out.step hb8).below
        | false =>
          have hq : ¬ q < 0 := fun h => by rw [HPL.out.1 h] at hp; cases hp
          have HR := Lib.hid (HN.out (fun h => by rw [h.2.2] at hp; cases hp))
          clear hn hs HY HN hp HPL
          go_enter Try.func24, Try.ntmps24
          go_upto_region 1 with fail
          have H0 := Lib.hid (show BxL w.heap.size w [(#[.int .i64 3, .int .i64 an, .string sa], 36)] (w.alloc (.cells #[.int .i64 3, .int .i64 an, .string sa] 36)) from ((BxL.nil (Below.refl w.heap.size w)).new (by simp) #[.int .i64 3, .int .i64 an, .string sa] 36))
          obtain ⟨W0, hW0⟩ : ∃ W, W = (w.alloc (.cells #[.int .i64 3, .int .i64 an, .string sa] 36)) := ⟨_, rfl⟩
          rw [← hW0] at H0 ⊢
          clear hW0
          have hc0 := blkCell H0.out.get0
          go_wp2_with (first | (go_at_call 50; (with_reducible refine (HIX.out _).mono ?_); rintro e w8 ⟨rfl, hb8⟩) | (go_at_call 52; (with_reducible refine (HIN.out _).mono ?_); rintro e w8 ⟨rfl, rfl⟩))
          go_ret
          exact says_no HR.out (by simp [*]) (H0.out.step hb8).below
      · have hs1 : decide (sa.size ≤ 100) = false := decide_eq_false hs
        have hs2 : ¬ (sa.size : Int) ≤ 100 := by omega
        have HR := Lib.hid (HN.out (fun h => hs h.2.1))
        clear hn hs HY HN HPL
        go_enter Try.func24, Try.ntmps24
        go_upto_region 1 with fail
        have H0 := Lib.hid (show BxL w.heap.size w [(#[.int .i64 3, .int .i64 an, .string sa], 36)] (w.alloc (.cells #[.int .i64 3, .int .i64 an, .string sa] 36)) from ((BxL.nil (Below.refl w.heap.size w)).new (by simp) #[.int .i64 3, .int .i64 an, .string sa] 36))
        obtain ⟨W0, hW0⟩ : ∃ W, W = (w.alloc (.cells #[.int .i64 3, .int .i64 an, .string sa] 36)) := ⟨_, rfl⟩
        rw [← hW0] at H0 ⊢
        clear hW0
        have hc0 := blkCell H0.out.get0
        go_wp2_with (first | (go_at_call 50; (with_reducible refine (HIX.out _).mono ?_); rintro e w8 ⟨rfl, hb8⟩) | (go_at_call 52; (with_reducible refine (HIN.out _).mono ?_); rintro e w8 ⟨rfl, rfl⟩))
        go_ret
        exact says_no HR.out (by simp [*]) H0.out.below
    · have hn1 : (an == 0) = false := by simpa using hn
      have HR := Lib.hid (HN.out (fun h => hn h.1))
      clear hn HY HN HPL
      go_enter Try.func24, Try.ntmps24
      go_upto_region 1 with fail
      have H0 := Lib.hid (show BxL w.heap.size w [(#[.int .i64 3, .int .i64 an, .string sa], 36)] (w.alloc (.cells #[.int .i64 3, .int .i64 an, .string sa] 36)) from ((BxL.nil (Below.refl w.heap.size w)).new (by simp) #[.int .i64 3, .int .i64 an, .string sa] 36))
      obtain ⟨W0, hW0⟩ : ∃ W, W = (w.alloc (.cells #[.int .i64 3, .int .i64 an, .string sa] 36)) := ⟨_, rfl⟩
      rw [← hW0] at H0 ⊢
      clear hW0
      have hc0 := blkCell H0.out.get0
      go_wp2_with (first | (go_at_call 50; (with_reducible refine (HIX.out _).mono ?_); rintro e w8 ⟨rfl, hb8⟩) | (go_at_call 52; (with_reducible refine (HIN.out _).mono ?_); rintro e w8 ⟨rfl, rfl⟩))
      go_ret
      exact says_no HR.out (by simp [*]) H0.out.below
  · have h3b : (ak == 3) = false := by simpa using h3
    have HNE := Lib.hid (show sa.size ≠ 0 → ¬ Sp.rightV ⟨ak, an, sa⟩ from fun h h' => by
      rcases h' with h' | h' | h' | h'
      · exact h h'.2.2
      · exact h h'.2.2
      · exact h h'.2.2.2
      · exact h3 h'.1)
    by_cases hs : sa.size = 0
    rotate_left
    · have HR := Lib.hid (HNE.out hs)
      obtain ⟨q1, q2, q3⟩ := str_some hs
      generalize Sp.rightV ⟨ak, an, sa⟩ = p at HR ⊢
      clear HNE hs HPL
      go_enter Try.func24, Try.ntmps24
      go_upto_region 1 with fail
      have H0 := Lib.hid (show BxL w.heap.size w [(#[.int .i64 ak, .int .i64 an, .string sa], 36)] (w.alloc (.cells #[.int .i64 ak, .int .i64 an, .string sa] 36)) from ((BxL.nil (Below.refl w.heap.size w)).new (by simp) #[.int .i64 ak, .int .i64 an, .string sa] 36))
      obtain ⟨W0, hW0⟩ : ∃ W, W = (w.alloc (.cells #[.int .i64 ak, .int .i64 an, .string sa] 36)) := ⟨_, rfl⟩
      rw [← hW0] at H0 ⊢
      clear hW0
      have hc0 := blkCell H0.out.get0
      go_wp2_with (first | (go_at_call 50; (with_reducible refine (HIX.out _).mono ?_); rintro e w8 ⟨rfl, hb8⟩) | (go_at_call 52; (with_reducible refine (HIN.out _).mono ?_); rintro e w8 ⟨rfl, rfl⟩))
      go_ret
      exact says_no HR.out (by simp [*]) H0.out.below
    have hse := str_zero hs
    subst hse
    clear HNE HPL HIX
    by_cases k0 : ak = 0
    · subst k0
      by_cases hn : an = 0
      · have HR : Hid (Sp.rightV ⟨0, an, ⟨#[]⟩⟩) := Lib.hid (.inl ⟨rfl, hn, rfl⟩)
        have hn1 : (an == 0) = true := by simpa using hn
        generalize Sp.rightV ⟨0, an, ⟨#[]⟩⟩ = p at HR ⊢
        clear hn
        go_enter Try.func24, Try.ntmps24
        go_upto_region 1 with fail
        have H0 := Lib.hid (show BxL w.heap.size w [(#[.int .i64 0, .int .i64 an, .string ⟨#[]⟩], 36)] (w.alloc (.cells #[.int .i64 0, .int .i64 an, .string ⟨#[]⟩] 36)) from ((BxL.nil (Below.refl w.heap.size w)).new (by simp) #[.int .i64 0, .int .i64 an, .string ⟨#[]⟩] 36))
        obtain ⟨W0, hW0⟩ : ∃ W, W = (w.alloc (.cells #[.int .i64 0, .int .i64 an, .string ⟨#[]⟩] 36)) := ⟨_, rfl⟩
        rw [← hW0] at H0 ⊢
        clear hW0
        have hc0 := blkCell H0.out.get0
        go_wp2_with (go_at_call 52; (with_reducible refine (HIN.out _).mono ?_); rintro e w8 ⟨rfl, rfl⟩)
        go_ret
        exact says_yes HR.out (by simp [*]) H0.out.below
      · have HR : Hid (¬ Sp.rightV ⟨0, an, ⟨#[]⟩⟩) := Lib.hid (fun h => by
              rcases h with h | h | h | h
              · exact hn h.2.1
              · (have := h.1; simp only at this; omega)
              · (have := h.1; simp only at this; omega)
              · (have := h.1; simp only at this; omega))
        have hn1 : (an == 0) = false := by simpa using hn
        generalize Sp.rightV ⟨0, an, ⟨#[]⟩⟩ = p at HR ⊢
        clear hn
        go_enter Try.func24, Try.ntmps24
        go_upto_region 1 with fail
        have H0 := Lib.hid (show BxL w.heap.size w [(#[.int .i64 0, .int .i64 an, .string ⟨#[]⟩], 36)] (w.alloc (.cells #[.int .i64 0, .int .i64 an, .string ⟨#[]⟩] 36)) from ((BxL.nil (Below.refl w.heap.size w)).new (by simp) #[.int .i64 0, .int .i64 an, .string ⟨#[]⟩] 36))
        obtain ⟨W0, hW0⟩ : ∃ W, W = (w.alloc (.cells #[.int .i64 0, .int .i64 an, .string ⟨#[]⟩] 36)) := ⟨_, rfl⟩
        rw [← hW0] at H0 ⊢
        clear hW0
        have hc0 := blkCell H0.out.get0
        go_wp2_with (go_at_call 52; (with_reducible refine (HIN.out _).mono ?_); rintro e w8 ⟨rfl, rfl⟩)
        go_ret
        exact says_no HR.out (by simp [*]) H0.out.below
    have k0b : (ak == 0) = false := by simpa using k0
    by_cases k1 : ak = 1
    · subst k1
      have hz := HAN.out
      by_cases hn : an = 0 ∨ an = 1
      · have HR : Hid (Sp.rightV ⟨1, an, ⟨#[]⟩⟩) := Lib.hid (.inr (.inl ⟨rfl, hn, rfl⟩))
        rw [decide_eq_true hn] at hz
        have hz2 : bits .andNot .i64 an 1 = 0 := by simpa using hz
        generalize Sp.rightV ⟨1, an, ⟨#[]⟩⟩ = p at HR ⊢
        clear hn
        go_enter Try.func24, Try.ntmps24
        go_upto_region 1 with fail
        have H0 := Lib.hid (show BxL w.heap.size w [(#[.int .i64 1, .int .i64 an, .string ⟨#[]⟩], 36)] (w.alloc (.cells #[.int .i64 1, .int .i64 an, .string ⟨#[]⟩] 36)) from ((BxL.nil (Below.refl w.heap.size w)).new (by simp) #[.int .i64 1, .int .i64 an, .string ⟨#[]⟩] 36))
        obtain ⟨W0, hW0⟩ : ∃ W, W = (w.alloc (.cells #[.int .i64 1, .int .i64 an, .string ⟨#[]⟩] 36)) := ⟨_, rfl⟩
        rw [← hW0] at H0 ⊢
        clear hW0
        have hc0 := blkCell H0.out.get0
        go_wp2_with (go_at_call 52; (with_reducible refine (HIN.out _).mono ?_); rintro e w8 ⟨rfl, rfl⟩)
        go_ret
        exact says_yes HR.out (by simp [*]) H0.out.below
      · have HR : Hid (¬ Sp.rightV ⟨1, an, ⟨#[]⟩⟩) := Lib.hid (fun h => by
              rcases h with h | h | h | h
              · (have := h.1; simp only at this; omega)
              · exact hn h.2.1
              · (have := h.1; simp only at this; omega)
              · (have := h.1; simp only at this; omega))
        rw [decide_eq_false hn] at hz
        have hz2 : ¬ bits .andNot .i64 an 1 = 0 := by simpa using hz
        generalize Sp.rightV ⟨1, an, ⟨#[]⟩⟩ = p at HR ⊢
        clear hn
        go_enter Try.func24, Try.ntmps24
        go_upto_region 1 with fail
        have H0 := Lib.hid (show BxL w.heap.size w [(#[.int .i64 1, .int .i64 an, .string ⟨#[]⟩], 36)] (w.alloc (.cells #[.int .i64 1, .int .i64 an, .string ⟨#[]⟩] 36)) from ((BxL.nil (Below.refl w.heap.size w)).new (by simp) #[.int .i64 1, .int .i64 an, .string ⟨#[]⟩] 36))
        obtain ⟨W0, hW0⟩ : ∃ W, W = (w.alloc (.cells #[.int .i64 1, .int .i64 an, .string ⟨#[]⟩] 36)) := ⟨_, rfl⟩
        rw [← hW0] at H0 ⊢
        clear hW0
        have hc0 := blkCell H0.out.get0
        go_wp2_with (go_at_call 52; (with_reducible refine (HIN.out _).mono ?_); rintro e w8 ⟨rfl, rfl⟩)
        go_ret
        exact says_no HR.out (by simp [*]) H0.out.below
    have k1b : (ak == 1) = false := by simpa using k1
    by_cases k2 : ak = 2
    · subst k2
      by_cases hn : -1000000000000000 ≤ an ∧ an ≤ 1000000000000000
      · have HR : Hid (Sp.rightV ⟨2, an, ⟨#[]⟩⟩) := Lib.hid (.inr (.inr (.inl ⟨rfl, hn.1, hn.2, rfl⟩)))
        rw [decide_eq_true hn] at HIN
        generalize Sp.rightV ⟨2, an, ⟨#[]⟩⟩ = p at HR ⊢
        clear hn
        go_enter Try.func24, Try.ntmps24
        go_upto_region 1 with fail
        have H0 := Lib.hid (show BxL w.heap.size w [(#[.int .i64 2, .int .i64 an, .string ⟨#[]⟩], 36)] (w.alloc (.cells #[.int .i64 2, .int .i64 an, .string ⟨#[]⟩] 36)) from ((BxL.nil (Below.refl w.heap.size w)).new (by simp) #[.int .i64 2, .int .i64 an, .string ⟨#[]⟩] 36))
        obtain ⟨W0, hW0⟩ : ∃ W, W = (w.alloc (.cells #[.int .i64 2, .int .i64 an, .string ⟨#[]⟩] 36)) := ⟨_, rfl⟩
        rw [← hW0] at H0 ⊢
        clear hW0
        have hc0 := blkCell H0.out.get0
        go_wp2_with (go_at_call 52; (with_reducible refine (HIN.out _).mono ?_); rintro e w8 ⟨rfl, rfl⟩)
        go_ret
        exact says_yes HR.out (by simp [*]) H0.out.below
      · have HR : Hid (¬ Sp.rightV ⟨2, an, ⟨#[]⟩⟩) := Lib.hid (fun h => by
              rcases h with h | h | h | h
              · (have := h.1; simp only at this; omega)
              · (have := h.1; simp only at this; omega)
              · exact hn ⟨h.2.1, h.2.2.1⟩
              · (have := h.1; simp only at this; omega))
        rw [decide_eq_false hn] at HIN
        generalize Sp.rightV ⟨2, an, ⟨#[]⟩⟩ = p at HR ⊢
        clear hn
        go_enter Try.func24, Try.ntmps24
        go_upto_region 1 with fail
        have H0 := Lib.hid (show BxL w.heap.size w [(#[.int .i64 2, .int .i64 an, .string ⟨#[]⟩], 36)] (w.alloc (.cells #[.int .i64 2, .int .i64 an, .string ⟨#[]⟩] 36)) from ((BxL.nil (Below.refl w.heap.size w)).new (by simp) #[.int .i64 2, .int .i64 an, .string ⟨#[]⟩] 36))
        obtain ⟨W0, hW0⟩ : ∃ W, W = (w.alloc (.cells #[.int .i64 2, .int .i64 an, .string ⟨#[]⟩] 36)) := ⟨_, rfl⟩
        rw [← hW0] at H0 ⊢
        clear hW0
        have hc0 := blkCell H0.out.get0
        go_wp2_with (go_at_call 52; (with_reducible refine (HIN.out _).mono ?_); rintro e w8 ⟨rfl, rfl⟩)
        go_ret
        exact says_no HR.out (by simp [*]) H0.out.below
    have k2b : (ak == 2) = false := by simpa using k2
    have HR : Hid (¬ Sp.rightV ⟨ak, an, ⟨#[]⟩⟩) := Lib.hid (fun h => by
        rcases h with h | h | h | h
        · exact k0 h.1
        · exact k1 h.1
        · exact k2 h.1
        · exact h3 h.1)
    generalize Sp.rightV ⟨ak, an, ⟨#[]⟩⟩ = p at HR ⊢
    clear h3 k0 k1 k2
    go_enter Try.func24, Try.ntmps24
    go_upto_region 1 with fail
    have H0 := Lib.hid (show BxL w.heap.size w [(#[.int .i64 ak, .int .i64 an, .string ⟨#[]⟩], 36)] (w.alloc (.cells #[.int .i64 ak, .int .i64 an, .string ⟨#[]⟩] 36)) from ((BxL.nil (Below.refl w.heap.size w)).new (by simp) #[.int .i64 ak, .int .i64 an, .string ⟨#[]⟩] 36))
    obtain ⟨W0, hW0⟩ : ∃ W, W = (w.alloc (.cells #[.int .i64 ak, .int .i64 an, .string ⟨#[]⟩] 36)) := ⟨_, rfl⟩
    rw [← hW0] at H0 ⊢
    clear hW0
    have hc0 := blkCell H0.out.get0
    go_wp2_with (go_at_call 52; (with_reducible refine (HIN.out _).mono ?_); rintro e w8 ⟨rfl, rfl⟩)
    go_ret
    exact says_no HR.out (by simp [*]) H0.out.below
end Go.Proofs.Ytmhpbmobfdgkeaa
