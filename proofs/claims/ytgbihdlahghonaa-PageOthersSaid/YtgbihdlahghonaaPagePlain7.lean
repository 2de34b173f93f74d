/- The plain laws of pages: each change undone; the other slots. -/
import Derived.Test.YtgbihdlahghonaaPagePlain6
namespace Go.Proofs.Ytgbihdlahghonaa
open Go.RowKit

theorem out_eq {a b : ByteArray} {x y : Int} (h : (a, x) = (b, y)) : a = b ∧ x = y := by injection h with h1 h2; exact ⟨h1, h2⟩
theorem not_false_true {b : Bool} (h : ¬ b = false) : b = true := by cases b; exact absurd rfl h; rfl
theorem leaf_each (p : ByteArray) : ∀ r ∈ (leafP p).recs, r.size ≤ 400 := (leafP_good p).fine.each
theorem putO_ok {p q r : ByteArray} {i : Int} (h : putO p i r = (q, 0)) : ∃ k : Nat, i = k ∧ isPg p = true ∧ (Pg.rec_ (leafP p).recs k).size = 0 ∧ mayB r = true ∧ k ≤ 512 ∧ Made p q (Pg.putAt (leafP p).recs k r) := by
  unfold putO at h
  split at h
  · have := (out_eq h).2; omega
  · rename_i h1
    split at h
    · have := (out_eq h).2; omega
    · rename_i h2
      obtain ⟨k, rfl⟩ := Int.eq_ofNat_of_zero_le (show 0 ≤ i by omega)
      rw [Pg.slotAt_rec] at h
      split at h
      · have := (out_eq h).2; omega
      · rename_i h3
        split at h
        · have := (out_eq h).2; omega
        · rename_i h4
          split at h
          · have := (out_eq h).2; omega
          · rename_i h5
            have hm : mayB r = true := by simpa using h4
            refine ⟨k, rfl, not_false_true h1, by simpa using h3, hm, by omega, (full_made (Pg.putAt_mem (leaf_each p) (mayB_yes hm).2) h rfl).1⟩
theorem cutO_ok {p q : ByteArray} {i : Int} (h : cutO p i = (q, 0)) : ∃ k : Nat, i = k ∧ isPg p = true ∧ (Pg.rec_ (leafP p).recs k).size ≠ 0 ∧ k < (leafP p).recs.length ∧ Made p q (Pg.putAt (leafP p).recs k ⟨#[]⟩) := by
  unfold cutO at h
  split at h
  · have := (out_eq h).2; omega
  · rename_i h1
    split at h
    · have := (out_eq h).2; omega
    · rename_i h2
      obtain ⟨h3, h4⟩ := Pg.slotAt_lt h2
      obtain ⟨k, rfl⟩ := Int.eq_ofNat_of_zero_le h3
      rw [Pg.slotAt_rec] at h2
      exact ⟨k, rfl, not_false_true h1, h2, by omega, (full_made (Pg.putAt_mem (leaf_each p) (by show (0 : Nat) ≤ 400; omega)) h rfl).1⟩
theorem setO_ok {p q r : ByteArray} {i : Int} (h : setO p i r = (q, 0)) : ∃ k : Nat, i = k ∧ isPg p = true ∧ mayB r = true ∧ (Pg.rec_ (leafP p).recs k).size ≠ 0 ∧ k < (leafP p).recs.length ∧ Made p q (Pg.putAt (leafP p).recs k r) := by
  unfold setO at h
  split at h
  · have := (out_eq h).2; omega
  · rename_i h1
    split at h
    · have := (out_eq h).2; omega
    · rename_i h5
      split at h
      · have := (out_eq h).2; omega
      · rename_i h2
        have hm : mayB r = true := by simpa using h5
        obtain ⟨h3, h4⟩ := Pg.slotAt_lt h2
        obtain ⟨k, rfl⟩ := Int.eq_ofNat_of_zero_le h3
        rw [Pg.slotAt_rec] at h2
        exact ⟨k, rfl, not_false_true h1, hm, h2, by omega, (full_made (Pg.putAt_mem (leaf_each p) (mayB_yes hm).2) h rfl).1⟩
theorem addO_ok {p q r : ByteArray} {i : Int} (h : addO p i r = (q, 0)) : ∃ k : Nat, i = k ∧ isPg p = true ∧ mayB r = true ∧ k ≤ 512 ∧ Made p q (Pg.insAt (leafP p).recs k r) := by
  unfold addO at h
  split at h
  · have := (out_eq h).2; omega
  · rename_i h1
    split at h
    · have := (out_eq h).2; omega
    · rename_i h2
      obtain ⟨k, rfl⟩ := Int.eq_ofNat_of_zero_le (show 0 ≤ i by omega)
      split at h
      · have := (out_eq h).2; omega
      · rename_i h5
        split at h
        · have := (out_eq h).2; omega
        · have hm : mayB r = true := by simpa using h5
          exact ⟨k, rfl, not_false_true h1, hm, by omega, (full_made (Pg.insAt_mem (leaf_each p) (mayB_yes hm).2) h rfl).1⟩
theorem delO_ok {p q : ByteArray} {i : Int} (h : delO p i = (q, 0)) : ∃ k : Nat, i = k ∧ isPg p = true ∧ (Pg.rec_ (leafP p).recs k).size ≠ 0 ∧ k < (leafP p).recs.length ∧ Made p q (Pg.delAt (leafP p).recs k) := by
  unfold delO at h
  split at h
  · have := (out_eq h).2; omega
  · rename_i h1
    split at h
    · have := (out_eq h).2; omega
    · rename_i h2
      obtain ⟨h3, h4⟩ := Pg.slotAt_lt h2
      obtain ⟨k, rfl⟩ := Int.eq_ofNat_of_zero_le h3
      rw [Pg.slotAt_rec] at h2
      exact ⟨k, rfl, not_false_true h1, h2, by omega, (full_made (Pg.delAt_mem (leaf_each p)) h rfl).1⟩

theorem rec_lt {rs : List ByteArray} {k : Nat} (h : (Pg.rec_ rs k).size ≠ 0) : k < rs.length := by
  rcases Nat.lt_or_ge k rs.length with h1 | h1
  · exact h1
  · rw [Pg.rec_past h1] at h; exact absurd rfl h
theorem rec_may {p : ByteArray} {k : Nat} (h : (Pg.rec_ (leafP p).recs k).size ≠ 0) : mayB (Pg.rec_ (leafP p).recs k) = true := by
  unfold mayB
  apply decide_eq_true
  have hl := rec_lt h
  refine ⟨by omega, ?_⟩
  rw [Pg.rec_in hl]
  exact leaf_each p _ (List.getElem_mem hl)
theorem putO_do {p r : ByteArray} {k : Nat} (h1 : isPg p = true) (h2 : (Pg.rec_ (leafP p).recs k).size = 0) (h3 : mayB r = true) (h4 : k ≤ 512) : putO p k r = Pg.fullO (withRecs p (Pg.putAt (leafP p).recs k r)) := by
  unfold putO
  rw [if_neg (by rw [h1]; simp), if_neg (by omega), if_neg (by rw [Pg.slotAt_rec]; omega), if_neg (by rw [h3]; simp), if_neg (by omega)]; rfl
theorem cutO_do {p : ByteArray} {k : Nat} (h1 : isPg p = true) (h2 : (Pg.rec_ (leafP p).recs k).size ≠ 0) : cutO p k = Pg.fullO (withRecs p (Pg.putAt (leafP p).recs k ⟨#[]⟩)) := by
  unfold cutO
  rw [if_neg (by rw [h1]; simp), if_neg (by rw [Pg.slotAt_rec]; exact h2)]; rfl
theorem setO_do {p r : ByteArray} {k : Nat} (h1 : isPg p = true) (h3 : mayB r = true) (h2 : (Pg.rec_ (leafP p).recs k).size ≠ 0) : setO p k r = Pg.fullO (withRecs p (Pg.putAt (leafP p).recs k r)) := by
  unfold setO
  rw [if_neg (by rw [h1]; simp), if_neg (by rw [h3]; simp), if_neg (by rw [Pg.slotAt_rec]; exact h2)]; rfl
theorem addO_do {p r : ByteArray} {k : Nat} (h1 : isPg p = true) (h3 : mayB r = true) (h4 : k ≤ 512) : addO p k r = Pg.fullO (withRecs p (Pg.insAt (leafP p).recs k r)) := by
  unfold addO
  rw [if_neg (by rw [h1]; simp), if_neg (by omega), if_neg (by rw [h3]; simp), if_neg (by omega)]; rfl
theorem delO_do {p : ByteArray} {k : Nat} (h1 : isPg p = true) (h2 : (Pg.rec_ (leafP p).recs k).size ≠ 0) : delO p k = Pg.fullO (withRecs p (Pg.delAt (leafP p).recs k)) := by
  unfold delO
  rw [if_neg (by rw [h1]; simp), if_neg (by rw [Pg.slotAt_rec]; exact h2)]; rfl

/-- A page's bytes, with the sum 0. -/
def plB (p : ByteArray) : ByteArray := lsnB p ((leafP p).lsn : Nat)
theorem back1 {p q r : ByteArray} {i : Int} (h : putO p i r = (q, 0)) : (Pg.slotAt (leafP p).recs i).size = 0 ∧ q.size = 512 ∧ cutO q i = (plB p, 0) := by
  obtain ⟨k, rfl, hp, h0, hm, hk, M⟩ := putO_ok h
  have hr := mayB_yes hm
  refine ⟨by rw [Pg.slotAt_rec]; exact h0, M.size, ?_⟩
  rw [cutO_do M.isPg (by rw [M.rec_, Pg.putAt_rec, if_pos rfl]; omega)]
  refine back_page hp M.lsn M.kind M.link fun j => ?_
  rw [Pg.putAt_rec, M.rec_, Pg.putAt_rec]
  by_cases hj : j = k
  · rw [if_pos hj, hj, Pg.nil_of_size h0]
  · rw [if_neg hj, if_neg hj]
theorem back2 {p q : ByteArray} {i : Int} (h : cutO p i = (q, 0)) : (Pg.slotAt (leafP p).recs i).size ≠ 0 ∧ q.size = 512 ∧ putO q i (Pg.slotAt (leafP p).recs i) = (plB p, 0) := by
  obtain ⟨k, rfl, hp, h0, hk, M⟩ := cutO_ok h
  have hl := (leafP_good p).fine.len
  rw [Pg.slotAt_rec]
  refine ⟨h0, M.size, ?_⟩
  rw [putO_do M.isPg (by rw [M.rec_, Pg.putAt_rec, if_pos rfl]; rfl) (rec_may h0) (by omega)]
  refine back_page hp M.lsn M.kind M.link fun j => ?_
  rw [Pg.putAt_rec, M.rec_, Pg.putAt_rec]
  by_cases hj : j = k
  · rw [if_pos hj, hj]
  · rw [if_neg hj, if_neg hj]
theorem back3 {p q r : ByteArray} {i : Int} (h : setO p i r = (q, 0)) : (Pg.slotAt (leafP p).recs i).size ≠ 0 ∧ q.size = 512 ∧ setO q i (Pg.slotAt (leafP p).recs i) = (plB p, 0) ∧ (leafP q).lsn = (leafP p).lsn ∧ (leafP q).kind = (leafP p).kind ∧ (leafP q).link = (leafP p).link := by
  obtain ⟨k, rfl, hp, hm, h0, hk, M⟩ := setO_ok h
  have hr := mayB_yes hm
  rw [Pg.slotAt_rec]
  refine ⟨h0, M.size, ?_, M.lsn, M.kind, M.link⟩
  rw [setO_do M.isPg (rec_may h0) (by rw [M.rec_, Pg.putAt_rec, if_pos rfl]; omega)]
  refine back_page hp M.lsn M.kind M.link fun j => ?_
  rw [Pg.putAt_rec, M.rec_, Pg.putAt_rec]
  by_cases hj : j = k
  · rw [if_pos hj, hj]
  · rw [if_neg hj, if_neg hj]
theorem back4 {p q r : ByteArray} {i : Int} (h : addO p i r = (q, 0)) : q.size = 512 ∧ delO q i = (plB p, 0) := by
  obtain ⟨k, rfl, hp, hm, hk, M⟩ := addO_ok h
  have hr := mayB_yes hm
  refine ⟨M.size, ?_⟩
  have h1 : (Pg.rec_ (leafP q).recs k).size ≠ 0 := by rw [M.rec_, Pg.insAt_rec, if_neg (by omega), if_pos rfl]; omega
  rw [delO_do M.isPg h1]
  refine back_page hp M.lsn M.kind M.link fun j => ?_
  rw [Pg.delAt_rec _ _ (rec_lt h1)]
  by_cases hj : j < k
  · rw [if_pos hj, M.rec_, Pg.insAt_rec, if_pos hj]
  · rw [if_neg hj, M.rec_, Pg.insAt_rec, if_neg (by omega), if_neg (by omega), Nat.add_sub_cancel]
theorem back5 {p q : ByteArray} {i : Int} (h : delO p i = (q, 0)) : q.size = 512 ∧ addO q i (Pg.slotAt (leafP p).recs i) = (plB p, 0) := by
  obtain ⟨k, rfl, hp, h0, hk, M⟩ := delO_ok h
  have hl := (leafP_good p).fine.len
  rw [Pg.slotAt_rec]
  refine ⟨M.size, ?_⟩
  rw [addO_do M.isPg (rec_may h0) (by omega)]
  refine back_page hp M.lsn M.kind M.link fun j => ?_
  rw [Pg.insAt_rec, M.rec_, M.rec_, Pg.delAt_rec _ _ hk, Pg.delAt_rec _ _ hk]
  by_cases hj : j < k
  · rw [if_pos hj, if_pos hj]
  · rw [if_neg hj]
    by_cases hj2 : j = k
    · rw [if_pos hj2, hj2]
    · rw [if_neg hj2, if_neg (by omega), show j - 1 + 1 = j by omega]

/-- A change that went wrong gives no page. -/
theorem putO_bad (p r : ByteArray) (i : Int) : (putO p i r).2 = 0 ∨ (putO p i r).1 = ⟨#[]⟩ := by
  unfold putO
  repeat' split
  all_goals first | exact .inr rfl | (rcases fullO_cases (withRecs p (Pg.putAt (leafP p).recs i.toNat r)) with ⟨_, h⟩ | ⟨_, h⟩ <;> rw [h] <;> simp)
theorem cutO_bad (p : ByteArray) (i : Int) : (cutO p i).2 = 0 ∨ (cutO p i).1 = ⟨#[]⟩ := by
  unfold cutO
  repeat' split
  all_goals first | exact .inr rfl | (rcases fullO_cases (withRecs p (Pg.putAt (leafP p).recs i.toNat ⟨#[]⟩)) with ⟨_, h⟩ | ⟨_, h⟩ <;> rw [h] <;> simp)
theorem setO_bad (p r : ByteArray) (i : Int) : (setO p i r).2 = 0 ∨ (setO p i r).1 = ⟨#[]⟩ := by
  unfold setO
  repeat' split
  all_goals first | exact .inr rfl | (rcases fullO_cases (withRecs p (Pg.putAt (leafP p).recs i.toNat r)) with ⟨_, h⟩ | ⟨_, h⟩ <;> rw [h] <;> simp)
/-- The other slots stay. -/
theorem other1 {p q r : ByteArray} {i : Int} {o : Nat} (h : putO p i r = (q, 0)) (ho : i ≠ o) : q.size = 512 ∧ Pg.slotAt (leafP q).recs o = Pg.slotAt (leafP p).recs o := by
  obtain ⟨k, rfl, hp, h0, hm, hk, M⟩ := putO_ok h
  refine ⟨M.size, ?_⟩
  rw [Pg.slotAt_rec, Pg.slotAt_rec, M.rec_, Pg.putAt_rec, if_neg (by omega)]
theorem other2 {p q r : ByteArray} {i : Int} {o : Nat} (h : setO p i r = (q, 0)) (ho : i ≠ o) : q.size = 512 ∧ Pg.slotAt (leafP q).recs o = Pg.slotAt (leafP p).recs o := by
  obtain ⟨k, rfl, hp, hm, h0, hk, M⟩ := setO_ok h
  refine ⟨M.size, ?_⟩
  rw [Pg.slotAt_rec, Pg.slotAt_rec, M.rec_, Pg.putAt_rec, if_neg (by omega)]
theorem other3 {p q : ByteArray} {i : Int} {o : Nat} (h : cutO p i = (q, 0)) (ho : i ≠ o) : q.size = 512 ∧ Pg.slotAt (leafP q).recs o = Pg.slotAt (leafP p).recs o := by
  obtain ⟨k, rfl, hp, h0, hk, M⟩ := cutO_ok h
  refine ⟨M.size, ?_⟩
  rw [Pg.slotAt_rec, Pg.slotAt_rec, M.rec_, Pg.putAt_rec, if_neg (by omega)]
theorem other4 {p q r : ByteArray} {i : Int} {o : Nat} (h : addO p i r = (q, 0)) : q.size = 512 ∧ Pg.slotAt (leafP q).recs i = r ∧ r.size ≠ 0 ∧
    (i ≤ o → Pg.slotAt (leafP q).recs ((o : Int) + 1) = Pg.slotAt (leafP p).recs o) ∧ ((o : Int) < i → Pg.slotAt (leafP q).recs o = Pg.slotAt (leafP p).recs o) := by
  obtain ⟨k, rfl, hp, hm, hk, M⟩ := addO_ok h
  have hr := mayB_yes hm
  refine ⟨M.size, ?_, by omega, fun h => ?_, fun h => ?_⟩
  · rw [Pg.slotAt_rec, M.rec_, Pg.insAt_rec, if_neg (by omega), if_pos rfl]
  · rw [show (o : Int) + 1 = ((o + 1 : Nat) : Int) by omega, Pg.slotAt_rec, Pg.slotAt_rec, M.rec_, Pg.insAt_rec, if_neg (by omega), if_neg (by omega), Nat.add_sub_cancel]
  · rw [Pg.slotAt_rec, Pg.slotAt_rec, M.rec_, Pg.insAt_rec, if_pos (by omega)]
theorem other5 {p q : ByteArray} {i : Int} {o : Nat} (h : delO p i = (q, 0)) : q.size = 512 ∧
    (i < o → Pg.slotAt (leafP q).recs ((o : Int) - 1) = Pg.slotAt (leafP p).recs o) ∧ ((o : Int) < i → Pg.slotAt (leafP q).recs o = Pg.slotAt (leafP p).recs o) := by
  obtain ⟨k, rfl, hp, h0, hk, M⟩ := delO_ok h
  refine ⟨M.size, fun h => ?_, fun h => ?_⟩
  · rw [show (o : Int) - 1 = ((o - 1 : Nat) : Int) by omega, Pg.slotAt_rec, Pg.slotAt_rec, M.rec_, Pg.delAt_rec _ _ hk, if_neg (by omega), show o - 1 + 1 = o by omega]
  · rw [Pg.slotAt_rec, Pg.slotAt_rec, M.rec_, Pg.delAt_rec _ _ hk, if_pos (by omega)]
end Go.Proofs.Ytgbihdlahghonaa
