/- The plain laws of pages: records told slot by slot; what undoes what. -/
import Derived.Test.YtgbihdlahghonaaPagePlain5
namespace Pg
/-- The record of a slot; empty: there is none. -/
def rec_ (rs : List ByteArray) (j : Nat) : ByteArray := (rs[j]?).getD ⟨#[]⟩
theorem rec_past {rs : List ByteArray} {j : Nat} (h : rs.length ≤ j) : rec_ rs j = ⟨#[]⟩ := by
  unfold rec_; rw [List.getElem?_eq_none h]; rfl
theorem rec_in {rs : List ByteArray} {j : Nat} (h : j < rs.length) : rec_ rs j = rs[j] := by
  unfold rec_; rw [List.getElem?_eq_getElem h]; rfl
theorem slotAt_rec (rs : List ByteArray) (k : Nat) : slotAt rs (k : Int) = rec_ rs k := by
  unfold slotAt rec_
  rw [if_neg (by omega)]; rfl
theorem nil_of_size {r : ByteArray} (h : r.size = 0) : r = ⟨#[]⟩ := by
  apply ByteArray.ext
  exact Array.eq_empty_of_size_eq_zero h
theorem trimN_rest (rs : List ByteArray) : ∀ m j, trimN rs m ≤ j → j < m → (rec_ rs j).size = 0 := by
  intro m
  induction m with
  | zero => intro j _ h; omega
  | succ m ih =>
    intro j h1 h2
    unfold trimN at h1
    split at h1
    · rename_i h0
      by_cases hj : j = m
      · rw [hj]; exact h0
      · exact ih j h1 (by omega)
    · omega
theorem trim_rec (rs : List ByteArray) (j : Nat) : rec_ (trim rs) j = rec_ rs j := by
  have hle := trimN_le rs rs.length
  by_cases h : j < trimN rs rs.length
  · unfold rec_ trim
    rw [List.getElem?_take_of_lt h]
  · have h1 : rec_ (trim rs) j = ⟨#[]⟩ := rec_past (by unfold trim; rw [List.length_take]; omega)
    rw [h1]
    by_cases hj : j < rs.length
    · exact (nil_of_size (trimN_rest rs rs.length j (by omega) hj)).symm
    · exact (rec_past (by omega)).symm
theorem tight_ext {rs ss : List ByteArray} (h1 : Tight rs) (h2 : Tight ss) (h : ∀ j, rec_ rs j = rec_ ss j) : rs = ss := by
  have key : ∀ {a b : List ByteArray}, Tight a → (∀ j, rec_ a j = rec_ b j) → a.length ≤ b.length := by
    intro a b ha hab
    rcases tight_last ha with h0 | h0
    · omega
    · rcases Nat.lt_or_ge b.length a.length with hlt | hge
      · exfalso
        apply h0
        have h3 := hab (a.length - 1)
        have h4 : rec_ b (a.length - 1) = ⟨#[]⟩ := rec_past (by omega)
        rw [h4] at h3
        unfold rec_ at h3
        rw [h3]; rfl
      · exact hge
  have hl : rs.length = ss.length := Nat.le_antisymm (key h1 h) (key h2 fun j => (h j).symm)
  apply List.ext_getElem hl
  intro j hj1 hj2
  have := h j
  rwa [rec_in hj1, rec_in hj2] at this
theorem trim_ext {rs ss : List ByteArray} (h : ∀ j, rec_ rs j = rec_ ss j) : trim rs = trim ss :=
  tight_ext (trim_trim rs) (trim_trim ss) fun j => by rw [trim_rec, trim_rec, h]
theorem putAt_rec (rs : List ByteArray) (k : Nat) (r : ByteArray) (j : Nat) : rec_ (putAt rs k r) j = if j = k then r else rec_ rs j := putAt_get rs k r j
theorem insAt_rec (rs : List ByteArray) (k : Nat) (r : ByteArray) (j : Nat) : rec_ (insAt rs k r) j = if j < k then rec_ rs j else if j = k then r else rec_ rs (j - 1) := by
  unfold insAt
  split
  · rename_i h
    rw [putAt_rec]
    by_cases h1 : j = k
    · rw [if_pos h1, if_neg (by omega), if_pos h1]
    · rw [if_neg h1]
      by_cases h2 : j < k
      · rw [if_pos h2]
      · rw [if_neg h2, if_neg h1, rec_past (by omega), rec_past (by omega)]
  · rename_i h
    unfold rec_
    rw [List.append_assoc, List.getElem?_append]
    have hl : (rs.take k).length = k := by rw [List.length_take]; omega
    rw [hl]
    by_cases h2 : j < k
    · rw [if_pos h2, if_pos h2, List.getElem?_take_of_lt h2]
    · rw [if_neg h2, if_neg h2, List.singleton_append]
      by_cases h1 : j = k
      · rw [if_pos h1, h1, Nat.sub_self]; rfl
      · rw [if_neg h1]
        obtain ⟨m, rfl⟩ : ∃ m, j = k + 1 + m := ⟨j - (k + 1), by omega⟩
        rw [show k + 1 + m - k = m + 1 by omega, List.getElem?_cons_succ, List.getElem?_drop, show k + 1 + m - 1 = k + m by omega]
theorem delAt_rec (rs : List ByteArray) (k : Nat) (h : k < rs.length) (j : Nat) : rec_ (delAt rs k) j = if j < k then rec_ rs j else rec_ rs (j + 1) := by
  unfold delAt rec_
  rw [List.getElem?_append]
  have hl : (rs.take k).length = k := by rw [List.length_take]; omega
  rw [hl]
  by_cases h2 : j < k
  · rw [if_pos h2, if_pos h2, List.getElem?_take_of_lt h2]
  · rw [if_neg h2, if_neg h2, List.getElem?_drop, show k + 1 + (j - k) = j + 1 by omega]
theorem freeN_rec (rs : List ByteArray) : (rec_ rs (freeN rs)).size = 0 := by
  induction rs with
  | nil => rfl
  | cons r rs ih =>
    unfold freeN
    split
    · rename_i h; exact h
    · exact ih
end Pg
namespace Go.Proofs.Ytgbihdlahghonaa
open Go.RowKit

/-- What a change that went well has made: a page with these records. -/
structure Made (p q : ByteArray) (rs : List ByteArray) : Prop where
  isPg : isPg q = true
  size : q.size = 512
  lsn : (leafP q).lsn = (leafP p).lsn
  kind : (leafP q).kind = (leafP p).kind
  link : (leafP q).link = (leafP p).link
  rec_ : ∀ j, Pg.rec_ (leafP q).recs j = Pg.rec_ rs j
theorem full_made {p q : ByteArray} {rs : List ByteArray} {e : Int} (he : ∀ r ∈ rs, r.size ≤ 400) (h : Pg.fullO (withRecs p rs) = (q, e)) (h0 : e = 0) : Made p q rs ∧ q = pageB (withRecs p rs) := by
  rcases fullO_cases (withRecs p rs) with ⟨hs, h1⟩ | ⟨hs, h1⟩
  · rw [h1] at h
    injection h with hq _
    obtain ⟨h2, h3⟩ := pageB_is (withRecs_small p rs) hs he
    rw [hq] at h2 h3
    refine ⟨⟨h2, by rw [← hq]; exact pageB_size hs, by rw [h3]; rfl, by rw [h3]; rfl, by rw [h3]; rfl, fun j => ?_⟩, hq.symm⟩
    rw [h3]
    exact Pg.trim_rec rs j
  · rw [h1] at h
    injection h with _ h4
    omega
/-- A page's own bytes, with the sum 0. -/
theorem plain_page {p : ByteArray} (h : isPg p = true) : lsnB p ((leafP p).lsn : Nat) = pageB (leafP p) := by
  have h1 := (leafP_good p).fine.small.1
  unfold lsnB
  rw [if_neg (by rw [h]; simp; omega)]
  rfl
/-- The page of records that are, slot by slot, a page's own, is that page with the sum 0. -/
theorem back_page {p q : ByteArray} {rs : List ByteArray} (hp : isPg p = true) (h1 : (leafP q).lsn = (leafP p).lsn) (h2 : (leafP q).kind = (leafP p).kind) (h3 : (leafP q).link = (leafP p).link) (h : ∀ j, Pg.rec_ rs j = Pg.rec_ (leafP p).recs j) :
    Pg.fullO (withRecs q rs) = (lsnB p ((leafP p).lsn : Nat), 0) := by
  have hg := leafP_good p
  have ht : Pg.trim rs = (leafP p).recs := by rw [Pg.trim_ext h]; exact Pg.trim_of_tight hg.tight
  have hs : Pg.sizeN (Pg.trim (withRecs q rs).recs) ≤ 512 := by show Pg.sizeN (Pg.trim rs) ≤ 512; rw [ht]; exact hg.fits
  rw [plain_page hp, fullO_pageB hs]
  have e : Pg.layL (withRecs q rs) = Pg.layL (leafP p) := by
    unfold Pg.layL
    have e1 : (withRecs q rs).recs = rs := rfl
    rw [e1, ht, Pg.trim_of_tight hg.tight]
    unfold Pg.layR Pg.headL
    rw [show (withRecs q rs).lsn = (leafP p).lsn from h1, show (withRecs q rs).kind = (leafP p).kind from h2, show (withRecs q rs).link = (leafP p).link from h3]
  unfold pageB
  rw [e]
end Go.Proofs.Ytgbihdlahghonaa
