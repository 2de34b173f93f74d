/- The plain mathematics of pages, third part: a page that was laid is read back. -/
import Derived.Test.YtgbihdlahghonaaPagePlain2
namespace Pg
open Oct

theorem getN_app (a b : List UInt8) (u k : Nat) (h : u < 256 ^ k) : getN (a ++ (putL u k ++ b)) a.length k = u := by
  unfold getN
  rw [List.drop_left, List.take_left' (putL_length u k), getL_putL, Nat.mod_eq_of_lt h]
theorem getN_app' (l a b : List UInt8) (n u k : Nat) (hl : l = a ++ (putL u k ++ b)) (hn : a.length = n) (h : u < 256 ^ k) : getN l n k = u := by
  rw [hl, ← hn]; exact getN_app a b u k h

/-- The last record, if there is one, is not empty. -/
def Tight (rs : List ByteArray) : Prop := ∀ r, rs.getLast? = some r → r.size ≠ 0
theorem trim_tight (rs : List ByteArray) : trim rs = rs ↔ Tight rs := by
  have h0 : trim rs = rs ↔ trimN rs rs.length = rs.length := by
    unfold trim
    constructor
    · intro h
      have h1 := congrArg List.length h
      rw [List.length_take] at h1
      have := trimN_le rs rs.length
      omega
    · intro h; rw [h, List.take_length]
  rw [h0]
  unfold Tight
  rw [List.getLast?_eq_getElem?]
  rcases hm : rs.length with _ | m
  · simp [trimN, hm]
  · have hlt : m < rs.length := by omega
    have hg : rs[m]? = some rs[m] := List.getElem?_eq_getElem hlt
    simp only [Nat.add_sub_cancel, hg, Option.some.injEq, forall_eq', trimN, Option.getD_some]
    constructor
    · intro h hz
      rw [if_pos hz] at h
      have := trimN_le rs m
      omega
    · intro h; rw [if_neg h]

theorem trim_trim (rs : List ByteArray) : Tight (trim rs) := by
  unfold trim
  have key : ∀ m, m ≤ rs.length → Tight (rs.take (trimN rs m)) := by
    intro m
    induction m with
    | zero => intro _ r hr; simp [trimN] at hr
    | succ m ih =>
      intro hm
      unfold trimN
      split
      · exact ih (by omega)
      · rename_i h
        intro r hr
        rw [List.getLast?_eq_getElem?, List.length_take, Nat.min_eq_left hm, Nat.add_sub_cancel, List.getElem?_take_of_lt (by omega)] at hr
        rw [hr] at h
        exact h
  exact key _ (Nat.le_refl _)
theorem trim_idem (rs : List ByteArray) : trim (trim rs) = trim rs := (trim_tight _).2 (trim_trim rs)

theorem layL_eq {x : Leaf} (h : sizeN (trim x.recs) ≤ 512) : layL x = headL x (trim x.recs).length (512 - sumSizes (trim x.recs)) ++ slotsL 512 (trim x.recs) ++ List.replicate (512 - sizeN (trim x.recs)) 0 ++ bodyL (trim x.recs) := by
  unfold layL layR
  rw [if_neg (by omega)]

/-- A page's bytes behind the sum. -/
def headT (x : Leaf) (n a : Nat) : List UInt8 := putL x.lsn 6 ++ (putL x.kind 1 ++ (putL 0 1 ++ (putL x.link 3 ++ (putL n 2 ++ putL a 2))))
theorem headL_eq (x : Leaf) (n a : Nat) : headL x n a = putL 0 4 ++ headT x n a := by unfold headL headT; simp only [List.append_assoc]
theorem headT_length (x : Leaf) (n a : Nat) : (headT x n a).length = 15 := by simp [headT, putL_length]
def tailR (x : Leaf) (rs : List ByteArray) : List UInt8 := headT x rs.length (512 - sumSizes rs) ++ (slotsL 512 rs ++ (List.replicate (512 - sizeN rs) 0 ++ bodyL rs))
theorem tailR_length (x : Leaf) (rs : List ByteArray) (h : sizeN rs ≤ 512) : (tailR x rs).length = 508 := by
  unfold tailR
  simp only [List.length_append, headT_length, slotsL_length, List.length_replicate, bodyL_length]
  have hz : sizeN rs = 19 + 4 * rs.length + sumSizes rs := rfl
  omega
theorem layL_tail {x : Leaf} (h : sizeN (trim x.recs) ≤ 512) : layL x = putL 0 4 ++ tailR x (trim x.recs) := by
  rw [layL_eq h, headL_eq]; unfold tailR; simp only [List.append_assoc]
structure Heads (x : Leaf) (l : List UInt8) (n : Nat) : Prop where
  lsn : getN l 4 6 = x.lsn
  kind : getN l 10 1 = x.kind
  link : getN l 12 3 = x.link
  count : getN l 15 2 = n
theorem headT_reads (h : List UInt8) (hh : h.length = 4) (x : Leaf) (hx : Small x) (n a : Nat) (hn : n < 65536) (b : List UInt8) : Heads x (h ++ (headT x n a ++ b)) n := by
  obtain ⟨h1, h2, h3⟩ := hx
  constructor
  · exact getN_app' _ h (putL x.kind 1 ++ (putL 0 1 ++ (putL x.link 3 ++ (putL n 2 ++ (putL a 2 ++ b))))) _ _ _ (by simp [headT]) (by simp [hh]) (by omega)
  · exact getN_app' _ (h ++ putL x.lsn 6) (putL 0 1 ++ (putL x.link 3 ++ (putL n 2 ++ (putL a 2 ++ b)))) _ _ _ (by simp [headT]) (by simp [putL_length, hh]) (by omega)
  · exact getN_app' _ (h ++ putL x.lsn 6 ++ putL x.kind 1 ++ putL 0 1) (putL n 2 ++ (putL a 2 ++ b)) _ _ _ (by simp [headT]) (by simp [putL_length, hh]) (by omega)
  · exact getN_app' _ (h ++ putL x.lsn 6 ++ putL x.kind 1 ++ putL 0 1 ++ putL x.link 3) (putL a 2 ++ b) _ _ _ (by simp [headT]) (by simp [putL_length, hh]) (by omega)

theorem slotL_eq (a : Nat) (r : ByteArray) : slotL a r = putL (if r.size = 0 then 0 else a - r.size) 2 ++ putL r.size 2 := by
  unfold slotL
  by_cases h : r.size = 0
  · rw [if_pos h, if_pos h, h]; rfl
  · rw [if_neg h, if_neg h]

theorem slotsL_split (rs : List ByteArray) (k : Nat) (h : k < rs.length) : slotsL 512 rs = slotsL 512 (rs.take k) ++ (slotL (512 - sumSizes (rs.take k)) rs[k] ++ slotsL (512 - sumSizes (rs.take k) - rs[k].size) (rs.drop (k + 1))) := by
  have h1 : rs = rs.take k ++ rs[k] :: rs.drop (k + 1) := by rw [← List.drop_eq_getElem_cons h, List.take_append_drop]
  conv => lhs; rw [h1]
  rw [slotsL_append]; rfl
theorem bodyL_split (rs : List ByteArray) (k : Nat) (h : k < rs.length) : bodyL rs = bodyL (rs.drop (k + 1)) ++ (rs[k].data.toList ++ bodyL (rs.take k)) := by
  have h1 : rs = rs.take k ++ rs[k] :: rs.drop (k + 1) := by rw [← List.drop_eq_getElem_cons h, List.take_append_drop]
  conv => lhs; rw [h1]
  rw [bodyL_append]; simp [bodyL]
theorem sumSizes_split (rs : List ByteArray) (k : Nat) (h : k < rs.length) : sumSizes rs = sumSizes (rs.take k) + rs[k].size + sumSizes (rs.drop (k + 1)) := by
  have h1 : rs = rs.take k ++ rs[k] :: rs.drop (k + 1) := by rw [← List.drop_eq_getElem_cons h, List.take_append_drop]
  conv => lhs; rw [h1]
  rw [sumSizes_append]; simp [sumSizes]; omega

theorem recsOf_lay (h : List UInt8) (hh : h.length = 4) (x : Leaf) (rs : List ByteArray) (hs : sizeN rs ≤ 512) (he : ∀ r ∈ rs, r.size ≤ 400) :
    ∀ k, k ≤ rs.length → recsOf (h ++ tailR x rs) k = some (rs.take k) := by
  intro k
  induction k with
  | zero => intro _; simp [recsOf]
  | succ k ih =>
    intro hk
    have hk' : k < rs.length := by omega
    unfold recsOf
    rw [ih (by omega)]
    simp only
    have hsum := sumSizes_split rs k hk'
    have hz : sizeN rs = 19 + 4 * rs.length + sumSizes rs := rfl
    have hr4 : rs[k].size ≤ 400 := he _ (List.getElem_mem hk')
    have hsp := slotsL_split rs k hk'
    have hbs := bodyL_split rs k hk'
    have hse := slotL_eq (512 - sumSizes (rs.take k)) rs[k]
    have hl1 : (slotsL 512 (rs.take k)).length = 4 * k := by rw [slotsL_length, List.length_take]; omega
    have g1 : getN (h ++ tailR x rs) (19 + 4 * k) 2 = if rs[k].size = 0 then 0 else 512 - sumSizes (rs.take k) - rs[k].size := by
      refine getN_app' _ (h ++ headT x rs.length (512 - sumSizes rs) ++ slotsL 512 (rs.take k)) (putL rs[k].size 2 ++ (slotsL (512 - sumSizes (rs.take k) - rs[k].size) (rs.drop (k + 1)) ++ (List.replicate (512 - sizeN rs) 0 ++ bodyL rs))) _ _ _ ?_ ?_ ?_
      · unfold tailR; rw [hsp, hse]; simp only [List.append_assoc]
      · rw [List.length_append, List.length_append, headT_length, hl1, hh]
      · split <;> omega
    have g2 : getN (h ++ tailR x rs) (21 + 4 * k) 2 = rs[k].size := by
      refine getN_app' _ (h ++ headT x rs.length (512 - sumSizes rs) ++ slotsL 512 (rs.take k) ++ putL (if rs[k].size = 0 then 0 else 512 - sumSizes (rs.take k) - rs[k].size) 2) (slotsL (512 - sumSizes (rs.take k) - rs[k].size) (rs.drop (k + 1)) ++ (List.replicate (512 - sizeN rs) 0 ++ bodyL rs)) _ _ _ ?_ ?_ ?_
      · unfold tailR; rw [hsp, hse]; simp only [List.append_assoc]
      · rw [List.length_append, List.length_append, List.length_append, headT_length, hl1, putL_length, hh]; omega
      · omega
    rw [g1, g2]
    rw [if_neg (by split <;> omega)]
    rw [List.take_succ_eq_append_getElem hk']
    congr 2
    by_cases h0 : rs[k].size = 0
    · rw [h0]
      have : rs[k] = ⟨#[]⟩ := by apply ByteArray.ext; exact Array.eq_empty_of_size_eq_zero h0
      rw [this]; rfl
    · rw [if_neg h0]
      have hpre : (h ++ (headT x rs.length (512 - sumSizes rs) ++ (slotsL 512 rs ++ (List.replicate (512 - sizeN rs) 0 ++ bodyL (rs.drop (k + 1)))))).length = 512 - sumSizes (rs.take k) - rs[k].size := by
        simp only [List.length_append, headT_length, slotsL_length, List.length_replicate, bodyL_length, hh]; omega
      have hsplit : h ++ tailR x rs = (h ++ (headT x rs.length (512 - sumSizes rs) ++ (slotsL 512 rs ++ (List.replicate (512 - sizeN rs) 0 ++ bodyL (rs.drop (k + 1)))))) ++ (rs[k].data.toList ++ bodyL (rs.take k)) := by
        unfold tailR
        conv => lhs; rw [hbs]
        simp only [List.append_assoc]
      rw [hsplit, ← hpre, List.drop_left, List.take_left' (by simp)]

/-- A page that was laid is read back, whatever its sum. -/
theorem rd_tail (h : List UInt8) (hh : h.length = 4) {x : Leaf} (hx : Small x) (rs : List ByteArray) (hs : sizeN rs ≤ 512) (he : ∀ r ∈ rs, r.size ≤ 400) : rd (h ++ tailR x rs) = some { x with recs := rs } := by
  have hz : sizeN rs = 19 + 4 * rs.length + sumSizes rs := rfl
  have hd := headT_reads h hh x hx rs.length (512 - sumSizes rs) (by omega) (slotsL 512 rs ++ (List.replicate (512 - sizeN rs) 0 ++ bodyL rs))
  have hr := recsOf_lay h hh x rs hs he rs.length (Nat.le_refl _)
  rw [List.take_length] at hr
  have hl : (h ++ tailR x rs).length = 512 := by rw [List.length_append, tailR_length x rs hs, hh]
  change Heads x (h ++ tailR x rs) rs.length at hd
  unfold rd
  rw [hd.kind, hd.count, hd.lsn, hd.link, hl, if_neg (by have := hx.2.1; omega), hr]
  rfl
theorem trim_of_tight {rs : List ByteArray} (h : Tight rs) : trim rs = rs := (trim_tight rs).2 h
theorem right_tail (h : List UInt8) (hh : h.length = 4) {x : Leaf} (hx : Small x) (rs : List ByteArray) (hs : sizeN rs ≤ 512) (he : ∀ r ∈ rs, r.size ≤ 400) (ht : Tight rs) : right (h ++ tailR x rs) = some { x with recs := rs } := by
  rw [right_some]
  refine ⟨rd_tail h hh hx rs hs he, ?_⟩
  have h1 : trim ({ x with recs := rs } : Leaf).recs = rs := trim_of_tight ht
  rw [layL_tail (x := { x with recs := rs }) (by rw [h1]; exact hs), h1, ← hh, List.drop_left]
  rfl
theorem right_layL {x : Leaf} (hx : Small x) (hs : sizeN (trim x.recs) ≤ 512) (he : ∀ r ∈ x.recs, r.size ≤ 400) : right (layL x) = some { x with recs := trim x.recs } := by
  rw [layL_tail hs]
  exact right_tail _ (putL_length 0 4) hx _ hs (fun r hr => he r (List.mem_of_mem_take hr)) (trim_trim _)
/-- A page's own records. -/
theorem right_tight {p : List UInt8} {x : Leaf} (h : right p = some x) : Tight x.recs ∧ sizeN x.recs ≤ 512 := by
  obtain ⟨h1, h2⟩ := right_some.1 h
  obtain ⟨hf, h512⟩ := rd_fine h1
  have hlen : (layL x).length = 512 := by
    rw [h2, List.length_append, putL_length, List.length_drop, h512]
  have hs : sizeN (trim x.recs) ≤ 512 := by
    rcases Nat.lt_or_ge 512 (sizeN (trim x.recs)) with h3 | h3
    · have : layL x = [] := by unfold layL layR; rw [if_pos h3]
      rw [this] at hlen; cases hlen
    · exact h3
  have hd := headT_reads (putL 0 4) (putL_length 0 4) x hf.small (trim x.recs).length (512 - sumSizes (trim x.recs)) (by have : sizeN (trim x.recs) = 19 + 4 * (trim x.recs).length + sumSizes (trim x.recs) := rfl; omega) (slotsL 512 (trim x.recs) ++ (List.replicate (512 - sizeN (trim x.recs)) 0 ++ bodyL (trim x.recs)))
  change Heads x (putL 0 4 ++ tailR x (trim x.recs)) _ at hd
  rw [← layL_tail hs] at hd
  have hc := hd.count
  have hcp : getN (layL x) 15 2 = getN p 15 2 := by
    rw [h2]
    unfold getN
    rw [show 15 = 4 + 11 from rfl, ← List.drop_drop, ← List.drop_drop, List.drop_left' (putL_length 0 4)]
  have hn : x.recs.length = getN p 15 2 := by
    unfold rd at h1
    split at h1
    · cases h1
    · cases hr : recsOf p (getN p 15 2) with
      | none => rw [hr] at h1; cases h1
      | some rs =>
        rw [hr] at h1
        injection h1 with h1
        rw [← h1]
        exact recsOf_length p _ rs hr
  have ht : trim x.recs = x.recs := by
    have h5 : (trim x.recs).length = x.recs.length := by rw [hn, ← hcp, hc]
    unfold trim at h5 ⊢
    rw [List.length_take] at h5
    exact List.take_of_length_le (by omega)
  exact ⟨(trim_tight _).1 ht, by rw [ht] at hs; exact hs⟩
/-- A page's bytes: its sum, and what its parts say. -/
theorem right_bytes {p : List UInt8} {x : Leaf} (h : right p = some x) : p = p.take 4 ++ tailR x x.recs := by
  obtain ⟨ht, hs⟩ := right_tight h
  have h1 : trim x.recs = x.recs := trim_of_tight ht
  have h2 := (right_some.1 h).2
  rw [layL_tail (by rw [h1]; exact hs), h1] at h2
  have h3 := List.append_cancel_left h2
  rw [h3, List.take_append_drop]
/-- What a page says does not hang on its sum. -/
theorem right_sum {p q : List UInt8} {x : Leaf} (h : right p = some x) (hl : q.length = 512) (hd : q.drop 4 = p.drop 4) : right q = some x := by
  obtain ⟨ht, hs⟩ := right_tight h
  have h5 := (right_fine h).2
  have hb := right_bytes h
  have h1 : p.drop 4 = tailR x x.recs := by
    conv => lhs; rw [hb]
    exact List.drop_left' (by rw [List.length_take]; omega)
  rw [← List.take_append_drop 4 q, hd, h1]
  exact right_tail _ (by rw [List.length_take]; omega) (right_fine h).1.small _ hs (right_fine h).1.each ht
end Pg
