import Derived.Test.YtmebkghdkeeobaaGreatDoorHo00
import Derived.Test.YtmebkghdkeeobaaGreatDoorHo01
import Derived.Deep.QuietTactic
import Derived.BigQuiet
import Derived.Deep.DeepCutAuto
import Derived.Deep.LoopGhost
import Derived.Deep.RegionHeld3
import Derived.Deep.AppendLies
import Derived.Laws.ResultCell
import Derived.Laws.Tables
import Derived.BigRegion
import Derived.IntWalk
import Derived.Maps.AppendAt
import Derived.OwnWalk
import Derived.Deep.MidRow
set_option maxRecDepth 100000
set_option maxHeartbeats 16000000
set_option linter.unusedSimpArgs false
namespace Pg
open Oct
structure Leaf where
  lsn : Nat
  kind : Nat
  link : Nat
  recs : List ByteArray
def Small (x : Leaf) : Prop := x.lsn < 281474976710656 ∧ x.kind ≤ 4 ∧ x.link < 16777216
def zero : Leaf := ⟨0, 0, 0, []⟩
def sumSizes : List ByteArray → Nat
  | [] => 0
  | r :: rs => r.size + sumSizes rs
theorem sumSizes_append (a b : List ByteArray) : sumSizes (a ++ b) = sumSizes a + sumSizes b := by
  induction a with
  | nil => simp [sumSizes]
  | cons r a ih => simp [sumSizes, ih]; omega
theorem sumSizes_take_le (rs : List ByteArray) (k : Nat) : sumSizes (rs.take k) ≤ sumSizes rs := by
  have h := sumSizes_append (rs.take k) (rs.drop k)
  rw [List.take_append_drop] at h
  omega
theorem sumSizes_snoc (rs : List ByteArray) (k : Nat) (h : k < rs.length) : sumSizes (rs.take (k + 1)) = sumSizes (rs.take k) + rs[k].size := by
  rw [List.take_succ_eq_append_getElem h, sumSizes_append]; simp [sumSizes]
def sizeN (rs : List ByteArray) : Nat := 19 + 4 * rs.length + sumSizes rs
def trimN (rs : List ByteArray) : Nat → Nat
  | 0 => 0
  | m + 1 => if (rs[m]?.getD ⟨#[]⟩).size = 0 then trimN rs m else m + 1
theorem trimN_le (rs : List ByteArray) (m : Nat) : trimN rs m ≤ m := by
  induction m with
  | zero => exact Nat.le_refl _
  | succ m ih => unfold trimN; split <;> omega
def trim (rs : List ByteArray) : List ByteArray := rs.take (trimN rs rs.length)
def slotL (at_ : Nat) (r : ByteArray) : List UInt8 := if r.size = 0 then putL 0 4 else putL (at_ - r.size) 2 ++ putL r.size 2
def slotsL (at_ : Nat) : List ByteArray → List UInt8
  | [] => []
  | r :: rs => slotL at_ r ++ slotsL (at_ - r.size) rs
theorem slotsL_append (a b : List ByteArray) : ∀ at_ : Nat, slotsL at_ (a ++ b) = slotsL at_ a ++ slotsL (at_ - sumSizes a) b := by
  induction a with
  | nil => intro at_; simp [slotsL, sumSizes]
  | cons r a ih => intro at_; simp only [List.cons_append, slotsL, ih, sumSizes, List.append_assoc, Nat.sub_sub]
theorem slotsL_snoc (rs : List ByteArray) (k : Nat) (h : k < rs.length) : slotsL 512 (rs.take (k + 1)) = slotsL 512 (rs.take k) ++ slotL (512 - sumSizes (rs.take k)) rs[k] := by
  rw [List.take_succ_eq_append_getElem h, slotsL_append]; simp [slotsL]
theorem slotL_length (at_ : Nat) (r : ByteArray) : (slotL at_ r).length = 4 := by
  unfold slotL; split <;> simp [putL_length]
theorem slotsL_length (rs : List ByteArray) : ∀ at_, (slotsL at_ rs).length = 4 * rs.length := by
  induction rs with
  | nil => intro _; rfl
  | cons r rs ih => intro at_; simp [slotsL, slotL_length, ih]; omega
def bodyL : List ByteArray → List UInt8
  | [] => []
  | r :: rs => bodyL rs ++ r.data.toList
theorem bodyL_length (rs : List ByteArray) : (bodyL rs).length = sumSizes rs := by
  induction rs with
  | nil => rfl
  | cons r rs ih => simp [bodyL, sumSizes, ih]; omega
theorem bodyL_drop (rs : List ByteArray) (k : Nat) (h : k < rs.length) : bodyL (rs.drop k) = bodyL (rs.drop (k + 1)) ++ rs[k].data.toList := by
  rw [List.drop_eq_getElem_cons h]; rfl
theorem bodyL_append (a b : List ByteArray) : bodyL (a ++ b) = bodyL b ++ bodyL a := by
  induction a with
  | nil => simp [bodyL]
  | cons r a ih => simp [bodyL, ih]
def headL (x : Leaf) (n at_ : Nat) : List UInt8 := putL 0 4 ++ putL x.lsn 6 ++ putL x.kind 1 ++ putL 0 1 ++ putL x.link 3 ++ putL n 2 ++ putL at_ 2
theorem headL_length (x : Leaf) (n at_ : Nat) : (headL x n at_).length = 19 := by simp [headL, putL_length]
def layR (x : Leaf) (rs : List ByteArray) : List UInt8 :=
  if 512 < sizeN rs then [] else headL x rs.length (512 - sumSizes rs) ++ slotsL 512 rs ++ List.replicate (512 - sizeN rs) 0 ++ bodyL rs
def layL (x : Leaf) : List UInt8 := layR x (trim x.recs)
theorem layR_length (x : Leaf) (rs : List ByteArray) (h : ¬ 512 < sizeN rs) : (layR x rs).length = 512 := by
  rw [layR, if_neg h]
  simp [headL_length, slotsL_length, bodyL_length]
  unfold sizeN at h ⊢; omega
def recsOf (p : List UInt8) : Nat → Option (List ByteArray)
  | 0 => some []
  | k + 1 => match recsOf p k with
    | none => none
    | some rs =>
      if 400 < getN p (21 + 4 * k) 2 ∨ 512 < getN p (19 + 4 * k) 2 + getN p (21 + 4 * k) 2 then none
      else some (rs ++ [⟨((p.drop (getN p (19 + 4 * k) 2)).take (getN p (21 + 4 * k) 2)).toArray⟩])
theorem recsOf_length (p : List UInt8) : ∀ (k : Nat) (rs : List ByteArray), recsOf p k = some rs → rs.length = k := by
  intro k
  induction k with
  | zero => intro rs h; simp [recsOf] at h; rw [h]; rfl
  | succ k ih =>
    intro rs h
    unfold recsOf at h
    split at h
    · cases h
    · rename_i r0 h0
      split at h
      · cases h
      · injection h with h
        rw [← h, List.length_append, ih _ h0]; rfl
theorem recsOf_none (p : List UInt8) {k : Nat} (h : recsOf p k = none) : ∀ j, recsOf p (k + j) = none := by
  intro j
  induction j with
  | zero => exact h
  | succ j ih =>
    show recsOf p ((k + j) + 1) = none
    simp only [recsOf, ih]
def rd (p : List UInt8) : Option Leaf :=
  if p.length ≠ 512 ∨ 4 < getN p 10 1 ∨ 123 < getN p 15 2 then none
  else (recsOf p (getN p 15 2)).map fun rs => ⟨getN p 4 6, getN p 10 1, getN p 12 3, rs⟩
def right (p : List UInt8) : Option Leaf := (rd p).filter fun x => decide (layL x = putL 0 4 ++ p.drop 4)
def leafOf (p : List UInt8) : Leaf := (right p).getD zero
theorem getN_pow (s : List UInt8) (a k : Nat) : Oct.getN s a k < 256 ^ k := by
  have h1 := Oct.getL_lt ((s.drop a).take k)
  have h2 : 256 ^ ((s.drop a).take k).length ≤ 256 ^ k := Nat.pow_le_pow_right (by omega) (by rw [List.length_take]; omega)
  unfold Oct.getN; omega
theorem recsOf_sizes (p : List UInt8) : ∀ (k : Nat) (rs : List ByteArray), recsOf p k = some rs → ∀ r ∈ rs, r.size ≤ 400 := by
  intro k
  induction k with
  | zero => intro rs h; simp [recsOf] at h; subst h; intro r hr; cases hr
  | succ k ih =>
    intro rs h
    unfold recsOf at h
    split at h
    · cases h
    · rename_i r0 h0
      split at h
      · cases h
      · rename_i hc
        injection h with h
        intro r hr
        rw [← h, List.mem_append] at hr
        rcases hr with hr | hr
        · exact ih r0 h0 r hr
        · rw [List.mem_singleton.1 hr]
          simp [ByteArray.size]
          omega
theorem sumSizes_le (rs : List ByteArray) (m : Nat) (h : ∀ r ∈ rs, r.size ≤ m) : sumSizes rs ≤ m * rs.length := by
  induction rs with
  | nil => simp [sumSizes]
  | cons r rs ih =>
    have h1 := h r (by simp)
    have h2 := ih (fun r hr => h r (by simp [hr]))
    simp only [sumSizes, List.length_cons, Nat.mul_succ]
    omega
structure Fine (x : Leaf) : Prop where
  small : Small x
  len : x.recs.length ≤ 123
  each : ∀ r ∈ x.recs, r.size ≤ 400
theorem Fine.sum {x : Leaf} (h : Fine x) : sumSizes x.recs ≤ 49200 := by
  have := sumSizes_le x.recs 400 h.each
  have := h.len
  omega
theorem Fine.sizeN {x : Leaf} (h : Fine x) : Pg.sizeN x.recs ≤ 60000 := by
  have := h.sum
  have := h.len
  unfold Pg.sizeN; omega
theorem zero_fine : Fine zero := ⟨⟨by decide, by decide, by decide⟩, by decide, by intro r hr; cases hr⟩
theorem rd_fine {p : List UInt8} {x : Leaf} (h : rd p = some x) : Fine x ∧ p.length = 512 := by
  unfold rd at h
  split at h
  · cases h
  · rename_i hc
    cases hr : recsOf p (getN p 15 2) with
    | none => rw [hr] at h; cases h
    | some rs =>
      rw [hr] at h
      injection h with h
      subst h
      have h1 := getN_pow p 4 6
      have h2 := getN_pow p 12 3
      refine ⟨⟨⟨by simpa using h1, (by show getN p 10 1 ≤ 4; omega), by simpa using h2⟩, (by show rs.length ≤ 123; rw [recsOf_length p _ rs hr]; omega), recsOf_sizes p _ rs hr⟩, by omega⟩
theorem right_some {p : List UInt8} {x : Leaf} : right p = some x ↔ rd p = some x ∧ layL x = putL 0 4 ++ p.drop 4 := by
  unfold right
  rw [Option.filter_eq_some_iff, decide_eq_true_iff]
theorem right_of {p : List UInt8} {x : Leaf} (h : rd p = some x) : right p = if decide (layL x = putL 0 4 ++ p.drop 4) then some x else none := by
  unfold right
  rw [h]; rfl
theorem right_none_of {p : List UInt8} (h : rd p = none) : right p = none := by unfold right; rw [h]; rfl
theorem right_fine {p : List UInt8} {x : Leaf} (h : right p = some x) : Fine x ∧ p.length = 512 := rd_fine (right_some.1 h).1
theorem leafOf_fine (p : List UInt8) : Fine (leafOf p) := by
  unfold leafOf
  cases h : right p with
  | none => exact zero_fine
  | some x => exact (right_fine h).1
def slotAt (rs : List ByteArray) (i : Int) : ByteArray := if i < 0 then ⟨#[]⟩ else (rs[i.toNat]?).getD ⟨#[]⟩
theorem slotAt_neg {rs : List ByteArray} {i : Int} (h : i < 0) : slotAt rs i = ⟨#[]⟩ := if_pos h
theorem slotAt_past {rs : List ByteArray} {i : Int} (h : (rs.length : Int) ≤ i) : slotAt rs i = ⟨#[]⟩ := by
  unfold slotAt
  rw [if_neg (by omega), List.getElem?_eq_none (by omega)]; rfl
theorem slotAt_in {rs : List ByteArray} {k : Nat} (h : k < rs.length) : slotAt rs (k : Int) = rs[k] := by
  unfold slotAt
  rw [if_neg (by omega), show ((k : Int).toNat) = k from rfl, List.getElem?_eq_getElem h]; rfl
theorem getN_app (a b : List UInt8) (u k : Nat) (h : u < 256 ^ k) : getN (a ++ (putL u k ++ b)) a.length k = u := by
  unfold getN
  rw [List.drop_left, List.take_left' (putL_length u k), getL_putL, Nat.mod_eq_of_lt h]
theorem getN_app' (l a b : List UInt8) (n u k : Nat) (hl : l = a ++ (putL u k ++ b)) (hn : a.length = n) (h : u < 256 ^ k) : getN l n k = u := by
  rw [hl, ← hn]; exact getN_app a b u k h
def Tight (rs : List ByteArray) : Prop := ∀ r, rs.getLast? = some r → r.size ≠ 0
theorem trim_tight (rs : List ByteArray) : trim rs = rs ↔ Tight rs := by
  have h0 : trim rs = rs ↔ trimN rs rs.length = rs.length := by
    unfold trim
    constructor
    · intro h
      have h1 := congrArg List.length h
      rw [List.length_take] at h1
      have := trimN_le rs rs.length
      omega
    · intro h; rw [h, List.take_length]
  rw [h0]
  unfold Tight
  rw [List.getLast?_eq_getElem?]
  rcases hm : rs.length with _ | m
  · simp [trimN, hm]
  · have hlt : m < rs.length := by omega
    have hg : rs[m]? = some rs[m] := List.getElem?_eq_getElem hlt
    simp only [Nat.add_sub_cancel, hg, Option.some.injEq, forall_eq', trimN, Option.getD_some]
    constructor
    · intro h hz
      rw [if_pos hz] at h
      have := trimN_le rs m
      omega
    · intro h; rw [if_neg h]
theorem trim_trim (rs : List ByteArray) : Tight (trim rs) := by
  unfold trim
  have key : ∀ m, m ≤ rs.length → Tight (rs.take (trimN rs m)) := by
    intro m
    induction m with
    | zero => intro _ r hr; simp [trimN] at hr
    | succ m ih =>
      intro hm
      unfold trimN
      split
      · exact ih (by omega)
      · rename_i h
        intro r hr
        rw [List.getLast?_eq_getElem?, List.length_take, Nat.min_eq_left hm, Nat.add_sub_cancel, List.getElem?_take_of_lt (by omega)] at hr
        rw [hr] at h
        exact h
  exact key _ (Nat.le_refl _)
theorem layL_eq {x : Leaf} (h : sizeN (trim x.recs) ≤ 512) : layL x = headL x (trim x.recs).length (512 - sumSizes (trim x.recs)) ++ slotsL 512 (trim x.recs) ++ List.replicate (512 - sizeN (trim x.recs)) 0 ++ bodyL (trim x.recs) := by
  unfold layL layR
  rw [if_neg (by omega)]
def headT (x : Leaf) (n a : Nat) : List UInt8 := putL x.lsn 6 ++ (putL x.kind 1 ++ (putL 0 1 ++ (putL x.link 3 ++ (putL n 2 ++ putL a 2))))
theorem headL_eq (x : Leaf) (n a : Nat) : headL x n a = putL 0 4 ++ headT x n a := by unfold headL headT; simp only [List.append_assoc]
theorem headT_length (x : Leaf) (n a : Nat) : (headT x n a).length = 15 := by simp [headT, putL_length]
def tailR (x : Leaf) (rs : List ByteArray) : List UInt8 := headT x rs.length (512 - sumSizes rs) ++ (slotsL 512 rs ++ (List.replicate (512 - sizeN rs) 0 ++ bodyL rs))
theorem tailR_length (x : Leaf) (rs : List ByteArray) (h : sizeN rs ≤ 512) : (tailR x rs).length = 508 := by
  unfold tailR
  simp only [List.length_append, headT_length, slotsL_length, List.length_replicate, bodyL_length]
  have hz : sizeN rs = 19 + 4 * rs.length + sumSizes rs := rfl
  omega
theorem layL_tail {x : Leaf} (h : sizeN (trim x.recs) ≤ 512) : layL x = putL 0 4 ++ tailR x (trim x.recs) := by
  rw [layL_eq h, headL_eq]; unfold tailR; simp only [List.append_assoc]
structure Heads (x : Leaf) (l : List UInt8) (n : Nat) : Prop where
  lsn : getN l 4 6 = x.lsn
  kind : getN l 10 1 = x.kind
  link : getN l 12 3 = x.link
  count : getN l 15 2 = n
theorem headT_reads (h : List UInt8) (hh : h.length = 4) (x : Leaf) (hx : Small x) (n a : Nat) (hn : n < 65536) (b : List UInt8) : Heads x (h ++ (headT x n a ++ b)) n := by
  obtain ⟨h1, h2, h3⟩ := hx
  constructor
  · exact getN_app' _ h (putL x.kind 1 ++ (putL 0 1 ++ (putL x.link 3 ++ (putL n 2 ++ (putL a 2 ++ b))))) _ _ _ (by simp [headT]) (by simp [hh]) (by omega)
  · exact getN_app' _ (h ++ putL x.lsn 6) (putL 0 1 ++ (putL x.link 3 ++ (putL n 2 ++ (putL a 2 ++ b)))) _ _ _ (by simp [headT]) (by simp [putL_length, hh]) (by omega)
  · exact getN_app' _ (h ++ putL x.lsn 6 ++ putL x.kind 1 ++ putL 0 1) (putL n 2 ++ (putL a 2 ++ b)) _ _ _ (by simp [headT]) (by simp [putL_length, hh]) (by omega)
  · exact getN_app' _ (h ++ putL x.lsn 6 ++ putL x.kind 1 ++ putL 0 1 ++ putL x.link 3) (putL a 2 ++ b) _ _ _ (by simp [headT]) (by simp [putL_length, hh]) (by omega)
theorem slotL_eq (a : Nat) (r : ByteArray) : slotL a r = putL (if r.size = 0 then 0 else a - r.size) 2 ++ putL r.size 2 := by
  unfold slotL
  by_cases h : r.size = 0
  · rw [if_pos h, if_pos h, h]; rfl
  · rw [if_neg h, if_neg h]
theorem slotsL_split (rs : List ByteArray) (k : Nat) (h : k < rs.length) : slotsL 512 rs = slotsL 512 (rs.take k) ++ (slotL (512 - sumSizes (rs.take k)) rs[k] ++ slotsL (512 - sumSizes (rs.take k) - rs[k].size) (rs.drop (k + 1))) := by
  have h1 : rs = rs.take k ++ rs[k] :: rs.drop (k + 1) := by rw [← List.drop_eq_getElem_cons h, List.take_append_drop]
  conv => lhs; rw [h1]
  rw [slotsL_append]; rfl
theorem bodyL_split (rs : List ByteArray) (k : Nat) (h : k < rs.length) : bodyL rs = bodyL (rs.drop (k + 1)) ++ (rs[k].data.toList ++ bodyL (rs.take k)) := by
  have h1 : rs = rs.take k ++ rs[k] :: rs.drop (k + 1) := by rw [← List.drop_eq_getElem_cons h, List.take_append_drop]
  conv => lhs; rw [h1]
  rw [bodyL_append]; simp [bodyL]
theorem sumSizes_split (rs : List ByteArray) (k : Nat) (h : k < rs.length) : sumSizes rs = sumSizes (rs.take k) + rs[k].size + sumSizes (rs.drop (k + 1)) := by
  have h1 : rs = rs.take k ++ rs[k] :: rs.drop (k + 1) := by rw [← List.drop_eq_getElem_cons h, List.take_append_drop]
  conv => lhs; rw [h1]
  rw [sumSizes_append]; simp [sumSizes]; omega
theorem recsOf_lay (h : List UInt8) (hh : h.length = 4) (x : Leaf) (rs : List ByteArray) (hs : sizeN rs ≤ 512) (he : ∀ r ∈ rs, r.size ≤ 400) :
    ∀ k, k ≤ rs.length → recsOf (h ++ tailR x rs) k = some (rs.take k) := by
  intro k
  induction k with
  | zero => intro _; simp [recsOf]
  | succ k ih =>
    intro hk
    have hk' : k < rs.length := by omega
    unfold recsOf
    rw [ih (by omega)]
    simp only
    have hsum := sumSizes_split rs k hk'
    have hz : sizeN rs = 19 + 4 * rs.length + sumSizes rs := rfl
    have hr4 : rs[k].size ≤ 400 := he _ (List.getElem_mem hk')
    have hsp := slotsL_split rs k hk'
    have hbs := bodyL_split rs k hk'
    have hse := slotL_eq (512 - sumSizes (rs.take k)) rs[k]
    have hl1 : (slotsL 512 (rs.take k)).length = 4 * k := by rw [slotsL_length, List.length_take]; omega
    have g1 : getN (h ++ tailR x rs) (19 + 4 * k) 2 = if rs[k].size = 0 then 0 else 512 - sumSizes (rs.take k) - rs[k].size := by
      refine getN_app' _ (h ++ headT x rs.length (512 - sumSizes rs) ++ slotsL 512 (rs.take k)) (putL rs[k].size 2 ++ (slotsL (512 - sumSizes (rs.take k) - rs[k].size) (rs.drop (k + 1)) ++ (List.replicate (512 - sizeN rs) 0 ++ bodyL rs))) _ _ _ ?_ ?_ ?_
      · unfold tailR; rw [hsp, hse]; simp only [List.append_assoc]
      · rw [List.length_append, List.length_append, headT_length, hl1, hh]
      · split <;> omega
    have g2 : getN (h ++ tailR x rs) (21 + 4 * k) 2 = rs[k].size := by
      refine getN_app' _ (h ++ headT x rs.length (512 - sumSizes rs) ++ slotsL 512 (rs.take k) ++ putL (if rs[k].size = 0 then 0 else 512 - sumSizes (rs.take k) - rs[k].size) 2) (slotsL (512 - sumSizes (rs.take k) - rs[k].size) (rs.drop (k + 1)) ++ (List.replicate (512 - sizeN rs) 0 ++ bodyL rs)) _ _ _ ?_ ?_ ?_
      · unfold tailR; rw [hsp, hse]; simp only [List.append_assoc]
      · rw [List.length_append, List.length_append, List.length_append, headT_length, hl1, putL_length, hh]; omega
      · omega
    rw [g1, g2]
    rw [if_neg (by split <;> omega)]
    rw [List.take_succ_eq_append_getElem hk']
    congr 2
    by_cases h0 : rs[k].size = 0
    · rw [h0]
      have : rs[k] = ⟨#[]⟩ := by apply ByteArray.ext; exact Array.eq_empty_of_size_eq_zero h0
      rw [this]; rfl
    · rw [if_neg h0]
      have hpre : (h ++ (headT x rs.length (512 - sumSizes rs) ++ (slotsL 512 rs ++ (List.replicate (512 - sizeN rs) 0 ++ bodyL (rs.drop (k + 1)))))).length = 512 - sumSizes (rs.take k) - rs[k].size := by
        simp only [List.length_append, headT_length, slotsL_length, List.length_replicate, bodyL_length, hh]; omega
      have hsplit : h ++ tailR x rs = (h ++ (headT x rs.length (512 - sumSizes rs) ++ (slotsL 512 rs ++ (List.replicate (512 - sizeN rs) 0 ++ bodyL (rs.drop (k + 1)))))) ++ (rs[k].data.toList ++ bodyL (rs.take k)) := by
        unfold tailR
        conv => lhs; rw [hbs]
        simp only [List.append_assoc]
      rw [hsplit, ← hpre, List.drop_left, List.take_left' (by simp)]
theorem rd_tail (h : List UInt8) (hh : h.length = 4) {x : Leaf} (hx : Small x) (rs : List ByteArray) (hs : sizeN rs ≤ 512) (he : ∀ r ∈ rs, r.size ≤ 400) : rd (h ++ tailR x rs) = some { x with recs := rs } := by
  have hz : sizeN rs = 19 + 4 * rs.length + sumSizes rs := rfl
  have hd := headT_reads h hh x hx rs.length (512 - sumSizes rs) (by omega) (slotsL 512 rs ++ (List.replicate (512 - sizeN rs) 0 ++ bodyL rs))
  have hr := recsOf_lay h hh x rs hs he rs.length (Nat.le_refl _)
  rw [List.take_length] at hr
  have hl : (h ++ tailR x rs).length = 512 := by rw [List.length_append, tailR_length x rs hs, hh]
  change Heads x (h ++ tailR x rs) rs.length at hd
  unfold rd
  rw [hd.kind, hd.count, hd.lsn, hd.link, hl, if_neg (by have := hx.2.1; omega), hr]
  rfl
theorem trim_of_tight {rs : List ByteArray} (h : Tight rs) : trim rs = rs := (trim_tight rs).2 h
theorem right_tail (h : List UInt8) (hh : h.length = 4) {x : Leaf} (hx : Small x) (rs : List ByteArray) (hs : sizeN rs ≤ 512) (he : ∀ r ∈ rs, r.size ≤ 400) (ht : Tight rs) : right (h ++ tailR x rs) = some { x with recs := rs } := by
  rw [right_some]
  refine ⟨rd_tail h hh hx rs hs he, ?_⟩
  have h1 : trim ({ x with recs := rs } : Leaf).recs = rs := trim_of_tight ht
  rw [layL_tail (x := { x with recs := rs }) (by rw [h1]; exact hs), h1, ← hh, List.drop_left]
  rfl
theorem right_layL {x : Leaf} (hx : Small x) (hs : sizeN (trim x.recs) ≤ 512) (he : ∀ r ∈ x.recs, r.size ≤ 400) : right (layL x) = some { x with recs := trim x.recs } := by
  rw [layL_tail hs]
  exact right_tail _ (putL_length 0 4) hx _ hs (fun r hr => he r (List.mem_of_mem_take hr)) (trim_trim _)
theorem right_tight {p : List UInt8} {x : Leaf} (h : right p = some x) : Tight x.recs ∧ sizeN x.recs ≤ 512 := by
  obtain ⟨h1, h2⟩ := right_some.1 h
  obtain ⟨hf, h512⟩ := rd_fine h1
  have hlen : (layL x).length = 512 := by
    rw [h2, List.length_append, putL_length, List.length_drop, h512]
  have hs : sizeN (trim x.recs) ≤ 512 := by
    rcases Nat.lt_or_ge 512 (sizeN (trim x.recs)) with h3 | h3
    · have : layL x = [] := by unfold layL layR; rw [if_pos h3]
      rw [this] at hlen; cases hlen
    · exact h3
  have hd := headT_reads (putL 0 4) (putL_length 0 4) x hf.small (trim x.recs).length (512 - sumSizes (trim x.recs)) (by have : sizeN (trim x.recs) = 19 + 4 * (trim x.recs).length + sumSizes (trim x.recs) := rfl; omega) (slotsL 512 (trim x.recs) ++ (List.replicate (512 - sizeN (trim x.recs)) 0 ++ bodyL (trim x.recs)))
  change Heads x (putL 0 4 ++ tailR x (trim x.recs)) _ at hd
  rw [← layL_tail hs] at hd
  have hc := hd.count
  have hcp : getN (layL x) 15 2 = getN p 15 2 := by
    rw [h2]
    unfold getN
    rw [show 15 = 4 + 11 from rfl, ← List.drop_drop, ← List.drop_drop, List.drop_left' (putL_length 0 4)]
  have hn : x.recs.length = getN p 15 2 := by
    unfold rd at h1
    split at h1
    · cases h1
    · cases hr : recsOf p (getN p 15 2) with
      | none => rw [hr] at h1; cases h1
      | some rs =>
        rw [hr] at h1
        injection h1 with h1
        rw [← h1]
        exact recsOf_length p _ rs hr
  have ht : trim x.recs = x.recs := by
    have h5 : (trim x.recs).length = x.recs.length := by rw [hn, ← hcp, hc]
    unfold trim at h5 ⊢
    rw [List.length_take] at h5
    exact List.take_of_length_le (by omega)
  exact ⟨(trim_tight _).1 ht, by rw [ht] at hs; exact hs⟩
theorem right_bytes {p : List UInt8} {x : Leaf} (h : right p = some x) : p = p.take 4 ++ tailR x x.recs := by
  obtain ⟨ht, hs⟩ := right_tight h
  have h1 : trim x.recs = x.recs := trim_of_tight ht
  have h2 := (right_some.1 h).2
  rw [layL_tail (by rw [h1]; exact hs), h1] at h2
  have h3 := List.append_cancel_left h2
  rw [h3, List.take_append_drop]
theorem right_sum {p q : List UInt8} {x : Leaf} (h : right p = some x) (hl : q.length = 512) (hd : q.drop 4 = p.drop 4) : right q = some x := by
  obtain ⟨ht, hs⟩ := right_tight h
  have h5 := (right_fine h).2
  have hb := right_bytes h
  have h1 : p.drop 4 = tailR x x.recs := by
    conv => lhs; rw [hb]
    exact List.drop_left' (by rw [List.length_take]; omega)
  rw [← List.take_append_drop 4 q, hd, h1]
  exact right_tail _ (by rw [List.length_take]; omega) (right_fine h).1.small _ hs (right_fine h).1.each ht
end Pg
namespace Go.Proofs.YtmebkghdkeeobaaGreatDoor
open Go.RowKit
def Cells (w : World) (A : Option Addr) (c : Nat) (rs : List ByteArray) : Prop :=
  0 < rs.length → ∃ b off, A = some ⟨b, off, none⟩ ∧ rs.length ≤ c ∧ b < w.heap.size ∧ ∀ j (h : j < rs.length), w.cell? ⟨b, off + j, none⟩ = some (.string rs[j])
def StrsAt (w : World) (v : Value) (rs : List ByteArray) : Prop := ∃ A c, v = .slice A rs.length c ∧ Cells w A c rs
theorem Cells.below {w w' : World} {A : Option Addr} {c : Nat} {rs : List ByteArray} (h : Cells w A c rs) (hb : Below w.heap.size w w') : Cells w' A c rs := fun h0 => by
  obtain ⟨b, off, hA, hc, hlt, hcell⟩ := h h0
  refine ⟨b, off, hA, hc, Nat.lt_of_lt_of_le hlt hb.size, fun j hj => ?_⟩
  rw [hb.cell (p := ⟨b, off + j, none⟩) hlt]; exact hcell j hj
theorem Cells.at_ {w : World} {A : Option Addr} {c : Nat} {rs : List ByteArray} (h : Cells w A c rs) {k : Nat} (hk : k < rs.length) : ∃ b off, A = some ⟨b, off, none⟩ ∧ rs.length ≤ c ∧ b < w.heap.size ∧ w.cell? ⟨b, off + k, none⟩ = some (.string rs[k]) := by
  obtain ⟨b, off, hA, hc, hlt, hcell⟩ := h (by omega)
  exact ⟨b, off, hA, hc, hlt, hcell k hk⟩
theorem StrsAt.below {w w' : World} {v : Value} {rs : List ByteArray} (h : StrsAt w v rs) (hb : Below w.heap.size w w') : StrsAt w' v rs := by
  obtain ⟨A, c, hv, hC⟩ := h
  exact ⟨A, c, hv, hC.below hb⟩
theorem ret_int {k : IntKind} {a b : Int} (h : a = b) : Ending.returned (.int k a) = .returned (.int k b) := by rw [h]
theorem ret_str {a b : ByteArray} (h : a = b) : Ending.returned (.string a) = .returned (.string b) := by rw [h]
theorem andThen {a b c : World} (h : Below a.heap.size a b) (k : Below b.heap.size b c) : Below a.heap.size a c := h.trans (k.mono h.size)
theorem size_any (A : Option Addr) (c : Nat) (rs : List ByteArray) (hb : Pg.sizeN rs ≤ 1099511627776) (w : World) (h : Cells w A c rs) :
    Calls Tryz.prog 70 #[.slice A rs.length c] w fun e w' => e = .returned (.int .i64 (Pg.sizeN rs)) ∧ w = w' := by
  unfold Pg.sizeN at hb
  have HC := Lib.hid h
  clear h
  go_enter Tryz.func70, Tryz.ntmps70
  go_wp2_with fail
  go_loop [3, 12] (fun n i => ∃ k : Nat, k ≤ rs.length ∧ i = .int .i64 k ∧ n = .int .i64 ((19 + 4 * rs.length + Pg.sumSizes (rs.take k) : Nat) : Int)) (fun _ i => rs.length - (intOf i).toNat)
  case atStart => exact ⟨0, Nat.zero_le _, rfl, by simp [Pg.sumSizes]⟩
  case round =>
    obtain ⟨k, hk, rfl, rfl⟩ := hrel
    have hle := Pg.sumSizes_take_le rs k
    by_cases hlt : k < rs.length
    · obtain ⟨b, off, rfl, hc, hbl, hcell⟩ := HC.out.at_ hlt
      have HS := Lib.hid (Pg.sumSizes_snoc rs k hlt)
      have hle2 := Pg.sumSizes_take_le rs (k + 1)
      have hsz : Pg.sumSizes (rs.take k) + rs[k].size ≤ Pg.sumSizes rs := by rw [← HS.out]; exact hle2
      clear hle2
      generalize hr : rs[k] = r at hcell hsz
      have HR := Lib.hid hr
      clear hr
      go_wp2_with fail
      go_round
      case rel => exact ⟨k + 1, by omega, by go_num, by rw [HS.out, HR.out]; go_num⟩
      case measure => simp [intOf]; omega
    · obtain rfl : k = rs.length := by omega
      go_wp2_with fail
      go_ret
      exact ⟨ret_int (by unfold Pg.sizeN; omega), rfl⟩
def boxOf (x : Pg.Leaf) (A : Option Addr) (m c : Nat) : Obj := .cells #[.int .i64 x.lsn, .int .i64 x.kind, .int .i64 x.link, .slice A m c] 82
theorem empty_iff (r : ByteArray) : r.toList.isEmpty = decide (r.size = 0) := by
  rw [ByteArray.toList_eq]
  have h : r.data.toList.length = r.size := by simp
  cases hl : r.data.toList with
  | nil => rw [hl] at h; simp at h; simp [h.symm]
  | cons a l =>
    rw [hl, List.length_cons] at h
    simp only [List.isEmpty_cons]
    exact (decide_eq_false (by omega)).symm
theorem three_new (w : World) (o1 o2 o3 : Obj) : (((w.alloc o1).alloc o2).alloc o3).heap[w.heap.size]? = some o1 ∧ (((w.alloc o1).alloc o2).alloc o3).heap[w.heap.size + 1]? = some o2 ∧ (((w.alloc o1).alloc o2).alloc o3).heap[w.heap.size + 1 + 1]? = some o3 ∧ (((w.alloc o1).alloc o2).alloc o3).heap.size = w.heap.size + 3 := by
  have e : (((w.alloc o1).alloc o2).alloc o3).heap = ((w.heap.push o1).push o2).push o3 := rfl
  rw [e]
  refine ⟨?_, ?_, ?_, by simp⟩
  · rw [Array.getElem?_push_lt (by simp; omega), Array.getElem_push_lt (by simp), Array.getElem_push_eq]
  · rw [Array.getElem?_push_lt (by simp), Array.getElem_push]; simp
  · rw [Array.getElem?_push]; simp
theorem put_held (n size : Int) (h0 : 0 ≤ size) (h8 : size ≤ 8) (X : Nat) (v0 v1 v2 v3 : Value) (w0 w : World) (hX : X < w0.heap.size)
    (h : w.cell? ⟨X, 0, none⟩ = some v0 ∧ w.cell? ⟨X, 1, none⟩ = some v1 ∧ w.cell? ⟨X, 2, none⟩ = some v2 ∧ w.cell? ⟨X, 3, none⟩ = some v3 ∧ Below w0.heap.size w0 w) :
    Calls Tryz.prog 69 #[.int .i64 n, .int .i64 size] w fun e w' => e = .returned (.string (Oct.putB n size)) ∧
      (w'.cell? ⟨X, 0, none⟩ = some v0 ∧ w'.cell? ⟨X, 1, none⟩ = some v1 ∧ w'.cell? ⟨X, 2, none⟩ = some v2 ∧ w'.cell? ⟨X, 3, none⟩ = some v3 ∧ Below w0.heap.size w0 w') := by
  obtain ⟨c0, c1, c2, c3, hb⟩ := h
  have hs := hb.size
  refine (put_any n size h0 h8 w).mono ?_
  rintro e w' ⟨rfl, hb1⟩
  refine ⟨rfl, ?_, ?_, ?_, ?_, andThen hb hb1⟩
  · rw [hb1.cell (p := ⟨X, 0, none⟩) (by show X < _; omega)]; exact c0
  · rw [hb1.cell (p := ⟨X, 1, none⟩) (by show X < _; omega)]; exact c1
  · rw [hb1.cell (p := ⟨X, 2, none⟩) (by show X < _; omega)]; exact c2
  · rw [hb1.cell (p := ⟨X, 3, none⟩) (by show X < _; omega)]; exact c3
set_option maxRecDepth 100000 in
set_option maxHeartbeats 2000000 in
theorem made_any (x : Pg.Leaf) (A : Option Addr) (c : Nat) (hx : Pg.Small x) (hb : Pg.sizeN x.recs ≤ 1099511627776) (w : World) (h : Cells w A c x.recs) :
    Calls Tryz.prog 40 #[.agg #[.int .i64 x.lsn, .int .i64 x.kind, .int .i64 x.link, .slice A x.recs.length c]] w fun e w' => e = .returned (.string ⟨(Pg.layL x).toArray⟩) ∧ Below w.heap.size w w' := by
  have HXS := Lib.hid hx
  clear hx
  have HC := Lib.hid h
  have hbn : x.recs.length ≤ 1099511627776 := by unfold Pg.sizeN at hb; omega
  have HB := Lib.hid hb
  clear h hb
  go_enter Tryz.func40, Tryz.ntmps40
  go_upto_block 0 with (fail)
  go_cut [] (fun wc => ∃ m : Nat, m ≤ x.recs.length ∧ Pg.trimN x.recs x.recs.length = m ∧ wc = w.alloc (boxOf x A m c))
  case first =>
    go_wp2_with fail
    go_loopg [] x.recs.length (fun m wr => m ≤ x.recs.length ∧ Pg.trimN x.recs m = Pg.trimN x.recs x.recs.length ∧ wr = w.alloc (boxOf x A m c))
    case atStart => exact ⟨Nat.le_refl _, rfl, rfl⟩
    case round =>
      obtain ⟨hm, ht, rfl⟩ := hrel
      have HT := Lib.hid ht
      clear ht
      unfold boxOf
      by_cases h0 : gk = 0
      · subst h0
        go_wp2_with fail
        go_meet
        case rel => exact ⟨0, Nat.zero_le _, by rw [← HT.out]; rfl, rfl⟩
      · obtain ⟨b, off, rfl, hc, hbl, hcell⟩ := HC.out.at_ (k := gk - 1) (by omega)
        obtain ⟨m, rfl⟩ : ∃ m, gk = m + 1 := ⟨gk - 1, by omega⟩
        simp only [Nat.add_sub_cancel] at hcell
        have hie := empty_iff x.recs[m]
        have HR := Lib.hid (show x.recs[m]?.getD ⟨#[]⟩ = x.recs[m] by simp [show m < x.recs.length by omega])
        have hcc : (World.cell? (w.alloc (boxOf x (some ⟨b, off, none⟩) (m + 1) c)) ⟨b, off + m, none⟩) = some (.string x.recs[m]) := by
          rw [World.cell?_alloc_lt _ _ _ hbl]; exact hcell
        unfold boxOf at hcc
        generalize hr : x.recs[m] = r at hcell hie hcc HR
        by_cases he : r.size = 0
        · have hie2 : r.toList.isEmpty = true := by rw [hie]; exact decide_eq_true he
          clear hie hr
          have HE := Lib.hid he
          clear he
          go_wp2_with fail
          go_roundg m
          case measure => omega
          case rel => exact ⟨by omega, by rw [← HT.out, Pg.trimN, HR.out, if_pos HE.out], rfl⟩
        · have hie2 : r.toList.isEmpty = false := by rw [hie]; exact decide_eq_false he
          clear hie hr
          have HE := Lib.hid he
          clear he
          go_wp2_with fail
          go_meet
          case rel => exact ⟨m + 1, hm, by rw [← HT.out, Pg.trimN, HR.out, if_neg HE.out], rfl⟩
  case rest =>
    obtain ⟨m, hm, ht, rfl⟩ := hcut
    have hlen : (x.recs.take m).length = m := by rw [List.length_take]; omega
    have hsz : Pg.sizeN (x.recs.take m) ≤ 1099511627776 := by
      have := HB.out
      have := Pg.sumSizes_take_le x.recs m
      unfold Pg.sizeN at *; omega
    have HC2 := Lib.hid (show Cells w A c (x.recs.take m) from fun h0 => by
      obtain ⟨b, off, hA, hc, hlt, hcell⟩ := HC.out (by omega)
      refine ⟨b, off, hA, by omega, hlt, fun j hj => ?_⟩
      rw [List.getElem_take]; exact hcell j (by omega))
    have HL := Lib.hid (show Pg.layL x = Pg.layR x (x.recs.take m) by rw [Pg.layL, Pg.trim, ht])
    generalize hrs : x.recs.take m = rs at hlen hsz HC2 HL
    subst hlen
    clear HC HB hbn hm ht hrs
    unfold boxOf
    by_cases hfit : 512 < Pg.sizeN rs
    · go_wp2_with (go_at_call 70; refine (size_any A c rs hsz _ (HC2.out.below ((Below.refl _ _).alloc (Nat.le_refl _) _))).mono ?_; rintro e w' ⟨rfl, rfl⟩)
      go_ret
      exact ⟨ret_str (by rw [HL.out, Pg.layR, if_pos hfit]), (Below.refl _ _).alloc (Nat.le_refl _) _⟩
    · go_upto_block 2 with (go_at_call 70; refine (size_any A c rs hsz _ (HC2.out.below ((Below.refl _ _).alloc (Nat.le_refl _) _))).mono ?_; rintro e w' ⟨rfl, rfl⟩)
      have hs512 : Pg.sumSizes rs ≤ 512 := by unfold Pg.sizeN at hfit; omega
      have hn123 : rs.length ≤ 512 := by unfold Pg.sizeN at hfit; omega
      obtain ⟨W3, hW3⟩ : ∃ W3 : World, W3 = (((w.alloc (.cells #[.int .i64 x.lsn, .int .i64 x.kind, .int .i64 x.link, .slice A rs.length c] 82)).alloc (.cells #[.pointer none, .slice none 0 0] 118)).alloc (.cells #[.pointer none, .slice none 0 0] 118)) := ⟨_, rfl⟩
      rw [← hW3]
      have hb3 : Below w.heap.size w W3 := by rw [hW3]; exact (((Below.refl _ _).alloc (Nat.le_refl _) _).alloc (by simp) _).alloc (by simp; omega) _
      obtain ⟨hx3, h43, h53, hz3⟩ := three_new w (.cells #[.int .i64 x.lsn, .int .i64 x.kind, .int .i64 x.link, .slice A rs.length c] 82) (.cells #[.pointer none, .slice none 0 0] 118) (.cells #[.pointer none, .slice none 0 0] 118)
      rw [← hW3] at hx3 h43 h53 hz3
      clear hW3
      have HB3 := Lib.hid hb3
      have HX3 := Lib.hid hx3
      have H43 := Lib.hid h43
      have H53 := Lib.hid h53
      have HZ3 := Lib.hid hz3
      have HFIT := Lib.hid hfit
      clear hb3 hx3 h43 h53 hz3 hfit
      go_cut [6] (fun s6 wc => s6 = .int .i64 ((512 - Pg.sumSizes rs : Nat) : Int) ∧ Bld W3.heap.size wc.heap.size (w.heap.size + 1) (Pg.slotsL 512 rs) wc ∧ KeptB W3.heap.size (w.heap.size + 1) W3 wc)
      case first =>
        go_wp2_with fail
        go_loopw [6, 43] (fun a i wr => ∃ k : Nat, k ≤ rs.length ∧ i = .int .i64 k ∧ a = .int .i64 ((512 - Pg.sumSizes (rs.take k) : Nat) : Int) ∧ Bld W3.heap.size wr.heap.size (w.heap.size + 1) (Pg.slotsL 512 (rs.take k)) wr ∧ KeptB W3.heap.size (w.heap.size + 1) W3 wr) (fun _ i _ => rs.length - (intOf i).toNat)
        case atStart => exact ⟨0, Nat.zero_le _, rfl, by simp [Pg.sumSizes], Bld.fresh _ _ _ _ (by rw [HZ3.out]; omega) H43.out, KeptB.refl _ _ _⟩
        case round =>
          obtain ⟨k, hk, rfl, rfl, hbld, hkept⟩ := hrel
          have HK := Lib.hid hkept
          have HD := Lib.hid hbld
          have hsl := Pg.sumSizes_take_le rs k
          have hWr : W3.heap.size ≤ wr.heap.size := hkept.size
          clear hbld hkept
          by_cases hlt : k < rs.length
          · obtain ⟨b, off, rfl, hc, hbl, hcell⟩ := HC2.out.at_ hlt
            have hcw : wr.cell? ⟨b, off + k, none⟩ = some (.string rs[k]) := by
              rw [(HK.out.below (lo := w.heap.size) (by rw [HZ3.out]; omega) (by omega)).cell (p := ⟨b, off + k, none⟩) hbl, HB3.out.cell (p := ⟨b, off + k, none⟩) hbl]; exact hcell
            have HS := Lib.hid (Pg.sumSizes_snoc rs k hlt)
            have HSL := Lib.hid (Pg.slotsL_snoc rs k hlt)
            have hle2 := Pg.sumSizes_take_le rs (k + 1)
            have hsz2 : Pg.sumSizes (rs.take k) + rs[k].size ≤ 512 := by rw [← HS.out]; omega
            have hlen : (Pg.slotsL 512 (rs.take k)).length ≤ 4096 := by rw [Pg.slotsL_length, List.length_take]; omega
            have hie := empty_iff rs[k]
            clear hle2 hcell
            generalize hr : rs[k] = r at hcw hsz2 hie HS HSL
            clear hr
            by_cases he : r.size = 0
            · have hie2 : r.toList.isEmpty = true := by rw [hie]; exact decide_eq_true he
              clear hie
              have HE := Lib.hid he
              clear he
              go_wp2_with (first | (go_at_call 69; refine (put_any _ _ (by omega) (by omega) _).mono ?_; rintro e w1 ⟨rfl, hb1⟩) | (go_at_call 71; refine (write_any _ _ _ _ _ _ (HD.out.below hb1) ?_ ?_).mono ?_; (rw [show (Oct.putB 0 4).size = 4 from Oct.putB_size 0 4 (by omega)]; omega); (have := hb1.size; omega); rintro e w2 ⟨rfl, hbld2, hk2⟩))
              go_roundw
              case rel => exact ⟨k + 1, by omega, by go_num, by rw [HS.out, HE.out]; rfl, by
                rw [HSL.out, Pg.slotL, if_pos HE.out]
                rw [show (Oct.putB 0 4).data.toList = Oct.putL 0 4 from Oct.putB_list 0 4 (by omega)] at hbld2
                exact hbld2, HK.out.trans ((KeptB.of_below hWr hb1).trans hk2)⟩
              case measure => simp [intOf]; omega
            · have hie2 : r.toList.isEmpty = false := by rw [hie]; exact decide_eq_false he
              clear hie
              have HE := Lib.hid he
              clear he
              obtain ⟨a, ha⟩ : ∃ a : Nat, a = 512 - Pg.sumSizes (rs.take k) := ⟨_, rfl⟩
              rw [← ha]
              have hra : r.size ≤ a := by omega
              have ha512 : a ≤ 512 := by omega
              have HA := Lib.hid ha
              clear ha
              have hadd : ∀ (u v : Int) (W : World), (Op.stringOp .add (Oct.putB u 2) (Oct.putB v 2)).run Tryz.prog W = .ok (.string (Oct.putB u 2 ++ Oct.putB v 2)) W := fun u v W => run_string_add_sum W _ _ (by
                rw [show (Oct.putB u 2).size = 2 from Oct.putB_size u 2 (by omega), show (Oct.putB v 2).size = 2 from Oct.putB_size v 2 (by omega)]; omega)
              go_wp2_with (first | (go_at_call 69; (with_reducible refine (put_any (r.size : Int) _ (by omega) (by omega) _).mono ?_); rintro e w2 ⟨rfl, hb2⟩) | (go_at_call 69; refine (put_any _ _ (by omega) (by omega) _).mono ?_; rintro e w1 ⟨rfl, hb1⟩) | (go_at_call 71; refine (write_any _ _ _ _ _ _ ((HD.out.below hb1).below hb2) ?_ ?_).mono ?_; (rw [ByteArray.size_append, show (Oct.putB _ 2).size = 2 from Oct.putB_size _ 2 (by omega), show (Oct.putB _ 2).size = 2 from Oct.putB_size _ 2 (by omega)]; omega); (have := hb1.size; have := hb2.size; omega); rintro e w3 ⟨rfl, hbld3, hk3⟩))
              go_roundw
              case rel =>
                refine ⟨k + 1, by omega, by go_num, ?_, ?_, HK.out.trans ((KeptB.of_below hWr hb1).trans ((KeptB.of_below (by have := hb1.size; omega) hb2).trans hk3))⟩
                · have := HA.out
                  rw [HS.out]
                  exact congrArg (Value.int IntKind.i64) (by omega)
                · rw [HSL.out, Pg.slotL, if_neg HE.out, ← HA.out]
                  have e1 : (Oct.putB ((a : Int) - (r.size : Int)) 2).data.toList = Oct.putL (a - r.size) 2 := by
                    rw [show ((a : Int) - (r.size : Int)) = ((a - r.size : Nat) : Int) by omega]
                    have := Oct.putB_list ((a - r.size : Nat) : Int) 2 (by omega)
                    rwa [Oct.word_nat (a - r.size) (by omega)] at this
                  have e2 : (Oct.putB (r.size : Int) 2).data.toList = Oct.putL r.size 2 := by
                    have := Oct.putB_list (r.size : Int) 2 (by omega)
                    rwa [Oct.word_nat r.size (by omega)] at this
                  rw [ByteArray.data_append, Array.toList_append, e1, e2] at hbld3
                  exact hbld3
              case measure => simp [intOf]; omega
          · obtain rfl : k = rs.length := by omega
            have HT := Lib.hid (List.take_length (l := rs))
            go_wp2_with fail
            go_meet
            case rel =>
              have h1 := HD.out
              rw [HT.out] at h1
              exact ⟨by rw [HT.out], h1, HK.out⟩
      case rest =>
        obtain ⟨wm, rfl⟩ : ∃ wm : World, wm = wc := ⟨_, rfl⟩
        obtain ⟨rfl, hbld, hkept⟩ := hcut
        have HD := Lib.hid hbld
        have HK := Lib.hid hkept
        have hWc : W3.heap.size ≤ wm.heap.size := hkept.size
        clear hbld hkept
        have hx : wm.heap[w.heap.size]? = some (.cells #[.int .i64 x.lsn, .int .i64 x.kind, .int .i64 x.link, .slice A rs.length c] 82 (0, 0)) := by
          rw [HK.out.block _ (by rw [HZ3.out]; omega) (by omega)]; exact HX3.out
        have c0 : wm.cell? ⟨w.heap.size, 0, none⟩ = some (.int .i64 x.lsn) := by rw [cell_of_blk hx]; rfl
        have c1 : wm.cell? ⟨w.heap.size, 1, none⟩ = some (.int .i64 x.kind) := by rw [cell_of_blk hx]; rfl
        have c2 : wm.cell? ⟨w.heap.size, 2, none⟩ = some (.int .i64 x.link) := by rw [cell_of_blk hx]; rfl
        have c3 : wm.cell? ⟨w.heap.size, 3, none⟩ = some (.slice A rs.length c) := by rw [cell_of_blk hx]; rfl
        have HX := Lib.hid hx
        clear hx
        go_upto_block 4 with (fail)
        go_cut [] (fun wc => Bld wm.heap.size wc.heap.size (w.heap.size + 1 + 1) (Pg.bodyL rs) wc ∧ KeptB wm.heap.size (w.heap.size + 1 + 1) wm wc)
        case first =>
          go_wp2_with fail
          go_loopw [9] (fun i wr => ∃ j : Nat, j ≤ rs.length ∧ i = .int .i64 ((j : Int) - 1) ∧ Bld wm.heap.size wr.heap.size (w.heap.size + 1 + 1) (Pg.bodyL (rs.drop j)) wr ∧ KeptB wm.heap.size (w.heap.size + 1 + 1) wm wr) (fun i _ => (intOf i + 1).toNat)
          case atStart =>
            refine ⟨rs.length, Nat.le_refl _, rfl, ?_, KeptB.refl _ _ _⟩
            rw [List.drop_length]
            exact Bld.fresh _ _ _ _ (by have := HZ3.out; omega) (by rw [HK.out.block _ (by rw [HZ3.out]; omega) (by omega)]; exact H53.out)
          case round =>
            obtain ⟨j, hj, rfl, hbld, hkept⟩ := hrel
            have HK4 := Lib.hid hkept
            have HD4 := Lib.hid hbld
            have hWr : wm.heap.size ≤ wr.heap.size := hkept.size
            have hz := HZ3.out
            have d3 : wr.cell? ⟨w.heap.size, 3, none⟩ = some (.slice A rs.length c) := by
              have : wr.heap[w.heap.size]? = _ := (hkept.block _ (by omega) (by omega)).trans HX.out
              rw [cell_of_blk this]; rfl
            clear hbld hkept c0 c1 c2 c3 hz
            by_cases h0 : j = 0
            · subst h0
              go_wp2_with fail
              go_meet
              case rel => exact ⟨HD4.out, HK4.out⟩
            · obtain ⟨k, rfl⟩ : ∃ k, j = k + 1 := ⟨j - 1, by omega⟩
              rw [show ((k + 1 : Nat) : Int) - 1 = (k : Int) by omega]
              obtain ⟨b, off, rfl, hc, hbl, hcell⟩ := HC2.out.at_ (k := k) (by omega)
              have hcw : wr.cell? ⟨b, off + k, none⟩ = some (.string rs[k]) := by
                have hz := HZ3.out
                rw [(HK4.out.below (lo := w.heap.size) (by omega) (by omega)).cell (p := ⟨b, off + k, none⟩) hbl, (HK.out.below (lo := w.heap.size) (by omega) (by omega)).cell (p := ⟨b, off + k, none⟩) hbl, HB3.out.cell (p := ⟨b, off + k, none⟩) hbl]; exact hcell
              have HBD := Lib.hid (Pg.bodyL_drop rs k (by omega))
              have hlen : (Pg.bodyL (rs.drop (k + 1))).length + rs[k].size ≤ 4096 := by
                have h1 := Pg.bodyL_length (rs.drop k)
                rw [HBD.out, List.length_append] at h1
                have h2 := Pg.sumSizes_append (rs.take k) (rs.drop k)
                rw [List.take_append_drop] at h2
                have h3 : rs[k].data.toList.length = rs[k].size := by simp
                omega
              clear hcell
              generalize hr : rs[k] = r at hcw hlen HBD
              clear hr
              go_wp2_with (go_at_call 71; refine (write_any _ _ _ _ _ _ HD4.out ?_ ?_).mono ?_; (omega); (omega); rintro e w2 ⟨rfl, hbld2, hk2⟩)
              go_roundw
              case rel => exact ⟨k, by omega, rfl, by rw [HBD.out]; exact hbld2, HK4.out.trans hk2⟩
              case measure => simp [intOf]
        case rest =>
          obtain ⟨hbld5, hkept5⟩ := hcut
          have HD5 := Lib.hid hbld5
          have HK5 := Lib.hid hkept5
          have hWd : wm.heap.size ≤ wc.heap.size := hkept5.size
          have hx5 : wc.heap[w.heap.size]? = some (.cells #[.int .i64 x.lsn, .int .i64 x.kind, .int .i64 x.link, .slice A rs.length c] 82 (0, 0)) := by
            have hz := HZ3.out
            rw [HK5.out.block _ (by omega) (by omega)]; exact HX.out
          have d0 : wc.cell? ⟨w.heap.size, 0, none⟩ = some (.int .i64 x.lsn) := by rw [cell_of_blk hx5]; rfl
          have d1 : wc.cell? ⟨w.heap.size, 1, none⟩ = some (.int .i64 x.kind) := by rw [cell_of_blk hx5]; rfl
          have d2 : wc.cell? ⟨w.heap.size, 2, none⟩ = some (.int .i64 x.link) := by rw [cell_of_blk hx5]; rfl
          have d3 : wc.cell? ⟨w.heap.size, 3, none⟩ = some (.slice A rs.length c) := by rw [cell_of_blk hx5]; rfl
          have HX5 := Lib.hid hx5
          clear hbld5 hkept5 hx5 c0 c1 c2 c3
          obtain ⟨wd, rfl⟩ : ∃ wd : World, wd = wc := ⟨_, rfl⟩
          go_upto_region 20 with (fail)
          have hXl : w.heap.size < wd.heap.size := by have := HZ3.out; omega
          have hbr : Below wd.heap.size wd wd := Below.refl _ _
          obtain ⟨at_, hat⟩ : ∃ a : Nat, a = 512 - Pg.sumSizes rs := ⟨_, rfl⟩
          rw [← hat]
          have HAT := Lib.hid hat
          clear hat
          have z1 : (Oct.putB 0 4).size = 4 := Oct.putB_size 0 4 (by omega)
          have z2 : (Oct.putB x.lsn 6).size = 6 := Oct.putB_size x.lsn 6 (by omega)
          have z3 : (Oct.putB x.kind 1).size = 1 := Oct.putB_size x.kind 1 (by omega)
          have z4 : (Oct.putB 0 1).size = 1 := Oct.putB_size 0 1 (by omega)
          have z5 : (Oct.putB x.link 3).size = 3 := Oct.putB_size x.link 3 (by omega)
          have z6 : (Oct.putB rs.length 2).size = 2 := Oct.putB_size rs.length 2 (by omega)
          have z7 : (Oct.putB at_ 2).size = 2 := Oct.putB_size at_ 2 (by omega)
          go_cut [10] (fun s10 we => s10 = .string (Oct.putB 0 4 ++ Oct.putB x.lsn 6 ++ Oct.putB x.kind 1 ++ Oct.putB 0 1 ++ Oct.putB x.link 3 ++ Oct.putB rs.length 2 ++ Oct.putB at_ 2) ∧ Below wd.heap.size wd we)
          case first =>
            go_region_held3 (fun w' => w'.cell? ⟨w.heap.size, 0, none⟩ = some (.int .i64 x.lsn) ∧ w'.cell? ⟨w.heap.size, 1, none⟩ = some (.int .i64 x.kind) ∧ w'.cell? ⟨w.heap.size, 2, none⟩ = some (.int .i64 x.link) ∧ w'.cell? ⟨w.heap.size, 3, none⟩ = some (.slice A rs.length c) ∧ Below wd.heap.size wd w') (first | assumption | exact ⟨d0, d1, d2, d3, hbr.drew⟩ | go_keep) (first | (go_at_call 69; refine (put_held _ _ (by omega) (by omega) w.heap.size _ _ _ _ wd _ hXl (by assumption)).mono ?_; rintro e w1 ⟨rfl, hS⟩))
            go_wp2_with fail
            go_meet
            case rel => exact ⟨rfl, hS.2.2.2.2⟩
          case rest =>
            obtain ⟨rfl, hbe⟩ := hcut
            have hz := HZ3.out
            have hbe2 := hbe.size
            have hWm : W3.heap.size ≤ wm.heap.size := HK.out.size
            obtain ⟨F, hF⟩ : ∃ F : ByteArray, F = Oct.putB 0 4 ++ Oct.putB x.lsn 6 ++ Oct.putB x.kind 1 ++ Oct.putB 0 1 ++ Oct.putB x.link 3 ++ Oct.putB rs.length 2 ++ Oct.putB at_ 2 := ⟨_, rfl⟩
            have hFs : F.size = 19 := by rw [hF]; simp only [ByteArray.size_append, z1, z2, z3, z4, z5, z6, z7]
            rw [← hF]
            obtain ⟨S, hS⟩ : ∃ S : ByteArray, S = ⟨(Pg.slotsL 512 rs).toArray⟩ := ⟨_, rfl⟩
            have hSs : S.size ≤ 4096 := by rw [hS]; show (Pg.slotsL 512 rs).toArray.size ≤ _; simp [Pg.slotsL_length]; omega
            obtain ⟨B, hB⟩ : ∃ B : ByteArray, B = ⟨(Pg.bodyL rs).toArray⟩ := ⟨_, rfl⟩
            have hBs : B.size ≤ 4096 := by rw [hB]; show (Pg.bodyL rs).toArray.size ≤ _; simp [Pg.bodyL_length]; omega
            obtain ⟨room, hroom⟩ : ∃ room : Nat, room = 512 - Pg.sizeN rs := ⟨_, rfl⟩
            have hfit := HFIT.out
            have hri : (512 : Int) - (Pg.sizeN rs : Int) = (room : Int) := by omega
            have hr512 : room ≤ 512 := by omega
            obtain ⟨R, hR⟩ : ∃ R : ByteArray, R = ⟨(Lib.repeatL (⟨#[0]⟩ : ByteArray).data.toList room).toArray⟩ := ⟨_, rfl⟩
            have hRl : R.data.toList = List.replicate room 0 := by
              rw [hR]
              have key : ∀ n, Lib.repeatL (⟨#[0]⟩ : ByteArray).data.toList n = List.replicate n 0 := fun n => by
                induction n with
                | zero => rfl
                | succ n ih => rw [Lib.repeatL, ih]; rfl
              rw [key]
            have hRs : R.size = room := by
              have : R.data.toList.length = R.size := by simp
              rw [← this, hRl, List.length_replicate]
            have b4 : Bld W3.heap.size wm.heap.size (w.heap.size + 1) (Pg.slotsL 512 rs) wc := ((HD.out.later (Nat.le_refl _)).kept (fun k hk _ => HK5.out.block k (by omega) (by omega))).below hbe
            have HB4 := Lib.hid b4
            have hc1 : ∀ W, Bld W3.heap.size wm.heap.size (w.heap.size + 1) (Pg.slotsL 512 rs) W → Calls Tryz.prog 72 #[.pointer (some ⟨w.heap.size + 1, 0, none⟩)] W fun e w' => e = .returned (.string S) ∧ KeptR W3.heap.size wm.heap.size W w' := fun W h => by
              rw [hS]; exact string_any _ _ _ _ W h
            have hc2 : ∀ W, Bld wm.heap.size wd.heap.size (w.heap.size + 1 + 1) (Pg.bodyL rs) W → Calls Tryz.prog 72 #[.pointer (some ⟨w.heap.size + 1 + 1, 0, none⟩)] W fun e w' => e = .returned (.string B) ∧ KeptR wm.heap.size wd.heap.size W w' := fun W h => by
              rw [hB]; exact string_any _ _ _ _ W h
            have hc3 : ∀ W, Calls Tryz.prog 45 #[.string ⟨#[0]⟩, .int .i64 (room : Int)] W fun e w' => e = .returned (.string R) ∧ Below W.heap.size W w' := fun W => by
              rw [hR]; exact Tryz.strings_Repeat ⟨#[0]⟩ room W (by omega) (by show 1 * room ≤ _; omega)
            have HC1 := Lib.hid hc1
            have HC2' := Lib.hid hc2
            have HC3 := Lib.hid hc3
            have HF := Lib.hid hF
            have HS := Lib.hid hS
            have HB' := Lib.hid hB
            have HRl := Lib.hid hRl
            have HRm := Lib.hid hroom
            rw [hri]
            clear hc1 hc2 hc3 hF hS hB hRl hR hri hroom b4 z1 z2 z3 z4 z5 z6 z7 d0 d1 d2 d3
            have HB5 := Lib.hid (show ∀ W V, KeptR W3.heap.size wm.heap.size wc W → Below W.heap.size W V → Bld wm.heap.size wd.heap.size (w.heap.size + 1 + 1) (Pg.bodyL rs) V from fun W V k1 k2 =>
              ((HD5.out.below hbe).kept (fun k hk hor => k1.block k (by have := hbe.size; omega) (by omega))).below k2)
            go_wp2_with (first | (go_at_call 72; (with_reducible refine (HC1.out _ ?_).mono ?_); (exact HB4.out); rintro e w1 ⟨rfl, hk1⟩) | (go_at_call 45; refine (HC3.out _).mono ?_; rintro e w2 ⟨rfl, hk2⟩) | (go_at_call 72; (with_reducible refine (HC2'.out _ ?_).mono ?_); (exact HB5.out _ _ hk1 hk2); rintro e w3 ⟨rfl, hk3⟩))
            go_ret
            refine ⟨ret_str ?_, ?_⟩
            · rw [HL.out, Pg.layR, if_neg HFIT.out]
              apply ByteArray.ext
              have e1 : F.data.toList = Pg.headL x rs.length (512 - Pg.sumSizes rs) := by
                rw [HF.out, Pg.headL]
                simp only [ByteArray.data_append, Array.toList_append]
                have q1 : (Oct.putB 0 4).data.toList = Oct.putL 0 4 := Oct.putB_list 0 4 (by omega)
                have q4 : (Oct.putB 0 1).data.toList = Oct.putL 0 1 := Oct.putB_list 0 1 (by omega)
                obtain ⟨y1, y2, y3⟩ := HXS.out
                have q2 : (Oct.putB x.lsn 6).data.toList = Oct.putL x.lsn 6 := (Oct.putB_list x.lsn 6 (by omega)).trans (by rw [Oct.word_nat _ (by omega)])
                have q3 : (Oct.putB x.kind 1).data.toList = Oct.putL x.kind 1 := (Oct.putB_list x.kind 1 (by omega)).trans (by rw [Oct.word_nat _ (by omega)])
                have q5 : (Oct.putB x.link 3).data.toList = Oct.putL x.link 3 := (Oct.putB_list x.link 3 (by omega)).trans (by rw [Oct.word_nat _ (by omega)])
                have q6 : (Oct.putB rs.length 2).data.toList = Oct.putL rs.length 2 := (Oct.putB_list rs.length 2 (by omega)).trans (by rw [Oct.word_nat _ (by omega)])
                have q7 : (Oct.putB at_ 2).data.toList = Oct.putL (512 - Pg.sumSizes rs) 2 := (Oct.putB_list at_ 2 (by omega)).trans (by rw [Oct.word_nat _ (by have := HAT.out; omega), HAT.out])
                rw [q1, q2, q3, q4, q5, q6, q7]
              have e2 : S.data.toList = Pg.slotsL 512 rs := by rw [HS.out]
              have e3 : B.data.toList = Pg.bodyL rs := by rw [HB'.out]
              apply Array.toList_inj.1
              simp only [ByteArray.data_append, Array.toList_append, e1, e2, e3, HRl.out, HRm.out]
            · exact (((((HB3.out.trans (HK.out.below (by omega) (by omega))).trans (HK5.out.below (by omega) (by omega))).trans (hbe.mono (by omega))).trans (hk1.below (by omega) (by omega))).trans (hk2.mono (by have := hk1.size; omega))).trans (hk3.below (by omega) (by have := hk1.size; have := hk2.size; omega))
theorem Cells.take {w : World} {A : Option Addr} {c : Nat} {rs : List ByteArray} (h : Cells w A c rs) (m : Nat) (hm : m ≤ rs.length) : Cells w A c (rs.take m) := fun h0 => by
  rw [List.length_take] at h0
  obtain ⟨b, off, hA, hc, hlt, hcell⟩ := h (by omega)
  refine ⟨b, off, hA, by rw [List.length_take]; omega, hlt, fun j hj => ?_⟩
  rw [List.getElem_take]; exact hcell j (by rw [List.length_take] at hj; omega)
theorem pmake_zeros (n : Nat) (hn : n ≤ 4096) (W : World) : (Instr.makeSlice 67 (.int .i64 (n : Int)) (.int .i64 (n : Int))).run Tryz.prog W = .ok (.slice (some ⟨W.heap.size, 0, none⟩) n n) (W.alloc (.cells (madeCells #[Value.int .u8 0] n) 5)) := by
  obtain ⟨i0, hi, hz0, hz1, hz2⟩ := info_parts Tryz.elem8
  have h := run_make (P := Tryz.prog) W 67 5 i0 (.int .u8 0) Tryz.underlying67 hi hz0 .i64 .i64 n n (by omega) (by omega) (by rw [hz2]; omega) (by omega)
  rw [hz1, Int.toNat_natCast, Nat.mul_one] at h
  exact h
theorem pzeros_back (n : Nat) (W : World) : (convert 67 9 (.slice (some ⟨W.heap.size, 0, none⟩) n n)).run Tryz.prog (W.alloc (.cells (madeCells #[Value.int .u8 0] n) 5)) = .ok (.string ⟨(List.replicate n 0).toArray⟩) (W.alloc (.cells (madeCells #[Value.int .u8 0] n) 5)) := by
  have h := run_convert_bytes_back (P := Tryz.prog) (W.alloc (.cells (madeCells #[Value.int .u8 0] n) 5)) 67 9 5 ⟨W.heap.size, 0, none⟩ n (List.replicate n 0) Tryz.underlying67 Tryz.underlying5 Tryz.underlying9 (fun j hj => by
    have hj' : j < n := by simpa using hj
    have ha : (⟨W.heap.size, 0, none⟩ : Addr).add j = ⟨W.heap.size, j, none⟩ := by
      unfold Addr.add; split
      · rename_i h; rw [h]
      · simp
    rw [ha, World.cell?_alloc_new]
    simp [madeCells, hj', Nat.mod_one])
  rw [List.length_replicate] at h
  exact h
theorem intOf_small (u : Nat) (h : u < 281474976710656) : Oct.intOf u = (u : Int) := by
  unfold Oct.intOf; rw [if_pos (by omega)]
theorem getN_lt (s : List UInt8) (a k : Nat) (h : k ≤ 6) : Oct.getN s a k < 281474976710656 := by
  have h1 := Oct.getL_lt ((s.drop a).take k)
  have h2 : 256 ^ ((s.drop a).take k).length ≤ 256 ^ 6 := Nat.pow_le_pow_right (by omega) (by rw [List.length_take]; omega)
  unfold Oct.getN; omega
theorem num_any (s : ByteArray) (a size : Int) (h0 : 0 ≤ a) (h1 : 1 ≤ size) (h6 : size ≤ 6) (hin : a + size ≤ s.size) (hm : s.size ≤ 1048576) (w : World) :
    Calls Tryz.prog 107 #[.string s, .int .i64 a, .int .i64 size] w fun e w' => e = .returned (.int .i64 (Oct.getN s.data.toList a.toNat size.toNat)) ∧ Below w.heap.size w w' := by
  obtain ⟨a, rfl⟩ := Int.eq_ofNat_of_zero_le h0
  obtain ⟨k, rfl⟩ := Int.eq_ofNat_of_zero_le (show 0 ≤ size by omega)
  have HC := Lib.hid (fun W => get_yes s a k (by omega) (by omega) (by omega) (by omega) W)
  rw [intOf_small _ (getN_lt _ _ _ (by omega))] at HC
  go_enter Tryz.func107, Tryz.ntmps107
  go_wp2_with (go_at_call 142; refine (HC.out _).mono ?_; rintro e w' ⟨rfl, hb⟩)
  go_ret
  exact ⟨rfl, hb⟩
theorem blk4 {w : World} {b : Nat} {T : TypeId} {v0 v1 v2 v3 : Value} (h : w.heap[b]? = some (.cells #[v0, v1, v2, v3] T (0, 0))) :
    w.cell? ⟨b, 0, none⟩ = some v0 ∧ w.cell? ⟨b, 1, none⟩ = some v1 ∧ w.cell? ⟨b, 2, none⟩ = some v2 ∧ w.cell? ⟨b, 3, none⟩ = some v3 ∧
    w.frozen? ⟨b, 0, none⟩ = false ∧ w.frozen? ⟨b, 1, none⟩ = false ∧ w.frozen? ⟨b, 2, none⟩ = false ∧ w.frozen? ⟨b, 3, none⟩ = false := by
  refine ⟨by rw [cell_of_blk h]; rfl, by rw [cell_of_blk h]; rfl, by rw [cell_of_blk h]; rfl, by rw [cell_of_blk h]; rfl, ?_, ?_, ?_, ?_⟩ <;> simp [World.frozen?, h]
theorem blk_new {w w' : World} {o : Obj} (hb : Below (w.alloc o).heap.size (w.alloc o) w') : w'.heap[w.heap.size]? = some o :=
  (hb.block _ (by simp)).trans (heap_alloc_new w _)
theorem blk_old {w w' : World} {b : Nat} {o : Obj} (h : w.heap[b]? = some o) (hb : Below w.heap.size w w') : w'.heap[b]? = some o := by
  have hlt : b < w.heap.size := by
    rcases Nat.lt_or_ge b w.heap.size with h' | h'
    · exact h'
    · rw [Array.getElem?_eq_none h'] at h; cases h
  rw [hb.block b hlt]; exact h
theorem blk_past {w w' : World} {b : Nat} {o o2 : Obj} (h : w.heap[b]? = some o) (hb : Below (w.alloc o2).heap.size (w.alloc o2) w') : w'.heap[b]? = some o := by
  have hlt : b < w.heap.size := by
    rcases Nat.lt_or_ge b w.heap.size with h' | h'
    · exact h'
    · rw [Array.getElem?_eq_none h'] at h; cases h
  rw [hb.block b (by simp; omega), Below.heap_alloc w o2 b hlt]; exact h
theorem below_past {w w' : World} {o : Obj} (hb : Below (w.alloc o).heap.size (w.alloc o) w') : Below w.heap.size w w' :=
  ((Below.refl _ _).alloc (Nat.le_refl _) _).trans (hb.mono (by simp))
theorem pinfo_string : (Tryz.prog.info? 9).map (fun i => (i.zero, i.size, i.bytes)) = some (some (.string ⟨#[]⟩), 1, 16) := by kernel_rfl
theorem ownsRow_below {w w' : World} {B : Nat} {e : TypeId} {size n : Nat} {v : Value} {xs : List Value} (h : w.ownsRow B e size v n xs) (hb : Below w.heap.size w w') : w'.ownsRow B e size v n xs := by
  refine ⟨h.1, ?_⟩
  rcases h.2 with hz | ⟨g, cap, cur, hv, hg, hh, r⟩
  · exact .inl hz
  · exact .inr ⟨g, cap, cur, hv, hg, blk_old hh hb, r⟩
theorem blk_set {w : World} {b : Nat} (i : Nat) {cs : Array Value} {T : TypeId} {fr : Nat × Nat} (h : w.heap[b]? = some (.cells cs T fr)) (v : Value) : (w.setCell ⟨b, i, none⟩ v).heap[b]? = some (.cells (cs.setIfInBounds i v) T fr) := by
  rw [setCell_eq_setRow w b i cs T fr v h]
  exact setRow_heap w b _ _ T _ h
theorem ownsRow_set {w : World} {B : Nat} {e : TypeId} {size n : Nat} {v : Value} {xs : List Value} (h : w.ownsRow B e size v n xs) (a : Addr) (u : Value) (ha : a.block < B) : (w.setCell a u).ownsRow B e size v n xs := by
  refine ⟨h.1, ?_⟩
  rcases h.2 with hz | ⟨g, cap, cur, hv, hg, hh, r⟩
  · exact .inl hz
  · exact .inr ⟨g, cap, cur, hv, hg, by rw [Below.heap_setCell _ _ _ _ (by omega)]; exact hh, r⟩
theorem own_alloc_drew {w : World} {B : Nat} {e : TypeId} {size n : Nat} {v : Value} {xs : List Value} (h : w.ownsRow B e size v n xs) (o : Obj) : (w.alloc o).drew.ownsRow B e size v n xs :=
  ownsRow_below h (((Below.refl _ _).alloc (Nat.le_refl _) o).drew)
theorem extract_eq (p : ByteArray) (a l : Nat) : p.extract a (a + l) = ⟨((p.data.toList.drop a).take l).toArray⟩ := by
  apply ByteArray.ext
  apply Array.ext'
  simp
def OwnCells (B : Nat) (w : World) (A : Option Addr) (c : Nat) (rs : List ByteArray) : Prop :=
  0 < rs.length → ∃ b, A = some ⟨b, 0, none⟩ ∧ B ≤ b ∧ rs.length ≤ c ∧ b < w.heap.size ∧ ∀ j (hj : j < rs.length), w.cell? ⟨b, j, none⟩ = some (.string rs[j])
theorem OwnCells.cells {B : Nat} {w : World} {A : Option Addr} {c : Nat} {rs : List ByteArray} (h : OwnCells B w A c rs) : Cells w A c rs := fun h0 => by
  obtain ⟨b, hA, hB, hc, hlt, hcell⟩ := h h0
  exact ⟨b, 0, hA, hc, hlt, fun j hj => by rw [Nat.zero_add]; exact hcell j hj⟩
theorem OwnCells.set {B : Nat} {w : World} {A : Option Addr} {c : Nat} {rs : List ByteArray} (h : OwnCells B w A c rs) (a : Addr) (ha : a.block < B) (u : Value) : OwnCells B (w.setCell a u) A c rs := fun h0 => by
  obtain ⟨b, hA, hB, hc, hlt, hcell⟩ := h h0
  refine ⟨b, hA, hB, hc, by simpa using hlt, fun j hj => ?_⟩
  rw [← hcell j hj]
  exact World.cell?_of_block (Below.heap_setCell _ _ _ _ (by simp; omega))
theorem OwnCells.mono {B B' : Nat} {w : World} {A : Option Addr} {c : Nat} {rs : List ByteArray} (h : OwnCells B w A c rs) (hB : B' ≤ B) : OwnCells B' w A c rs := fun h0 => by
  obtain ⟨b, hA, h1, h2⟩ := h h0
  exact ⟨b, hA, by omega, h2⟩
theorem OwnCells.below {B : Nat} {w w' : World} {A : Option Addr} {c : Nat} {rs : List ByteArray} (h : OwnCells B w A c rs) (hb : Below w.heap.size w w') : OwnCells B w' A c rs := fun h0 => by
  obtain ⟨b, hA, h1, h2, h3, h4⟩ := h h0
  refine ⟨b, hA, h1, h2, Nat.lt_of_lt_of_le h3 hb.size, fun j hj => ?_⟩
  rw [hb.cell (p := ⟨b, j, none⟩) h3]; exact h4 j hj
theorem own_cells {w : World} {B : Nat} {e : TypeId} {A : Option Addr} {k c : Nat} {rs : List ByteArray} (h : w.ownsRow B e 1 (.slice A k c) k (rs.map Value.string)) (hl : rs.length = k) : OwnCells B w A c rs := fun h0 => by
  rcases h.2 with ⟨h9, -⟩ | ⟨g, cap, cur, hv, hg, hh, h1, h2, h3, h4⟩
  · simp at h9; omega
  · have hv2 : A = some ⟨g, 0, none⟩ ∧ c = cap := by simpa using hv
    obtain ⟨rfl, rfl⟩ := hv2
    refine ⟨g, rfl, hg, by omega, (Array.getElem?_eq_some_iff.1 hh).1, fun j hj => ?_⟩
    have h5 : cur.toList[j]? = some (.string rs[j]) := by
      have h6 : (rs.map Value.string)[j]? = some (.string rs[j]) := by simp [hj]
      rw [← h4, List.getElem?_take_of_lt (by omega)] at h6
      exact h6
    rw [cell_of_blk hh]
    simpa using h5
abbrev leafV (x : Pg.Leaf) (A : Option Addr) (c : Nat) : Value := .agg #[.int .i64 x.lsn, .int .i64 x.kind, .int .i64 x.link, .slice A x.recs.length c]
abbrev zeroV : Value := .agg #[.int .i64 0, .int .i64 0, .int .i64 0, .slice none 0 0]
def Gives1 (r : Option Pg.Leaf) (w : World) (e : Ending) (w' : World) : Prop :=
  (match r with
    | some x => ∃ A c, e = .returned (.tuple #[leafV x A c, .bool true]) ∧ OwnCells w.heap.size w' A c x.recs
    | none => e = .returned (.tuple #[zeroV, .bool false])) ∧ Below w.heap.size w w'
set_option maxRecDepth 100000 in
set_option maxHeartbeats 2000000 in
theorem read_any (p : ByteArray) (_hm : p.size ≤ 140737488355328) (w : World) :
    Calls Tryz.prog 68 #[.string p] w (Gives1 (Pg.rd p.data.toList) w) := by
  by_cases h512 : p.size = 512
  · have HL := Lib.hid (show p.data.toList.length = 512 by have h9 : p.data.toList.length = p.size := (by simp); omega)
    obtain ⟨lsn, hlsn⟩ : ∃ n, n = Oct.getN p.data.toList 4 6 := ⟨_, rfl⟩
    obtain ⟨kind, hkind⟩ : ∃ n, n = Oct.getN p.data.toList 10 1 := ⟨_, rfl⟩
    obtain ⟨link, hlink⟩ : ∃ n, n = Oct.getN p.data.toList 12 3 := ⟨_, rfl⟩
    obtain ⟨n, hn⟩ : ∃ n, n = Oct.getN p.data.toList 15 2 := ⟨_, rfl⟩
    have HN1 := Lib.hid (fun W => num_any p 4 6 (by omega) (by omega) (by omega) (by omega) (by omega) W)
    have HN2 := Lib.hid (fun W => num_any p 10 1 (by omega) (by omega) (by omega) (by omega) (by omega) W)
    have HN3 := Lib.hid (fun W => num_any p 12 3 (by omega) (by omega) (by omega) (by omega) (by omega) W)
    have HN4 := Lib.hid (fun W => num_any p 15 2 (by omega) (by omega) (by omega) (by omega) (by omega) W)
    rw [show ((4 : Int).toNat) = 4 from rfl, show ((6 : Int).toNat) = 6 from rfl, ← hlsn] at HN1
    rw [show ((10 : Int).toNat) = 10 from rfl, show ((1 : Int).toNat) = 1 from rfl, ← hkind] at HN2
    rw [show ((12 : Int).toNat) = 12 from rfl, show ((3 : Int).toNat) = 3 from rfl, ← hlink] at HN3
    rw [show ((15 : Int).toNat) = 15 from rfl, show ((2 : Int).toNat) = 2 from rfl, ← hn] at HN4
    have HQ1 := Lib.hid hlsn
    have HQ2 := Lib.hid hkind
    have HQ3 := Lib.hid hlink
    have HQ4 := Lib.hid hn
    clear hlsn hkind hlink hn
    by_cases hbad : 4 < kind ∨ 123 < n
    · have HR := Lib.hid (show Pg.rd p.data.toList = none by rw [Pg.rd, if_pos (by rw [← HQ2.out, ← HQ4.out]; exact .inr hbad)])
      have hb1 : 4 < kind ∨ (kind ≤ 4 ∧ 123 < n) := by omega
      clear hbad
      rcases hb1 with h1 | ⟨h1, h2⟩
      all_goals
        go_enter Tryz.func68, Tryz.ntmps68
        go_wp2_with (first | (go_at_call 107; (with_reducible refine (HN1.out _).mono ?_); rintro e w1 ⟨rfl, hb1⟩) | (go_at_call 107; (with_reducible refine (HN2.out _).mono ?_); rintro e w2 ⟨rfl, hb2⟩) | (go_at_call 107; (with_reducible refine (HN3.out _).mono ?_); rintro e w3 ⟨rfl, hb3⟩) | (go_at_call 107; (with_reducible refine (HN4.out _).mono ?_); rintro e w4 ⟨rfl, hb4⟩; obtain ⟨a0, a1, a2, a3, -⟩ := blk4 (blk_new hb4); obtain ⟨c0, c1, c2, c3, f0, f1, f2, f3⟩ := blk4 (blk_past (blk_old (blk_old (blk_new hb1) hb2) hb3) hb4)))
        refine bodyPost_ret (v := .tuple #[zeroV, .bool false]) (by simp [results, Tryz.results68, go_sem, c0, c1, c2, c3]) rfl ?_
        unfold Gives1
        rw [HR.out]
        have hbw : Below w.heap.size w w4 := andThen (andThen (andThen (below_past hb1) hb2) hb3) (below_past hb4)
        refine ⟨rfl, ?_⟩
        repeat (first | exact hbw | refine Below.setCell ?_ (by simp) _)
    · obtain ⟨hk4, hn123⟩ : kind ≤ 4 ∧ n ≤ 123 := by omega
      have HRD := Lib.hid (show Pg.rd p.data.toList = (Pg.recsOf p.data.toList n).map fun rs => ⟨lsn, kind, link, rs⟩ by
        rw [Pg.rd, if_neg (by rw [← HQ2.out, ← HQ4.out]; have := HL.out; omega), ← HQ1.out, ← HQ2.out, ← HQ3.out, ← HQ4.out])
      clear hbad
      go_enter Tryz.func68, Tryz.ntmps68
      go_upto_block 0 with (first | (go_at_call 107; (with_reducible refine (HN1.out _).mono ?_); rintro e w1 ⟨rfl, hb1⟩) | (go_at_call 107; (with_reducible refine (HN2.out _).mono ?_); rintro e w2 ⟨rfl, hb2⟩) | (go_at_call 107; (with_reducible refine (HN3.out _).mono ?_); rintro e w3 ⟨rfl, hb3⟩) | (go_at_call 107; (with_reducible refine (HN4.out _).mono ?_); rintro e w4 ⟨rfl, hb4⟩; obtain ⟨a0, a1, a2, a3, -⟩ := blk4 (blk_new hb4)))
      have hX := blk_new hb4
      have hZ := blk_past (blk_old (blk_old (blk_new hb1) hb2) hb3) hb4
      have hbw : Below w.heap.size w w4 := andThen (andThen (andThen (below_past hb1) hb2) hb3) (below_past hb4)
      have hlt : w.heap.size < w3.heap.size := by
        have := hb1.size; have := hb2.size; have := hb3.size; simp at *; omega
      have hlt4 : w3.heap.size < w4.heap.size := by have := hb4.size; simp at this; omega
      clear hb1 hb2 hb3 hb4 a0 a1 a2 a3
      generalize w3.heap.size = X at hX hlt hlt4 ⊢
      have HX := Lib.hid hX
      have HZ := Lib.hid hZ
      have HW := Lib.hid hbw
      clear hX hZ hbw
      go_wp2_with fail
      go_loopw [31] (fun i wr => ∃ (k : Nat) (rs : List ByteArray) (A : Option Addr) (c : Nat), k ≤ n ∧ i = .int .i64 k ∧ Pg.recsOf p.data.toList k = some rs ∧ wr.heap[X]? = some (.cells #[.int .i64 lsn, .int .i64 kind, .int .i64 link, .slice A k c] 82 (0, 0)) ∧ wr.heap[w.heap.size]? = some (.cells #[.int .i64 0, .int .i64 0, .int .i64 0, .slice none 0 0] 82 (0, 0)) ∧ wr.ownsRow w4.heap.size 9 1 (.slice A k c) k (rs.map Value.string) ∧ Below w.heap.size w wr ∧ w4.heap.size ≤ wr.heap.size) (fun i _ => n - (intOf i).toNat)
      case atStart => exact ⟨0, [], none, 0, Nat.zero_le _, rfl, rfl, HX.out, HZ.out, ⟨rfl, .inl ⟨rfl, rfl⟩⟩, HW.out, Nat.le_refl _⟩
      case round =>
        obtain ⟨k, rs, A, c, hk, rfl, hrs, hX, hZ, hown, hbw, hge⟩ := hrel
        have hrl := Pg.recsOf_length _ _ _ hrs
        have HRS := Lib.hid hrs
        have HX2 := Lib.hid hX
        have HZ2 := Lib.hid hZ
        have HO := Lib.hid hown
        have HW2 := Lib.hid hbw
        have HRL := Lib.hid hrl
        clear hrs hX hZ hown hbw hrl
        by_cases hkn : k < n
        · obtain ⟨at_, hat⟩ : ∃ a, a = Oct.getN p.data.toList (19 + 4 * k) 2 := ⟨_, rfl⟩
          obtain ⟨long, hlong⟩ : ∃ a, a = Oct.getN p.data.toList (21 + 4 * k) 2 := ⟨_, rfl⟩
          have hal : at_ < 65536 := by
            have h1 := Oct.getL_lt ((p.data.toList.drop (19 + 4 * k)).take 2)
            have h2 : 256 ^ ((p.data.toList.drop (19 + 4 * k)).take 2).length ≤ 256 ^ 2 := Nat.pow_le_pow_right (by omega) (by rw [List.length_take]; omega)
            rw [hat]; unfold Oct.getN; omega
          have hll : long < 65536 := by
            have h1 := Oct.getL_lt ((p.data.toList.drop (21 + 4 * k)).take 2)
            have h2 : 256 ^ ((p.data.toList.drop (21 + 4 * k)).take 2).length ≤ 256 ^ 2 := Nat.pow_le_pow_right (by omega) (by rw [List.length_take]; omega)
            rw [hlong]; unfold Oct.getN; omega
          have HA := Lib.hid (fun W => num_any p (19 + 4 * (k : Int)) 2 (by omega) (by omega) (by omega) (by omega) (by omega) W)
          have HB := Lib.hid (fun W => num_any p (19 + 4 * (k : Int) + 2) 2 (by omega) (by omega) (by omega) (by omega) (by omega) W)
          rw [show (19 + 4 * (k : Int)).toNat = 19 + 4 * k by omega, show ((2 : Int).toNat) = 2 from rfl, ← hat] at HA
          rw [show (19 + 4 * (k : Int) + 2).toNat = 21 + 4 * k by omega, show ((2 : Int).toNat) = 2 from rfl, ← hlong] at HB
          have HAT := Lib.hid hat
          have HLO := Lib.hid hlong
          clear hat hlong
          by_cases hbad : 400 < long ∨ 512 < at_ + long
          · have HN := Lib.hid (show Pg.rd p.data.toList = none by
              have h1 : Pg.recsOf p.data.toList (k + 1) = none := by
                simp only [Pg.recsOf, HRS.out]
                rw [if_pos (by rw [← HAT.out, ← HLO.out]; exact hbad)]
              have h2 := Pg.recsOf_none _ h1 (n - (k + 1))
              rw [show k + 1 + (n - (k + 1)) = n by omega] at h2
              rw [HRD.out, h2]; rfl)
            have hb1 : 400 < long ∨ (long ≤ 400 ∧ (512 : Int) - (long : Int) < (at_ : Int)) := by omega
            clear hbad
            rcases hb1 with h1 | ⟨h1, h2⟩
            all_goals
              go_wp2_with (first | (go_at_call 107; (with_reducible refine (HA.out _).mono ?_); rintro e w5 ⟨rfl, hb5⟩) | (go_at_call 107; (with_reducible refine (HB.out _).mono ?_); rintro e w6 ⟨rfl, hb6⟩; obtain ⟨c0, c1, c2, c3, f0, f1, f2, f3⟩ := blk4 (blk_old (blk_old HZ2.out hb5) hb6)))
              refine bodyPost_ret (v := .tuple #[zeroV, .bool false]) (by simp [results, Tryz.results68, go_sem, c0, c1, c2, c3]) rfl ?_
              unfold Gives1
              rw [HN.out]
              have hbw6 : Below w.heap.size w w6 := andThen (andThen HW2.out hb5) hb6
              refine ⟨rfl, ?_⟩
              repeat (first | exact hbw6 | refine Below.setCell ?_ (by simp) _)
          · obtain ⟨hl4, hal5⟩ : long ≤ 400 ∧ at_ + long ≤ 512 := by omega
            clear hbad
            go_upto_region 13 with (first | (go_at_call 107; (with_reducible refine (HA.out _).mono ?_); rintro e w5 ⟨rfl, hb5⟩) | (go_at_call 107; (with_reducible refine (HB.out _).mono ?_); rintro e w6 ⟨rfl, hb6⟩))
            obtain ⟨i0, hi0, hz0, hz1, hz2⟩ := info_parts pinfo_string
            have hb56 : Below wr.heap.size wr w6 := andThen hb5 hb6
            have hX6 := blk_old HX2.out hb56
            have hZ6 := blk_old HZ2.out hb56
            have hown6 : w6.ownsRow w4.heap.size 9 1 (.slice A k c) k (rs.map Value.string) := ownsRow_below HO.out hb56
            have hW6 : Below w.heap.size w w6 := andThen HW2.out hb56
            have hs6 := hb56.size
            obtain ⟨x0, x1, x2, x3, g0, g1, g2, g3⟩ := blk4 hX6
            have hp1 : (0 : Int) ≤ (at_ : Int) := by omega
            have hp2 : (at_ : Int) ≤ (at_ : Int) + (long : Int) := by omega
            have hp3 : (at_ : Int) + (long : Int) ≤ 512 := by omega
            have hp4 : IntKind.i64.wrap ((at_ : Int) + (long : Int)) = (at_ : Int) + (long : Int) := IntWalk.i64_in _ (by omega)
            have hp5 : ((at_ : Int) + (long : Int)).toNat = at_ + long := by omega
            have hp6 : 0 ≤ (at_ : Int) + (long : Int) := by omega
            have hp7 : at_ ≤ at_ + long := by omega
            have hp8 : at_ + long ≤ p.size := by omega
            clear hb5 hb6 hb56
            have HF := Lib.hid (show ∀ w7 : World, ((w6.alloc (.cells #[.string (p.extract at_ (at_ + long))] 9)).drew).grownBy w7 (Value.slice A k c).ownBlock → ∀ (b : Nat) (o : Obj), b < w4.heap.size → w6.heap[b]? = some o → w7.heap[b]? = some o by
              intro w7 hg b o hb ho
              rw [hg.block b (by simp; omega) (fun e9 => absurd (hown6.lt b e9.symm).1 (by omega))]
              exact (Below.heap_alloc w6 _ b (by omega)).trans ho)
            obtain ⟨-, -, -, z3, -⟩ := blk4 ((Below.heap_alloc w6 (.cells #[.string (p.extract at_ (at_ + long))] 9) X (by omega)).trans hX6)
            go_region_law? (refine step_append_lies _ (by rfl) _ _ _ (by rfl) w4.heap.size 9 i0 (.string ⟨#[]⟩) 1 16 Tryz.underlying26 hi0 hz0 hz1 hz2 rfl (by omega) (.slice A k c) k (rs.map Value.string) (by rfl) (own_alloc_drew hown6 _) ⟨w6.heap.size, 0, none⟩ 1 1 [.string (p.extract at_ (at_ + long))] (by rfl) (by rfl) (World.news_of_block (cs := #[.string (p.extract at_ (at_ + long))]) (t := 9) (fr := (0, 0)) (heap_alloc_new w6 _)) (by simp [Value.oneCell']) (by omega) (by simp [maxLen]; omega) (by omega) (by simp; omega) (w6.heap.size + 1) (by simp) ?_; intro gg cap w7 hown7 hgrow hat7 hlt7; obtain ⟨y0, y1, y2, y3, k0, k1, k2, k3⟩ := blk4 (HF.out w7 hgrow X _ hlt4 hX6))
            all_goals
              have hX7 := HF.out w7 hgrow X _ hlt4 hX6
              have hZ7 := HF.out w7 hgrow w.heap.size _ (by omega) hZ6
              have hb7 : Below w.heap.size w w7 := ((hW6.alloc (by omega) _).drew).grown hgrow (by simp; omega) (fun k9 e9 => by have := (hown6.lt k9 e9).1; omega)
              have hs7 : w6.heap.size + 1 ≤ w7.heap.size := by have := hgrow.size; simp at this; omega
              go_wp2_with fail
              go_roundw
              case rel =>
                refine ⟨k + 1, rs ++ [p.extract at_ (at_ + long)], some ⟨gg, 0, none⟩, cap, by omega, by go_num, ?_, ?_, ?_, ?_, ?_, ?_⟩
                · simp only [Pg.recsOf, HRS.out]
                  rw [if_neg (by rw [← HAT.out, ← HLO.out]; omega), ← HAT.out, ← HLO.out]
                  rw [extract_eq]
                · have := blk_set 3 hX7 (.slice (some ⟨gg, 0, none⟩) (k + 1) cap)
                  simpa using this
                · rw [Below.heap_setCell _ _ _ _ (by simp; omega)]; exact hZ7
                · have := ownsRow_set hown7 ⟨X, 3, none⟩ (.slice (some ⟨gg, 0, none⟩) (k + 1) cap) hlt4
                  simpa using this
                · exact hb7.setCell (by simp; omega) _
                · simp; omega
              case measure => simp [intOf]; omega
        · obtain rfl : k = n := by omega
          have hX := HX2.out
          obtain ⟨x0, x1, x2, x3, -⟩ := blk4 HX2.out
          obtain ⟨c0, c1, c2, c3, f0, f1, f2, f3⟩ := blk4 HZ2.out
          have hne : X ≠ w.heap.size := by omega
          go_wp2_with fail
          refine bodyPost_ret (v := .tuple #[leafV ⟨lsn, kind, link, rs⟩ A c, .bool true]) (by simp [results, Tryz.results68, go_sem, c0, c1, c2, c3]; exact HRL.out.symm) rfl ?_
          unfold Gives1
          rw [HRD.out, HRS.out]
          have hlen := HRL.out
          have hcl := own_cells HO.out hlen
          refine ⟨⟨A, c, by simp [leafV, hlen], ?_⟩, ?_⟩
          · refine OwnCells.mono (B := w4.heap.size) ?_ (by omega)
            repeat (first | exact hcl | refine OwnCells.set ?_ _ (by simp; omega) _)
          · repeat (first | exact HW2.out | refine Below.setCell ?_ (by simp) _)
  · have hne : ((p.size : Int) == 512) = false := by simp; omega
    have HR := Lib.hid (show Pg.rd p.data.toList = none by
      rw [Pg.rd, if_pos (.inl (by have h9 : p.data.toList.length = p.size := (by simp); omega))])
    clear h512
    go_enter Tryz.func68, Tryz.ntmps68
    go_wp2_with fail
    refine bodyPost_ret (v := .tuple #[zeroV, .bool false]) (by simp [results, Tryz.results68, go_sem]) rfl ?_
    unfold Gives1
    rw [HR.out]
    exact ⟨rfl, (Below.refl _ _).alloc (Nat.le_refl _) _⟩
abbrev Held (X : Nat) (x : Pg.Leaf) (A : Option Addr) (c : Nat) (w0 u : World) : Prop :=
  u.cell? ⟨X, 0, none⟩ = some (.int .i64 x.lsn) ∧ u.cell? ⟨X, 1, none⟩ = some (.int .i64 x.kind) ∧ u.cell? ⟨X, 2, none⟩ = some (.int .i64 x.link) ∧ u.cell? ⟨X, 3, none⟩ = some (.slice A x.recs.length c) ∧ Cells u A c x.recs ∧ X < u.heap.size ∧ Below w0.heap.size w0 u
theorem Held.step {X : Nat} {x : Pg.Leaf} {A : Option Addr} {c : Nat} {w0 u v : World} (h : Held X x A c w0 u) (hb : Below u.heap.size u v) : Held X x A c w0 v := by
  obtain ⟨c0, c1, c2, c3, h4, h5, h6⟩ := h
  have := hb.size
  refine ⟨?_, ?_, ?_, ?_, h4.below hb, by omega, andThen h6 hb⟩
  · rw [hb.cell (p := ⟨X, 0, none⟩) h5]; exact c0
  · rw [hb.cell (p := ⟨X, 1, none⟩) h5]; exact c1
  · rw [hb.cell (p := ⟨X, 2, none⟩) h5]; exact c2
  · rw [hb.cell (p := ⟨X, 3, none⟩) h5]; exact c3
theorem Held.drew {X : Nat} {x : Pg.Leaf} {A : Option Addr} {c : Nat} {w0 u : World} (h : Held X x A c w0 u) : Held X x A c w0 u.drew := h.step (Below.refl _ _).drew
theorem below_drewN (w : World) (n : Nat) : Below w.heap.size w (w.drewN n) := ⟨rfl, rfl, rfl, Nat.le_refl _, fun _ _ => rfl⟩
theorem put_keeps (n size : Int) (h0 : 0 ≤ size) (h8 : size ≤ 8) (X : Nat) (x : Pg.Leaf) (A : Option Addr) (c : Nat) (w0 u : World) (h : Held X x A c w0 u) :
    Calls Tryz.prog 69 #[.int .i64 n, .int .i64 size] u fun e w' => e = .returned (.string (Oct.putB n size)) ∧ Held X x A c w0 w' :=
  (put_any n size h0 h8 u).mono fun _ _ ⟨h1, h2⟩ => ⟨h1, h.step h2⟩
theorem made_keeps (x : Pg.Leaf) (A : Option Addr) (c : Nat) (hf : Pg.Fine x) (X : Nat) (w0 u : World) (h : Held X x A c w0 u) :
    Calls Tryz.prog 40 #[.agg #[.int .i64 x.lsn, .int .i64 x.kind, .int .i64 x.link, .slice A x.recs.length c]] u fun e w' => e = .returned (.string ⟨(Pg.layL x).toArray⟩) ∧ Held X x A c w0 w' :=
  (made_any x A c hf.small (by have := hf.sizeN; omega) u h.2.2.2.2.1).mono fun _ _ ⟨h1, h2⟩ => ⟨h1, h.step h2⟩
set_option maxRecDepth 100000 in
set_option maxHeartbeats 2000000 in
theorem take_any (p : ByteArray) (hm : p.size ≤ 140737488355328) (w : World) :
    Calls Tryz.prog 39 #[.string p] w (Gives1 (Pg.right p.data.toList) w) := by
  have HR := Lib.hid (fun W => read_any p hm W)
  rcases hr : Pg.rd p.data.toList with _ | x
  · rw [hr] at HR
    rw [Pg.right_none_of hr]
    go_enter Tryz.func39, Tryz.ntmps39
    go_upto_region 2 with (first | (go_at_call 68; (with_reducible refine (HR.out _).mono ?_); rintro e w1 ⟨rfl, hb1⟩))
    have hlt : w.heap.size < w1.heap.size := by have := hb1.size; simp at this; omega
    have hbw := below_past hb1
    have hbx := blk_new hb1
    clear hb1
    have HH := Lib.hid (show Held w1.heap.size Pg.zero none 0 (w1.alloc (.cells #[.int .i64 0, .int .i64 0, .int .i64 0, .slice none 0 0] 82)) (w1.alloc (.cells #[.int .i64 0, .int .i64 0, .int .i64 0, .slice none 0 0] 82)) by
      obtain ⟨a0, a1, a2, a3, -⟩ := blk4 (heap_alloc_new w1 (.cells #[.int .i64 0, .int .i64 0, .int .i64 0, .slice none 0 0] 82))
      exact ⟨a0, a1, a2, a3, fun h0 => by simp [Pg.zero] at h0, by simp, Below.refl _ _⟩)
    go_cut [21] (fun s we => s = .bool true ∧ Held w1.heap.size Pg.zero none 0 (w1.alloc (.cells #[.int .i64 0, .int .i64 0, .int .i64 0, .slice none 0 0] 82)) we)
    case first =>
      go_quiet (fail)
      go_wp2_with fail
      go_meet
      case rel => exact ⟨rfl, HH.out.step (below_drewN _ _)⟩
    case rest =>
      obtain ⟨rfl, hS⟩ := hcut
      have hbb := andThen (below_past (hS.2.2.2.2.2.2)) (Below.refl _ _)
      obtain ⟨c0, c1, c2, c3, f0, f1, f2, f3⟩ := blk4 (blk_old hbx hbb)
      go_wp2_with fail
      refine bodyPost_ret (v := .tuple #[zeroV, .bool false]) (by simp [results, Tryz.results39, go_sem, c0, c1, c2, c3]) rfl ?_
      have hbw6 := andThen hbw hbb
      refine ⟨rfl, ?_⟩
      repeat (first | exact hbw6 | refine Below.setCell ?_ (by simp) _)
  · rw [hr] at HR
    obtain ⟨hf, h512⟩ := Pg.rd_fine hr
    have hps : p.size = 512 := by have h9 : p.data.toList.length = p.size := (by simp); omega
    rw [Pg.right_of hr]
    have HF := Lib.hid hf
    clear hr hf h512
    have hcmp : (Pg.layL x == (Oct.putB 0 4 ++ p.extract 4 512).toList) = decide (Pg.layL x = Oct.putL 0 4 ++ p.data.toList.drop 4) := by
      have h1 : (Oct.putB 0 4 ++ p.extract 4 512).data.toList = Oct.putL 0 4 ++ p.data.toList.drop 4 := by
        rw [ByteArray.data_append, Array.toList_append, show (Oct.putB 0 4).data.toList = Oct.putL 0 4 from Oct.putB_list 0 4 (by omega)]
        congr 1
        rw [show 512 = 4 + 508 from rfl, extract_eq]
        exact List.take_of_length_le (by have h9 : p.data.toList.length = p.size := (by simp); rw [List.length_drop]; omega)
      rw [ByteArray.toList_eq, h1]
      exact Bool.beq_eq_decide_eq _ _
    generalize decide (Pg.layL x = Oct.putL 0 4 ++ p.data.toList.drop 4) = b at hcmp ⊢
    have HCM := Lib.hid hcmp
    have hz1 : (Oct.putB 0 4).size = 4 := Oct.putB_size 0 4 (by omega)
    have hz2 : (p.extract 4 p.size).size = 508 := by simp; omega
    have hz3 : 4 ≤ p.size := by omega
    clear hcmp
    go_enter Tryz.func39, Tryz.ntmps39
    go_upto_region 2 with (first | (go_at_call 68; (with_reducible refine (HR.out _).mono ?_); rintro e w1 ⟨⟨A, c, rfl, hcl⟩, hb1⟩))
    have hlt : w.heap.size < w1.heap.size := by have := hb1.size; simp at this; omega
    have hbw := below_past hb1
    have hbx := blk_new hb1
    clear hb1
    have HH := Lib.hid (show Held w1.heap.size x A c (w1.alloc (.cells #[.int .i64 x.lsn, .int .i64 x.kind, .int .i64 x.link, .slice A x.recs.length c] 82)) (w1.alloc (.cells #[.int .i64 x.lsn, .int .i64 x.kind, .int .i64 x.link, .slice A x.recs.length c] 82)) by
      obtain ⟨a0, a1, a2, a3, -⟩ := blk4 (heap_alloc_new w1 (.cells #[.int .i64 x.lsn, .int .i64 x.kind, .int .i64 x.link, .slice A x.recs.length c] 82))
      exact ⟨a0, a1, a2, a3, (hcl.below ((Below.refl _ _).alloc (Nat.le_refl _) _)).cells, by simp, Below.refl _ _⟩)
    go_cut [21] (fun s we => s = .bool (!b) ∧ Held w1.heap.size x A c (w1.alloc (.cells #[.int .i64 x.lsn, .int .i64 x.kind, .int .i64 x.link, .slice A x.recs.length c] 82)) we)
    case first =>
      go_region_held3 (fun we => Held w1.heap.size x A c (w1.alloc (.cells #[.int .i64 x.lsn, .int .i64 x.kind, .int .i64 x.link, .slice A x.recs.length c] 82)) we) (first | assumption | exact HH.out.drew) (first | (go_at_call 40; refine (made_keeps x A c HF.out _ _ _ (by assumption)).mono ?_; rintro e w1 ⟨rfl, hS⟩) | (go_at_call 69; refine (put_keeps _ _ (by omega) (by omega) _ _ _ _ _ _ (by assumption)).mono ?_; rintro e w1 ⟨rfl, hS⟩))
      go_wp2_with fail
      go_meet
      case rel => exact ⟨congrArg (fun z => Value.bool (!z)) HCM.out, hS⟩
    case rest =>
      obtain ⟨rfl, hS⟩ := hcut
      have hbb := below_past (hS.2.2.2.2.2.2)
      obtain ⟨c0, c1, c2, c3, f0, f1, f2, f3⟩ := blk4 (blk_old hbx hbb)
      have hbw6 := andThen hbw hbb
      obtain ⟨x0, x1, x2, x3, hcl6, -, -⟩ := hS
      have hne : w1.heap.size ≠ w.heap.size := by omega
      cases b
      · go_wp2_with fail
        refine bodyPost_ret (v := .tuple #[zeroV, .bool false]) (by simp [results, Tryz.results39, go_sem, c0, c1, c2, c3]) rfl ?_
        refine ⟨rfl, ?_⟩
        repeat (first | exact hbw6 | refine Below.setCell ?_ (by simp) _)
      · go_wp2_with fail
        refine bodyPost_ret (v := .tuple #[leafV x A c, .bool true]) (by simp [results, Tryz.results39, go_sem, c0, c1, c2, c3]) rfl ?_
        refine ⟨⟨A, c, rfl, ?_⟩, ?_⟩
        · refine OwnCells.mono (B := w.heap.size + 1) ?_ (by omega)
          repeat (first | exact (hcl.below hbb).mono (by simp) | refine OwnCells.set ?_ _ (by simp) _)
        · repeat (first | exact hbw6 | refine Below.setCell ?_ (by simp) _)
abbrev isPg (p : ByteArray) : Bool := (Pg.right p.data.toList).isSome
abbrev leafP (p : ByteArray) : Pg.Leaf := Pg.leafOf p.data.toList
theorem take_leaf (p : ByteArray) (hm : p.size ≤ 140737488355328) (w : World) :
    Calls Tryz.prog 39 #[.string p] w fun e w' => ∃ A c, e = .returned (.tuple #[leafV (leafP p) A c, .bool (isPg p)]) ∧ OwnCells w.heap.size w' A c (leafP p).recs ∧ Below w.heap.size w w' := by
  refine (take_any p hm w).mono ?_
  rintro e w' ⟨h, hb⟩
  unfold leafP isPg Pg.leafOf
  revert h
  cases Pg.right p.data.toList with
  | none => rintro rfl; exact ⟨none, 0, rfl, fun h0 => by simp [Pg.zero] at h0, hb⟩
  | some x => rintro ⟨A, c, rfl, h⟩; exact ⟨A, c, rfl, h, hb⟩
theorem right_any (p : ByteArray) (hm : p.size ≤ 140737488355328) (w : World) :
    Calls Tryz.prog 136 #[.string p] w fun e w' => e = .returned (.bool (isPg p)) ∧ Below w.heap.size w w' := by
  have HT := Lib.hid (fun W => take_leaf p hm W)
  generalize isPg p = b at HT ⊢
  generalize leafP p = x at HT
  go_enter Tryz.func136, Tryz.ntmps136
  go_wp2_with (go_at_call 39; refine (HT.out _).mono ?_; rintro e w1 ⟨A, c, rfl, hcl, hb1⟩)
  go_ret
  exact ⟨rfl, by repeat (first | exact hb1 | refine Below.alloc ?_ (by first | exact hb1.size | simp) _ | refine Below.setCell ?_ (by first | exact hb1.size | simp) _)⟩
theorem kind_any (p : ByteArray) (hm : p.size ≤ 140737488355328) (w : World) :
    Calls Tryz.prog 19 #[.string p] w fun e w' => e = .returned (.int .i64 ((leafP p).kind : Nat)) ∧ Below w.heap.size w w' := by
  have HT := Lib.hid (fun W => take_leaf p hm W)
  generalize isPg p = b at HT
  generalize leafP p = x at HT ⊢
  go_enter Tryz.func19, Tryz.ntmps19
  go_wp2_with (go_at_call 39; refine (HT.out _).mono ?_; rintro e w1 ⟨A, c, rfl, hcl, hb1⟩)
  go_ret
  exact ⟨rfl, by repeat (first | exact hb1 | refine Below.alloc ?_ (by first | exact hb1.size | simp) _ | refine Below.setCell ?_ (by first | exact hb1.size | simp) _)⟩
theorem lsn_any (p : ByteArray) (hm : p.size ≤ 140737488355328) (w : World) :
    Calls Tryz.prog 138 #[.string p] w fun e w' => e = .returned (.int .i64 ((leafP p).lsn : Nat)) ∧ Below w.heap.size w w' := by
  have HT := Lib.hid (fun W => take_leaf p hm W)
  generalize isPg p = b at HT
  generalize leafP p = x at HT ⊢
  go_enter Tryz.func138, Tryz.ntmps138
  go_wp2_with (go_at_call 39; refine (HT.out _).mono ?_; rintro e w1 ⟨A, c, rfl, hcl, hb1⟩)
  go_ret
  exact ⟨rfl, by repeat (first | exact hb1 | refine Below.alloc ?_ (by first | exact hb1.size | simp) _ | refine Below.setCell ?_ (by first | exact hb1.size | simp) _)⟩
theorem slots_any (p : ByteArray) (hm : p.size ≤ 140737488355328) (w : World) :
    Calls Tryz.prog 20 #[.string p] w fun e w' => e = .returned (.int .i64 ((leafP p).recs.length : Nat)) ∧ Below w.heap.size w w' := by
  have HT := Lib.hid (fun W => take_leaf p hm W)
  generalize isPg p = b at HT
  generalize leafP p = x at HT ⊢
  go_enter Tryz.func20, Tryz.ntmps20
  go_wp2_with (go_at_call 39; refine (HT.out _).mono ?_; rintro e w1 ⟨A, c, rfl, hcl, hb1⟩)
  go_ret
  exact ⟨rfl, by repeat (first | exact hb1 | refine Below.alloc ?_ (by first | exact hb1.size | simp) _ | refine Below.setCell ?_ (by first | exact hb1.size | simp) _)⟩
theorem below_past_alloc {w w' : World} {o : Obj} (hb : Below w.heap.size w w') : Below w.heap.size w (w'.alloc o) := hb.alloc hb.size o
set_option maxRecDepth 100000 in
set_option maxHeartbeats 1000000 in
theorem at_any (x : Pg.Leaf) (A : Option Addr) (c : Nat) (i : Int) (w : World) (h : Cells w A c x.recs) :
    Calls Tryz.prog 73 #[leafV x A c, .int .i64 i] w fun e w' => e = .returned (.string (Pg.slotAt x.recs i)) ∧ Below w.heap.size w w' := by
  have HC := Lib.hid (h.below ((Below.refl w.heap.size w).alloc (Nat.le_refl _) (.cells #[.int .i64 x.lsn, .int .i64 x.kind, .int .i64 x.link, .slice A x.recs.length c] 82 (0, 0))))
  clear h
  by_cases h1 : i < 0
  · rw [Pg.slotAt_neg h1]
    go_enter Tryz.func73, Tryz.ntmps73
    go_wp2_with fail
    go_ret
    exact ⟨rfl, (Below.refl _ _).alloc (Nat.le_refl _) _⟩
  · by_cases h2 : (x.recs.length : Int) ≤ i
    · rw [Pg.slotAt_past h2]
      go_enter Tryz.func73, Tryz.ntmps73
      go_wp2_with fail
      go_ret
      exact ⟨rfl, (Below.refl _ _).alloc (Nat.le_refl _) _⟩
    · obtain ⟨k, rfl⟩ := Int.eq_ofNat_of_zero_le (show 0 ≤ i by omega)
      have hk : k < x.recs.length := by omega
      rw [Pg.slotAt_in hk]
      obtain ⟨b, off, rfl, hc, hbl, hcell⟩ := HC.out.at_ hk
      have h3 : (k : Int) < (x.recs.length : Int) := by omega
      have h4 : (0 : Int) ≤ (k : Int) := by omega
      clear h1 h2
      generalize x.recs[k] = r at hcell ⊢
      go_enter Tryz.func73, Tryz.ntmps73
      go_wp2_with fail
      go_ret
      exact ⟨rfl, (Below.refl _ _).alloc (Nat.le_refl _) _⟩
set_option maxRecDepth 100000 in
set_option maxHeartbeats 1000000 in
theorem get_any_rec (p : ByteArray) (i : Int) (hm : p.size ≤ 140737488355328) (w : World) :
    Calls Tryz.prog 57 #[.string p, .int .i64 i] w fun e w' => e = .returned (.tuple #[.string (Pg.slotAt (leafP p).recs i), .bool (!decide ((Pg.slotAt (leafP p).recs i).size = 0))]) ∧ Below w.heap.size w w' := by
  have HT := Lib.hid (fun W => take_leaf p hm W)
  generalize isPg p = b at HT
  generalize leafP p = x at HT ⊢
  have HA := Lib.hid (fun A c W hW => at_any x A c i W hW)
  generalize Pg.slotAt x.recs i = r at HA ⊢
  rw [← empty_iff]
  go_enter Tryz.func57, Tryz.ntmps57
  go_wp2_with (first | (go_at_call 39; refine (HT.out _).mono ?_; rintro e w1 ⟨A, c, rfl, hcl, hb1⟩) | (go_at_call 73; refine (HA.out _ _ _ (hcl.cells.below ((Below.refl _ _).alloc (Nat.le_refl _) _))).mono ?_; rintro e w2 ⟨rfl, hb2⟩))
  refine bodyPost_ret (v := .tuple #[.string r, .bool (!r.toList.isEmpty)]) (by simp [results, Tryz.results57, go_sem]) rfl ?_
  exact ⟨rfl, andThen (below_past_alloc hb1) hb2⟩
theorem bytes_nil {r : ByteArray} (h : r.size = 0) : r = ⟨#[]⟩ := by
  apply ByteArray.ext
  exact Array.eq_empty_of_size_eq_zero h
set_option maxRecDepth 100000 in
set_option maxHeartbeats 1000000 in
theorem may_any (r : ByteArray) (w : World) :
    Calls Tryz.prog 74 #[.string r] w fun e w' => e = .returned (.bool (decide (1 ≤ r.size ∧ r.size ≤ 400))) ∧ w = w' := by
  by_cases h1 : 1 ≤ r.size
  · by_cases h2 : r.size ≤ 400
    · rw [decide_eq_true ⟨h1, h2⟩]
      have h3 : (1 : Int) ≤ (r.size : Int) := by omega
      have h4 : (r.size : Int) ≤ 400 := by omega
      go_enter Tryz.func74, Tryz.ntmps74
      go_wp2_with fail
      go_ret
      exact ⟨by simp, rfl⟩
    · rw [decide_eq_false (fun h => h2 h.2)]
      have h3 : (1 : Int) ≤ (r.size : Int) := by omega
      have h4 : (400 : Int) < (r.size : Int) := by omega
      go_enter Tryz.func74, Tryz.ntmps74
      go_wp2_with fail
      go_ret
      exact ⟨by simp [Int.not_le.2 h4], rfl⟩
  · rw [decide_eq_false (fun h => h1 h.1)]
    have h3 : (r.size : Int) < 1 := by omega
    go_enter Tryz.func74, Tryz.ntmps74
    go_wp2_with fail
    go_ret
    exact ⟨by simp, rfl⟩
def newB (n : Int) : ByteArray := if n < 0 ∨ 4 < n then ⟨#[]⟩ else ⟨(Pg.layL ⟨0, n.toNat, 0, []⟩).toArray⟩
set_option maxRecDepth 100000 in
set_option maxHeartbeats 1000000 in
theorem new_any (n : Int) (w : World) :
    Calls Tryz.prog 42 #[.int .i64 n] w fun e w' => e = .returned (.string (newB n)) ∧ Below w.heap.size w w' := by
  by_cases h1 : n < 0
  · rw [show newB n = ⟨#[]⟩ from if_pos (.inl h1)]
    go_enter Tryz.func42, Tryz.ntmps42
    go_wp2_with fail
    go_ret
    exact ⟨rfl, Below.refl _ _⟩
  · by_cases h2 : 4 < n
    · rw [show newB n = ⟨#[]⟩ from if_pos (.inr h2)]
      go_enter Tryz.func42, Tryz.ntmps42
      go_wp2_with fail
      go_ret
      exact ⟨rfl, Below.refl _ _⟩
    · obtain ⟨k, rfl⟩ := Int.eq_ofNat_of_zero_le (show 0 ≤ n by omega)
      have HM := Lib.hid (fun W => made_any ⟨0, k, 0, []⟩ none 0 ⟨(by show 0 < 281474976710656; omega), (by show k ≤ 4; omega), (by show 0 < 16777216; omega)⟩ (by show 19 ≤ 1099511627776; omega) W (fun h0 => by simp at h0))
      rw [show newB (k : Int) = ⟨(Pg.layL ⟨0, k, 0, []⟩).toArray⟩ by unfold newB; rw [if_neg (by omega)]; rfl]
      generalize (⟨(Pg.layL ⟨0, k, 0, []⟩).toArray⟩ : ByteArray) = q at HM ⊢
      have h3 : (0 : Int) ≤ (k : Int) := by omega
      have h4 : (k : Int) ≤ 4 := by omega
      clear h1 h2
      go_enter Tryz.func42, Tryz.ntmps42
      go_wp2_with (go_at_call 40; refine (HM.out _).mono ?_; rintro e w1 ⟨rfl, hb1⟩)
      go_ret
      exact ⟨rfl, hb1⟩
def lsnB (p : ByteArray) (n : Int) : ByteArray := if isPg p = false ∨ n < 0 ∨ 281474976710656 ≤ n then ⟨#[]⟩ else ⟨(Pg.layL ⟨n.toNat, (leafP p).kind, (leafP p).link, (leafP p).recs⟩).toArray⟩
set_option maxRecDepth 100000 in
set_option maxHeartbeats 1000000 in
theorem setlsn_any (p : ByteArray) (n : Int) (hm : p.size ≤ 140737488355328) (w : World) :
    Calls Tryz.prog 18 #[.string p, .int .i64 n] w fun e w' => e = .returned (.string (lsnB p n)) ∧ Below w.heap.size w w' := by
  have HT := Lib.hid (fun W => take_leaf p hm W)
  have hfine := Pg.leafOf_fine p.data.toList
  cases hb : isPg p with
  | false =>
    rw [show lsnB p n = ⟨#[]⟩ from if_pos (.inl hb)]
    rw [hb] at HT
    generalize leafP p = x at HT
    clear hfine
    go_enter Tryz.func18, Tryz.ntmps18
    go_wp2_with (go_at_call 39; refine (HT.out _).mono ?_; rintro e w1 ⟨A, c, rfl, hcl, hb1⟩)
    go_ret
    exact ⟨rfl, below_past_alloc hb1⟩
  | true =>
    rw [hb] at HT
    by_cases h1 : n < 0
    · rw [show lsnB p n = ⟨#[]⟩ from if_pos (.inr (.inl h1))]
      generalize leafP p = x at HT
      clear hfine
      go_enter Tryz.func18, Tryz.ntmps18
      go_wp2_with (go_at_call 39; refine (HT.out _).mono ?_; rintro e w1 ⟨A, c, rfl, hcl, hb1⟩)
      go_ret
      exact ⟨rfl, below_past_alloc hb1⟩
    · by_cases h2 : 281474976710656 ≤ n
      · rw [show lsnB p n = ⟨#[]⟩ from if_pos (.inr (.inr h2))]
        generalize leafP p = x at HT
        clear hfine
        go_enter Tryz.func18, Tryz.ntmps18
        go_wp2_with (go_at_call 39; refine (HT.out _).mono ?_; rintro e w1 ⟨A, c, rfl, hcl, hb1⟩)
        go_ret
        exact ⟨rfl, below_past_alloc hb1⟩
      · have hnn : ((n.toNat : Nat) : Int) = n := by omega
        have hk : n.toNat < 281474976710656 := by omega
        rw [show lsnB p n = ⟨(Pg.layL ⟨n.toNat, (leafP p).kind, (leafP p).link, (leafP p).recs⟩).toArray⟩ by unfold lsnB; rw [if_neg (by rw [hb]; simp; omega)]]
        have h3 : (0 : Int) ≤ n := by omega
        have h4 : n < 281474976710656 := by omega
        clear h1 h2
        change Pg.Fine (leafP p) at hfine
        generalize leafP p = x at HT hfine ⊢
        have HM := Lib.hid (fun A c W hW => made_any ⟨n.toNat, x.kind, x.link, x.recs⟩ A c ⟨hk, hfine.small.2.1, hfine.small.2.2⟩ (by have := hfine.sizeN; show Pg.sizeN x.recs ≤ _; omega) W hW)
        clear hfine hk hb
        generalize (⟨(Pg.layL ⟨n.toNat, x.kind, x.link, x.recs⟩).toArray⟩ : ByteArray) = q at HM ⊢
        simp only [hnn] at HM
        clear hnn
        go_enter Tryz.func18, Tryz.ntmps18
        go_wp2_with (first | (go_at_call 39; refine (HT.out _).mono ?_; rintro e w1 ⟨A, c, rfl, hcl, hb1⟩) | (go_at_call 40; refine (HM.out A c _ (hcl.cells.below ((Below.refl _ _).alloc (Nat.le_refl _) _))).mono ?_; rintro e w2 ⟨rfl, hb2⟩))
        go_ret
        exact ⟨rfl, andThen (below_past_alloc hb1) hb2⟩
def sealT (t : ByteArray) : ByteArray := Oct.putB (Oct.sumN t.data.toList : Nat) 4 ++ t
def sealB (p : ByteArray) : ByteArray := if isPg p then sealT (p.extract 4 512) else ⟨#[]⟩
theorem isPg_size {p : ByteArray} (h : isPg p = true) : p.size = 512 := by
  unfold isPg at h
  cases hr : Pg.right p.data.toList with
  | none => rw [hr] at h; cases h
  | some x =>
    have := (Pg.right_fine hr).2
    have h9 : p.data.toList.length = p.size := (by simp)
    omega
set_option maxRecDepth 100000 in
set_option maxHeartbeats 1000000 in
theorem oseal_any (t : ByteArray) (hm : t.size ≤ 1048576) (w : World) :
    Calls Tryz.prog 137 #[.string t] w fun e w' => e = .returned (.string (sealT t)) ∧ Below w.heap.size w w' := by
  have HS := Lib.hid (fun W => sum_any t (by omega) W)
  unfold sealT
  generalize Oct.sumN t.data.toList = n at HS ⊢
  have hz : (Oct.putB (n : Int) 4).size = 4 := Oct.putB_size _ 4 (by omega)
  have HP := Lib.hid (fun W => put_any (n : Int) 4 (by omega) (by omega) W)
  generalize Oct.putB (n : Int) 4 = q at HP hz ⊢
  have hadd : ∀ W : World, (Op.stringOp .add q t).run Tryz.prog W = .ok (.string (q ++ t)) W := fun W => run_string_add_sum W _ _ (by omega)
  go_enter Tryz.func137, Tryz.ntmps137
  go_wp2_with (first | (go_at_call 160; refine (HS.out _).mono ?_; rintro e w1 ⟨rfl, rfl⟩) | (go_at_call 69; refine (HP.out _).mono ?_; rintro e w2 ⟨rfl, hb⟩))
  go_ret
  exact ⟨rfl, hb⟩
set_option maxRecDepth 100000 in
set_option maxHeartbeats 1000000 in
theorem pseal_any (p : ByteArray) (hm : p.size ≤ 140737488355328) (w : World) :
    Calls Tryz.prog 141 #[.string p] w fun e w' => e = .returned (.string (sealB p)) ∧ Below w.heap.size w w' := by
  have HT := Lib.hid (fun W => right_any p hm W)
  unfold sealB
  cases hb : isPg p with
  | false =>
    rw [hb] at HT
    clear hb
    go_enter Tryz.func141, Tryz.ntmps141
    go_wp2_with (go_at_call 136; refine (HT.out _).mono ?_; rintro e w1 ⟨rfl, hb1⟩)
    go_ret
    exact ⟨rfl, hb1⟩
  | true =>
    have h512 := isPg_size hb
    have HS := Lib.hid (fun W => oseal_any (p.extract 4 512) (by simp; omega) W)
    rw [hb] at HT
    clear hb
    go_enter Tryz.func141, Tryz.ntmps141
    go_wp2_with (first | (go_at_call 136; refine (HT.out _).mono ?_; rintro e w1 ⟨rfl, hb1⟩) | (go_at_call 137; refine (HS.out _).mono ?_; rintro e w2 ⟨rfl, hb2⟩))
    go_ret
    exact ⟨rfl, andThen hb1 hb2⟩
def sealedP (p : ByteArray) : Bool := isPg p && decide (sealT (p.extract 4 512) = p)
theorem str_eq (a b : ByteArray) : (a.toList == b.toList) = decide (a = b) := by
  rw [ByteArray.toList_eq, ByteArray.toList_eq, Bool.beq_eq_decide_eq]
  by_cases h : a = b
  · simp [h]
  · have h1 : a.data.toList ≠ b.data.toList := fun e => h (ByteArray.ext (Array.toList_inj.1 e))
    simp [h, h1]
set_option maxRecDepth 100000 in
set_option maxHeartbeats 1000000 in
theorem sealed_any (p : ByteArray) (hm : p.size ≤ 140737488355328) (w : World) :
    Calls Tryz.prog 103 #[.string p] w fun e w' => e = .returned (.bool (sealedP p)) ∧ Below w.heap.size w w' := by
  have HT := Lib.hid (fun W => right_any p hm W)
  unfold sealedP
  cases hb : isPg p with
  | false =>
    rw [hb] at HT
    clear hb
    go_enter Tryz.func103, Tryz.ntmps103
    go_wp2_with (go_at_call 136; refine (HT.out _).mono ?_; rintro e w1 ⟨rfl, hb1⟩)
    go_ret
    exact ⟨rfl, hb1⟩
  | true =>
    have h512 := isPg_size hb
    have HS := Lib.hid (fun W => oseal_any (p.extract 4 512) (by simp; omega) W)
    have hc := str_eq (sealT (p.extract 4 512)) p
    generalize sealT (p.extract 4 512) = q at HS hc ⊢
    generalize decide (q = p) = b at hc ⊢
    rw [hb] at HT
    clear hb
    go_enter Tryz.func103, Tryz.ntmps103
    go_wp2_with (first | (go_at_call 136; refine (HT.out _).mono ?_; rintro e w1 ⟨rfl, hb1⟩) | (go_at_call 137; refine (HS.out _).mono ?_; rintro e w2 ⟨rfl, hb2⟩))
    go_ret
    exact ⟨by simp, andThen hb1 hb2⟩
abbrev OwnT (B : Nat) (w : World) (v : Value) (rs : List ByteArray) : Prop := w.ownsRow B 9 1 v rs.length (rs.map Value.string)
theorem OwnT.nil (B : Nat) (w : World) : OwnT B w (.slice none 0 0) [] := ⟨rfl, .inl ⟨rfl, rfl⟩⟩
theorem OwnT.below {B : Nat} {w w' : World} {v : Value} {rs : List ByteArray} (h : OwnT B w v rs) (hb : Below w.heap.size w w') : OwnT B w' v rs := ownsRow_below h hb
theorem OwnT.form {B : Nat} {w : World} {v : Value} {rs : List ByteArray} (h : OwnT B w v rs) : ∃ A c, v = .slice A rs.length c ∧ OwnCells B w A c rs ∧ Cells w A c rs := by
  obtain ⟨A, c, rfl⟩ : ∃ A c, v = .slice A rs.length c := by
    rcases h.2 with ⟨hv, hz⟩ | ⟨g, cap, cur, hv, _⟩
    · exact ⟨none, 0, by rw [hv, hz]⟩
    · exact ⟨_, _, hv⟩
  have h1 := own_cells h rfl
  exact ⟨A, c, rfl, h1, h1.cells⟩
theorem OwnT.block {B : Nat} {w : World} {v : Value} {rs : List ByteArray} (h : OwnT B w v rs) : ∀ k, v.ownBlock = some k → B ≤ k := fun k hk => (h.lt k hk).1
set_option maxRecDepth 100000 in
theorem wpList_app {ops : Array Oper} {rest : List Oper} {o : Oper} {a : Act} {Q : Exit → Act → World → Prop} (w : World) (hgd : o.guard = none) (s x : Operand)
    (ho : o.op = .call { callee := .builtin .append, args := #[s, x], argTypes := #[26, 26] })
    (B : Nat) (v : Value) (xs : List ByteArray) (hs : a.eval s = v) (hown : OwnT B w v xs) (A : Option Addr) (c : Nat) (ys : List ByteArray) (hx : a.eval x = .slice A ys.length c) (hy : Cells w A c ys)
    (hlen : xs.length + ys.length ≤ 1048576) (hbase : B ≤ w.heap.size)
    (h : ∀ v' w', OwnT B w' v' (xs ++ ys) → w.grownBy w' v.ownBlock → Below B w w' → wpList Tryz.prog ops Q rest (a.put o.dst v') w') : wpList Tryz.prog ops Q (o :: rest) a w := by
  obtain ⟨i0, hi, hz0, hz1, hz2⟩ := info_parts pinfo_string
  have hB : ∀ w' : World, w.grownBy w' v.ownBlock → Below B w w' := fun w' hg => (Below.refl _ _).grown hg hbase hown.block
  rcases A with _ | ad
  · have hn : ys = [] := by
      rcases Nat.eq_zero_or_pos ys.length with h0 | h0
      · exact List.eq_nil_of_length_eq_zero h0
      · obtain ⟨b, off, e, _⟩ := hy h0
        cases e
    subst hn
    refine wpList_plain hgd fun K hK => ?_
    have hrun : (Builtin.append_ #[26, 26] o.type #[v, .slice none 0 c]).run Tryz.prog w = .ok v w := by
      rcases hown.2 with ⟨rfl, hz⟩ | ⟨g, cap, cur, rfl, _, _, hnc, _⟩
      · simp [Builtin.append_, run_underlying Tryz.underlying26, sizeOf, typeInfo, hi, Builtin.lenOf, Builtin.firstCells]
      · simp [Builtin.append_, run_underlying Tryz.underlying26, sizeOf, typeInfo, hi, Builtin.lenOf, Builtin.firstCells, hnc, storeCells]
    unfold Oper.wp execOp
    have hx' : a.eval x = .slice none 0 c := hx
    simp only [ho, resolve, invoke, builtin, Sem.run_bind, Sem.run_pure, Result.andThen_ok, List.map_toArray, List.map_cons, List.map_nil, hs, hx', hrun]
    exact hK _ _ (h v w (by simpa using hown) (World.grownBy.refl w _) (Below.refl _ _))
  · refine wpList_append_own w hgd s x _ ho B 9 i0 (.string ⟨#[]⟩) 1 16 Tryz.underlying26 hi hz0 hz1 hz2 rfl (by omega) v xs.length (xs.map Value.string) hs hown ad ys.length c (ys.map Value.string) hx (by simp) ?_ ?_ (by simp only [maxLen]; omega) (by omega) hbase ?_
    · intro j u hu
      rw [List.getElem?_map] at hu
      obtain ⟨r, hr, rfl⟩ := Option.map_eq_some_iff.1 hu
      obtain ⟨hj, rfl⟩ := List.getElem?_eq_some_iff.1 hr
      obtain ⟨b, off, e, _, _, hcell⟩ := hy (by omega)
      injection e with e
      subst e
      rw [show (⟨b, off, none⟩ : Addr).add j = ⟨b, off + j, none⟩ from Addr.add_mid b off j]
      exact hcell j hj
    · intro u hu
      obtain ⟨r, _, rfl⟩ := List.mem_map.1 hu
      rfl
    · intro v' w' h1 h2 _
      exact h v' w' (by unfold OwnT; rw [List.length_append, List.map_append]; exact h1) h2 (hB w' h2)
end Go.Proofs.YtmebkghdkeeobaaGreatDoor
