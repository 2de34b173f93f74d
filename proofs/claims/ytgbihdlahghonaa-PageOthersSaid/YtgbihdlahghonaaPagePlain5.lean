/- The plain laws of pages, on texts. -/
import Derived.Test.YtgbihdlahghonaaPageZ
namespace Go.Proofs.Ytgbihdlahghonaa
open Go.RowKit

theorem list_of (l : List UInt8) : (⟨l.toArray⟩ : ByteArray).data.toList = l := rfl
theorem of_list (p : ByteArray) : (⟨p.data.toList.toArray⟩ : ByteArray) = p := by
  apply ByteArray.ext
  rw [Array.toArray_toList]
theorem bytes_eq {p q : ByteArray} (h : p.data.toList = q.data.toList) : p = q := ByteArray.ext (Array.toList_inj.1 h)
theorem isPg_of {p : ByteArray} {x : Pg.Leaf} (h : Pg.right p.data.toList = some x) : isPg p = true ∧ leafP p = x := by
  unfold isPg leafP Pg.leafOf
  rw [h]
  exact ⟨rfl, rfl⟩
theorem right_of_isPg {p : ByteArray} (h : isPg p = true) : Pg.right p.data.toList = some (leafP p) := by
  unfold isPg at h
  unfold leafP Pg.leafOf
  cases hr : Pg.right p.data.toList with
  | none => rw [hr] at h; cases h
  | some x => rfl
theorem size_list (p : ByteArray) : p.data.toList.length = p.size := by simp
/-- A laid page, as a text. -/
def pageB (x : Pg.Leaf) : ByteArray := ⟨(Pg.layL x).toArray⟩
theorem pageB_list (x : Pg.Leaf) : (pageB x).data.toList = Pg.layL x := rfl
theorem pageB_size {x : Pg.Leaf} (hs : Pg.sizeN (Pg.trim x.recs) ≤ 512) : (pageB x).size = 512 := by
  rw [← size_list, pageB_list]; exact Pg.layL_length hs
theorem pageB_is {x : Pg.Leaf} (hx : Pg.Small x) (hs : Pg.sizeN (Pg.trim x.recs) ≤ 512) (he : ∀ r ∈ x.recs, r.size ≤ 400) : isPg (pageB x) = true ∧ leafP (pageB x) = { x with recs := Pg.trim x.recs } :=
  isPg_of (by rw [pageB_list]; exact Pg.right_layL hx hs he)
theorem fullO_pageB {x : Pg.Leaf} (hs : Pg.sizeN (Pg.trim x.recs) ≤ 512) : Pg.fullO x = (pageB x, 0) := Pg.fullO_yes hs
theorem fullO_cases (x : Pg.Leaf) : (Pg.sizeN (Pg.trim x.recs) ≤ 512 ∧ Pg.fullO x = (pageB x, 0)) ∨ (512 < Pg.sizeN (Pg.trim x.recs) ∧ Pg.fullO x = (⟨#[]⟩, 18)) := by
  rcases Nat.lt_or_ge 512 (Pg.sizeN (Pg.trim x.recs)) with h | h
  · exact .inr ⟨h, Pg.fullO_no h⟩
  · exact .inl ⟨h, Pg.fullO_yes h⟩

/-- The sum takes four bytes. -/
theorem putB4 (n : Nat) : (Oct.putB (n : Int) 4).data.toList = Oct.putL (Oct.word n) 4 := Oct.putB_list _ 4 (by omega)
theorem sealT_list (t : ByteArray) : (sealT t).data.toList = Oct.putL (Oct.word (Oct.sumN t.data.toList)) 4 ++ t.data.toList := by
  unfold sealT
  rw [ByteArray.data_append, Array.toList_append, putB4]
theorem extract_list (p : ByteArray) (h : p.size = 512) : (p.extract 4 512).data.toList = p.data.toList.drop 4 := by
  rw [show 512 = 4 + 508 from rfl, extract_eq]
  show (p.data.toList.drop 4).take 508 = _
  exact List.take_of_length_le (by rw [List.length_drop, size_list]; omega)
/-- A page with its sum is the same page, and has its sum. -/
theorem sealB_is {p : ByteArray} (h : isPg p = true) : isPg (sealB p) = true ∧ leafP (sealB p) = leafP p ∧ sealedP (sealB p) = true ∧ (sealB p).size = 512 := by
  have h5 := isPg_size h
  have hl : (sealB p).data.toList = Oct.putL (Oct.word (Oct.sumN (p.data.toList.drop 4))) 4 ++ p.data.toList.drop 4 := by
    unfold sealB
    rw [if_pos h, sealT_list, extract_list p h5]
  have hz : (sealB p).size = 512 := by
    rw [← size_list, hl, List.length_append, Oct.putL_length, List.length_drop, size_list]; omega
  have hd : (sealB p).data.toList.drop 4 = p.data.toList.drop 4 := by rw [hl]; exact List.drop_left' (Oct.putL_length _ 4)
  have hr := Pg.right_sum (q := (sealB p).data.toList) (right_of_isPg h) (by rw [size_list]; exact hz) hd
  obtain ⟨h1, h2⟩ := isPg_of hr
  refine ⟨h1, h2, ?_, hz⟩
  unfold sealedP
  rw [h1, Bool.true_and]
  apply decide_eq_true
  apply bytes_eq
  rw [sealT_list, extract_list _ hz, hd]
  exact hl.symm
end Go.Proofs.Ytgbihdlahghonaa
