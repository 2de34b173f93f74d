import Derived.Test.YtmebkghdkeeobaaGreatDoorHo00
import Derived.Test.YtmebkghdkeeobaaGreatDoorHo03
import Derived.Test.YtmebkghdkeeobaaGreatDoorHo02
set_option maxRecDepth 100000
set_option maxHeartbeats 16000000
set_option linter.unusedSimpArgs false
namespace Go.Proofs.YtmebkghdkeeobaaGreatDoor
open Go.RowKit
theorem list_of (l : List UInt8) : (⟨l.toArray⟩ : ByteArray).data.toList = l := rfl
theorem of_list (p : ByteArray) : (⟨p.data.toList.toArray⟩ : ByteArray) = p := by
  apply ByteArray.ext
  rw [Array.toArray_toList]
theorem bytes_eq {p q : ByteArray} (h : p.data.toList = q.data.toList) : p = q := ByteArray.ext (Array.toList_inj.1 h)
theorem isPg_of {p : ByteArray} {x : Pg.Leaf} (h : Pg.right p.data.toList = some x) : isPg p = true ∧ leafP p = x := by
  unfold isPg leafP Pg.leafOf
  rw [h]
  exact ⟨rfl, rfl⟩
theorem right_of_isPg {p : ByteArray} (h : isPg p = true) : Pg.right p.data.toList = some (leafP p) := by
  unfold isPg at h
  unfold leafP Pg.leafOf
  cases hr : Pg.right p.data.toList with
  | none => rw [hr] at h; cases h
  | some x => rfl
theorem size_list (p : ByteArray) : p.data.toList.length = p.size := by simp
def pageB (x : Pg.Leaf) : ByteArray := ⟨(Pg.layL x).toArray⟩
theorem pageB_list (x : Pg.Leaf) : (pageB x).data.toList = Pg.layL x := rfl
theorem pageB_size {x : Pg.Leaf} (hs : Pg.sizeN (Pg.trim x.recs) ≤ 512) : (pageB x).size = 512 := by
  rw [← size_list, pageB_list]; exact Pg.layL_length hs
theorem pageB_is {x : Pg.Leaf} (hx : Pg.Small x) (hs : Pg.sizeN (Pg.trim x.recs) ≤ 512) (he : ∀ r ∈ x.recs, r.size ≤ 400) : isPg (pageB x) = true ∧ leafP (pageB x) = { x with recs := Pg.trim x.recs } :=
  isPg_of (by rw [pageB_list]; exact Pg.right_layL hx hs he)
theorem fullO_pageB {x : Pg.Leaf} (hs : Pg.sizeN (Pg.trim x.recs) ≤ 512) : Pg.fullO x = (pageB x, 0) := Pg.fullO_yes hs
theorem putB4 (n : Nat) : (Oct.putB (n : Int) 4).data.toList = Oct.putL (Oct.word n) 4 := Oct.putB_list _ 4 (by omega)
theorem sealT_list (t : ByteArray) : (sealT t).data.toList = Oct.putL (Oct.word (Oct.sumN t.data.toList)) 4 ++ t.data.toList := by
  unfold sealT
  rw [ByteArray.data_append, Array.toList_append, putB4]
theorem pextract_list (p : ByteArray) (h : p.size = 512) : (p.extract 4 512).data.toList = p.data.toList.drop 4 := by
  rw [show 512 = 4 + 508 from rfl, extract_eq]
  show (p.data.toList.drop 4).take 508 = _
  exact List.take_of_length_le (by rw [List.length_drop, size_list]; omega)
theorem sealB_is {p : ByteArray} (h : isPg p = true) : isPg (sealB p) = true ∧ leafP (sealB p) = leafP p ∧ sealedP (sealB p) = true ∧ (sealB p).size = 512 := by
  have h5 := isPg_size h
  have hl : (sealB p).data.toList = Oct.putL (Oct.word (Oct.sumN (p.data.toList.drop 4))) 4 ++ p.data.toList.drop 4 := by
    unfold sealB
    rw [if_pos h, sealT_list, pextract_list p h5]
  have hz : (sealB p).size = 512 := by
    rw [← size_list, hl, List.length_append, Oct.putL_length, List.length_drop, size_list]; omega
  have hd : (sealB p).data.toList.drop 4 = p.data.toList.drop 4 := by rw [hl]; exact List.drop_left' (Oct.putL_length _ 4)
  have hr := Pg.right_sum (q := (sealB p).data.toList) (right_of_isPg h) (by rw [size_list]; exact hz) hd
  obtain ⟨h1, h2⟩ := isPg_of hr
  refine ⟨h1, h2, ?_, hz⟩
  unfold sealedP
  rw [h1, Bool.true_and]
  apply decide_eq_true
  apply bytes_eq
  rw [sealT_list, pextract_list _ hz, hd]
  exact hl.symm
theorem plain_page {p : ByteArray} (h : isPg p = true) : lsnB p ((leafP p).lsn : Nat) = pageB (leafP p) := by
  have h1 := (leafP_good p).fine.small.1
  unfold lsnB
  rw [if_neg (by rw [h]; simp; omega)]
  rfl
def plB (p : ByteArray) : ByteArray := lsnB p ((leafP p).lsn : Nat)
theorem head_is (p : ByteArray) {l k : Nat} (hl : l < 281474976710656) (hk : k < 16777216) : isPg (pageB ⟨l, (leafP p).kind, k, (leafP p).recs⟩) = true ∧ leafP (pageB ⟨l, (leafP p).kind, k, (leafP p).recs⟩) = ⟨l, (leafP p).kind, k, (leafP p).recs⟩ ∧ (pageB ⟨l, (leafP p).kind, k, (leafP p).recs⟩).size = 512 := by
  have hg := leafP_good p
  have ht := Pg.trim_of_tight hg.tight
  have hs : Pg.sizeN (Pg.trim (leafP p).recs) ≤ 512 := by rw [ht]; exact hg.fits
  obtain ⟨h1, h2⟩ := pageB_is (x := ⟨l, (leafP p).kind, k, (leafP p).recs⟩) ⟨hl, hg.fine.small.2.1, hk⟩ hs hg.fine.each
  refine ⟨h1, ?_, pageB_size hs⟩
  rw [h2]
  simp only [ht]
theorem lsn_head {p : ByteArray} (h : isPg p = true) {l : Nat} (hl : l < 281474976710656) : lsnB p (l : Int) = pageB ⟨l, (leafP p).kind, (leafP p).link, (leafP p).recs⟩ := by
  unfold lsnB
  rw [if_neg (by rw [h]; simp; omega)]
  rfl
theorem lsn_small (p : ByteArray) : (leafP p).lsn < 281474976710656 := (leafP_good p).fine.small.1
theorem link_small (p : ByteArray) : (leafP p).link < 16777216 := (leafP_good p).fine.small.2.2
theorem lsn_page {p : ByteArray} (h : isPg p = true) {l : Nat} (hl : l < 281474976710656) : isPg (lsnB p (l : Int)) = true ∧ leafP (lsnB p (l : Int)) = ⟨l, (leafP p).kind, (leafP p).link, (leafP p).recs⟩ ∧ (lsnB p (l : Int)).size = 512 := by
  rw [lsn_head h hl]; exact head_is p hl (link_small p)
theorem lsn_lsn {p : ByteArray} (h : isPg p = true) {l m : Nat} (hl : l < 281474976710656) (hm : m < 281474976710656) : lsnB (lsnB p (l : Int)) (m : Int) = lsnB p (m : Int) := by
  obtain ⟨h1, h2, _⟩ := lsn_page h hl
  rw [lsn_head h1 hm, lsn_head h hm, h2]
theorem plB_eq {p : ByteArray} (h : isPg p = true) : plB p = pageB (leafP p) := plain_page h
structure Nrm (p : ByteArray) : Prop where
  is : isPg p = true
  pl : plB p = p
theorem Nrm.eq {p : ByteArray} (h : Nrm p) : pageB (leafP p) = p := (plB_eq h.is).symm.trans h.pl
theorem Nrm.size {p : ByteArray} (h : Nrm p) : p.size = 512 := isPg_size h.is
theorem nrm_page {x : Pg.Leaf} (hx : Pg.Small x) (hs : Pg.sizeN x.recs ≤ 512) (he : ∀ r ∈ x.recs, r.size ≤ 400) (ht : Pg.trim x.recs = x.recs) : Nrm (pageB x) ∧ leafP (pageB x) = x := by
  obtain ⟨h1, h2⟩ := pageB_is hx (by rw [ht]; exact hs) he
  have h3 : leafP (pageB x) = x := by rw [h2, ht]
  exact ⟨⟨h1, by rw [plB_eq h1, h3]⟩, h3⟩
theorem nrm_lsn {p : ByteArray} (h : isPg p = true) {l : Nat} (hl : l < 281474976710656) : Nrm (lsnB p (l : Int)) ∧ leafP (lsnB p (l : Int)) = ⟨l, (leafP p).kind, (leafP p).link, (leafP p).recs⟩ := by
  obtain ⟨h1, h2, _⟩ := lsn_page h hl
  refine ⟨⟨h1, ?_⟩, h2⟩
  unfold plB
  rw [h2]
  exact lsn_lsn h hl hl
theorem seal_pl {p : ByteArray} (h : Nrm p) : plB (sealB p) = p := by
  obtain ⟨h1, h2, _⟩ := sealB_is h.is
  rw [plB_eq h1, h2, h.eq]
def zeroP : ByteArray := ⟨(List.replicate 512 0).toArray⟩
theorem zero_none : isPg zeroP = false := by
  have h : Pg.right zeroP.data.toList = none := by
    have e : zeroP.data.toList = List.replicate 512 0 := rfl
    rw [e]
    decide +kernel
  unfold isPg
  rw [h]; rfl
theorem seal_zero {p : ByteArray} (h : isPg p = true) : sealB p ≠ zeroP := fun e => by
  have h1 := (sealB_is h).1
  rw [e, zero_none] at h1
  cases h1
theorem new_nrm (k : Nat) (hk : k ≤ 4) : Nrm (newB k) ∧ leafP (newB k) = ⟨0, k, 0, []⟩ := by
  have e : newB (k : Int) = pageB ⟨0, k, 0, []⟩ := by unfold newB; rw [if_neg (by omega)]; rfl
  rw [e]
  exact nrm_page ⟨by show 0 < 281474976710656; omega, hk, by show 0 < 16777216; omega⟩ (by show 19 ≤ 512; omega) (fun r h => by cases h) (Pg.trim_of_tight fun r h => by cases h)
theorem whole_nrm {p q : ByteArray} (_hp : isPg p = true) (hq : isPg q = true) : Nrm (lsnB q ((leafP p).lsn : Nat)) ∧ leafP (lsnB q ((leafP p).lsn : Nat)) = ⟨(leafP p).lsn, (leafP q).kind, (leafP q).link, (leafP q).recs⟩ := nrm_lsn hq (lsn_small p)
theorem set_nrm {p r b : ByteArray} (hp : Nrm p) (h1 : (leafP p).recs = [b]) (hb : b.size ≠ 0) (hr : r.size ≠ 0) (hs : r.size ≤ 400) :
    setO p 0 r = (pageB { leafP p with recs := [r] }, 0) ∧ Nrm (pageB { leafP p with recs := [r] }) ∧ leafP (pageB { leafP p with recs := [r] }) = { leafP p with recs := [r] } := by
  have hg := leafP_good p
  have hsl : Pg.slotAt (leafP p).recs 0 = b := by rw [h1]; rfl
  have ht : Pg.trim [r] = [r] := Pg.trim_of_tight fun x hx => by simp at hx; rw [← hx]; exact hr
  have hsz : Pg.sizeN [r] ≤ 512 := by unfold Pg.sizeN Pg.sumSizes Pg.sumSizes; simp; omega
  have hn := nrm_page (x := { leafP p with recs := [r] }) hg.fine.small hsz (fun x hx => by simp at hx; rw [hx]; exact hs) ht
  refine ⟨?_, hn⟩
  unfold setO
  rw [if_neg (by rw [hp.is]; decide), if_neg (by unfold mayB; rw [decide_eq_true (by omega)]; decide), hsl, if_neg hb]
  have e : Pg.putAt (leafP p).recs (0 : Int).toNat r = [r] := by rw [h1]; rfl
  rw [e]
  exact fullO_pageB (x := withRecs p [r]) (by show Pg.sizeN (Pg.trim [r]) ≤ 512; rw [ht]; exact hsz)
end Go.Proofs.YtmebkghdkeeobaaGreatDoor
