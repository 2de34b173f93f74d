import Derived.Test.YtmebkghdkeeobaaGreatDoorHo00
import Derived.Test.YtmebkghdkeeobaaGreatDoorHo07
import Derived.Test.YtmebkghdkeeobaaGreatDoorHo04
import Derived.Test.YtmebkghdkeeobaaGreatDoorHo01
import Derived.Lib.SliceRun
import Derived.Deep.RegionLaw
import Derived.Deep.MidRow
set_option maxRecDepth 100000
set_option maxHeartbeats 16000000
set_option linter.unusedSimpArgs false
namespace Lg
open Rc
def logS (F N : Nat) (d : Dk) : List UInt8 := flat ((d.sectors.drop F).take N)
theorem logS_len {F N : Nat} {d : Dk} (hw : Whole d.sectors) (hr : F + N ≤ d.sectors.length) : (logS F N d).length = N * 128 := by
  unfold logS
  rw [flat_len ((hw.drop F).take N), List.length_take, List.length_drop]
  congr 1; omega
theorem set_part {L : List ByteArray} {F N j : Nat} {b : ByteArray} (hj : j < N) : ((L.set (F + j) b).drop F).take N = ((L.drop F).take N).set j b := by
  refine List.ext_getElem? fun i => ?_
  simp only [List.getElem?_take, List.getElem?_drop, List.getElem?_set, List.length_take, List.length_drop]
  by_cases h1 : i < N
  · by_cases h2 : i = j
    · subst h2
      simp only [if_pos h1, if_pos]
      by_cases h3 : F + i < L.length
      · rw [if_pos h3, if_pos (by omega)]
      · rw [if_neg h3, if_neg (by omega)]
    · simp only [if_pos h1]
      rw [if_neg (by omega), if_neg (by omega)]
  · rw [if_neg h1]
    rw [if_neg (by omega), if_neg h1]
theorem flat_cutW (n : Nat) : ∀ l : List UInt8, l.length ≤ n → flat (cutW l) = l ++ List.replicate ((cutW l).length * 128 - l.length) 0 := by
  induction n with
  | zero =>
    intro l hl
    rw [List.eq_nil_of_length_eq_zero (l := l) (by omega), cutW_nil]; rfl
  | succ n ih =>
    intro l hl
    by_cases h : l = []
    · rw [h, cutW_nil]; rfl
    · have h0 : 0 < l.length := by cases l with
        | nil => contradiction
        | cons a l => simp
      have hd : (pad128 (l.take 128)).data.toList = l.take 128 ++ List.replicate (128 - (l.take 128).length) 0 := by unfold pad128; rfl
      rw [cutW_cons h, flat_cons, hd, ih _ (by rw [List.length_drop]; omega), List.length_cons]
      have hcl := cutW_length _ (l.drop 128) (Nat.le_refl _)
      by_cases hs : l.length ≤ 128
      · have e1 : l.drop 128 = [] := List.drop_eq_nil_of_le hs
        rw [e1, cutW_nil, List.take_of_length_le hs]
        simp
      · have e1 : (l.take 128).length = 128 := by rw [List.length_take]; omega
        rw [e1, Nat.sub_self, List.replicate_zero, List.append_nil, ← List.append_assoc, List.take_append_drop, List.length_drop]
        rw [List.length_drop] at hcl
        have e2 : (cutW (l.drop 128)).length * 128 - (l.length - 128) = ((cutW (l.drop 128)).length + 1) * 128 - l.length := by omega
        rw [e2]
theorem flat_one : flat [zero128] = List.replicate 128 0 := by
  have h : ∀ l : List UInt8, flat [⟨l.toArray⟩] = l := fun l => by unfold flat; simp
  exact h _
theorem piece_of {L : List ByteArray} (h : Whole L) (i : Nat) (hi : i < L.length) : (L[i]?.getD ⟨#[]⟩).data.toList = ((flat L).drop (i * 128)).take 128 ∧ (L[i]?.getD ⟨#[]⟩).size = 128 := by
  rw [List.getElem?_eq_getElem hi, Option.getD_some]
  refine ⟨?_, h _ (List.getElem_mem hi)⟩
  rw [← flat_drop h, List.drop_eq_getElem_cons hi, flat_cons, List.take_left' (by have := h _ (List.getElem_mem hi); simpa using this)]
structure LInv (F N : Nat) (d : Dk) (g : Lo) (r1 r2 : List Rec) : Prop where
  whole : Whole d.sectors
  room : F + N ≤ d.sectors.length
  hf : g.from_ = (F : Int)
  hn : g.n = (N : Int)
  row : Row 0 (r1 ++ r2)
  pre : (logS F N d).take (bytes r1).length = bytes r1
  safe : g.safe = ((bytes r1).length : Int)
  end_ : g.end_ = ((bytes (r1 ++ r2)).length : Int)
  tail : g.tail = ⟨((bytes (r1 ++ r2)).drop ((bytes r1).length - (bytes r1).length % 128)).toArray⟩
  fit : (bytes (r1 ++ r2)).length ≤ N * 128
theorem bytes_le (r1 r2 : List Rec) : (bytes (r1 ++ r2)).length = (bytes r1).length + (bytes r2).length := by rw [bytes_append, List.length_append]
theorem bytes_one (r : Rec) : bytes [r] = putR r := by unfold bytes; simp
theorem bytes_nil {l : List Rec} (h : (bytes l).length = 0) : l = [] := by
  cases l with
  | nil => rfl
  | cons r l => rw [bytes_cons, List.length_append, putR_len] at h; omega
theorem LInv.tail_size {F N : Nat} {d : Dk} {g : Lo} {r1 r2 : List Rec} (h : LInv F N d g r1 r2) : (g.tail.size : Int) = g.end_ - (((bytes r1).length / 128 * 128 : Nat) : Int) := by
  have h1 := bytes_le r1 r2
  rw [h.tail, h.end_]
  show ((((bytes (r1 ++ r2)).drop ((bytes r1).length - (bytes r1).length % 128)).toArray.size : Nat) : Int) = _
  rw [List.size_toArray, List.length_drop]
  omega
theorem LInv.new {F N : Nat} {d : Dk} (hw : Whole d.sectors) (hr : F + N ≤ d.sectors.length) : LInv F N d ⟨F, N, 0, 0, ⟨#[]⟩⟩ [] [] :=
  ⟨hw, hr, rfl, rfl, trivial, rfl, rfl, rfl, rfl, Nat.zero_le _⟩
theorem LInv.append {F N : Nat} {d : Dk} {g : Lo} {r1 r2 : List Rec} (h : LInv F N d g r1 r2) (r : Rec) :
    (appendD g r = (g, 0, 1)) ∨ (appendD g r = (g, 0, 18)) ∨
    ((appendD g r).2 = (g.end_ + 1, 0) ∧ LInv F N d (appendD g r).1 r1 (r2 ++ [{ r with lsn := g.end_ + 1 }])) := by
  by_cases h1 : Right { r with lsn := g.end_ + 1 }
  · by_cases h2 : g.n * 128 - ((putR { r with lsn := g.end_ + 1 }).length : Int) < g.end_
    · refine .inr (.inl ?_)
      unfold appendD; simp only; rw [if_neg (fun hn => hn h1), if_pos h2]
    · refine .inr (.inr ?_)
      have e : appendD g r = ({ g with end_ := g.end_ + ((putR { r with lsn := g.end_ + 1 }).length : Int), tail := g.tail ++ ⟨(putR { r with lsn := g.end_ + 1 }).toArray⟩ }, g.end_ + 1, 0) := by
        unfold appendD; simp only; rw [if_neg (fun hn => hn h1), if_neg h2]
      rw [e]
      refine ⟨rfl, ?_⟩
      have hb : bytes (r1 ++ (r2 ++ [{ r with lsn := g.end_ + 1 }])) = bytes (r1 ++ r2) ++ putR { r with lsn := g.end_ + 1 } := by
        rw [← List.append_assoc, bytes_append (r1 ++ r2), bytes_one]
      refine ⟨h.whole, h.room, h.hf, h.hn, ?_, h.pre, h.safe, ?_, ?_, ?_⟩
      · rw [← List.append_assoc, row_append]
        refine ⟨h.row, h1, ?_, trivial⟩
        show g.end_ + 1 = _
        rw [h.end_]; simp
      · show g.end_ + _ = _
        rw [hb, List.length_append, h.end_]; omega
      · show g.tail ++ _ = _
        have h3 := bytes_le r1 r2
        rw [hb, h.tail, List.drop_append_of_le_length (by omega)]
        apply ByteArray.ext
        rw [ByteArray.data_append]
        simp
      · rw [hb, List.length_append]
        have h4 := h.hn
        have h5 := h.end_
        omega
  · refine .inl ?_
    unfold appendD; simp only; rw [if_pos h1]
structure Sects (F N f : Nat) (s n t : List UInt8) (all : List ByteArray) : Prop where
  whole : Whole all
  fits : f + all.length ≤ N
  some_ : 0 < all.length
  flat_ : n = s.take (f * 128) ++ (flat all ++ s.drop ((f + all.length) * 128))
  len : s.length = N * 128
theorem Sects.nlen {F N f : Nat} {s n t : List UInt8} {all : List ByteArray} (h : Sects F N f s n t all) : n.length = N * 128 := by
  have h1 := h.fits
  have h2 := h.len
  rw [h.flat_, List.length_append, List.length_append, flat_len h.whole, List.length_take, List.length_drop]
  omega
theorem Sects.piece {F N f : Nat} {s n t : List UInt8} {all : List ByteArray} (h : Sects F N f s n t all) (i : Nat) (hi : i < all.length) : (all[i]?.getD ⟨#[]⟩).data.toList = (n.drop ((f + i) * 128)).take 128 ∧ (all[i]?.getD ⟨#[]⟩).size = 128 := by
  obtain ⟨h1, h2⟩ := piece_of h.whole i hi
  refine ⟨?_, h2⟩
  have h3 := h.fits
  have h4 := h.len
  have h5 := flat_len h.whole
  rw [h1, h.flat_, show (f + i) * 128 = f * 128 + i * 128 by omega, ← List.drop_drop, List.drop_left' (by rw [List.length_take]; omega), List.drop_append_of_le_length (by omega), List.take_append_of_le_length (by rw [List.length_drop]; omega)]
theorem Sects.start {F N f : Nat} {s n t : List UInt8} {all : List ByteArray} (h : Sects F N f s n t all) : mix s n ((f + all.length) * 128) = s := by
  have h3 := h.fits
  have h4 := h.len
  have h5 := flat_len h.whole
  unfold mix
  rw [h.flat_, ← List.append_assoc, List.drop_left' (by rw [List.length_append, List.length_take]; omega), List.take_append_drop]
theorem Sects.all_ {F N f : Nat} {s n t : List UInt8} {all : List ByteArray} (h : Sects F N f s n t all) : mix s n (f * 128) = n := by
  refine mix_eq (by rw [h.len, h.nlen]) fun i hi => ?_
  have h3 := h.fits
  have h4 := h.len
  rw [h.flat_, List.getElem?_append_left (by rw [List.length_take]; omega), List.getElem?_take, if_pos hi]
theorem putAll_mix {F N f : Nat} {s n t : List UInt8} {all : List ByteArray} (hS : Sects F N f s n t all) : ∀ (i : Nat), i ≤ all.length → ∀ d : Dk, Whole d.sectors → F + N ≤ d.sectors.length → d.down = false → -1 ≤ d.left → logS F N d = mix s n ((f + i) * 128) →
    ((putAll ((F : Int) + f) all i d).2 = 0 ∧ (putAll ((F : Int) + f) all i d).1.down = false ∧ -1 ≤ (putAll ((F : Int) + f) all i d).1.left ∧ (d.left = -1 → (putAll ((F : Int) + f) all i d).1.left = -1) ∧ logS F N (putAll ((F : Int) + f) all i d).1 = mix s n (f * 128) ∧ Whole (putAll ((F : Int) + f) all i d).1.sectors ∧ (putAll ((F : Int) + f) all i d).1.sectors.length = d.sectors.length) ∨
    ((putAll ((F : Int) + f) all i d).2 = 20 ∧ d.left ≠ -1 ∧ (∃ q, logS F N (putAll ((F : Int) + f) all i d).1 = mix s n q) ∧ Whole (putAll ((F : Int) + f) all i d).1.sectors ∧ (putAll ((F : Int) + f) all i d).1.sectors.length = d.sectors.length) := by
  intro i
  induction i with
  | zero =>
    intro _ d hw hr hd hl hs
    exact .inl ⟨rfl, hd, hl, fun h => h, by unfold putAll; exact hs, hw, rfl⟩
  | succ i ih =>
    intro hi d hw hr hd hl hs
    obtain ⟨hp1, hp2⟩ := hS.piece i (by omega)
    have hfit := hS.fits
    have hhas : hasD d ((F : Int) + f + (i : Int)) := ⟨by omega, by omega⟩
    by_cases h0 : d.left = 0
    · have e : writeD d ((F : Int) + f + (i : Int)) (all[i]?.getD ⟨#[]⟩) = ({ d with down := true }, 20) := by
        unfold writeD
        rw [hd, if_neg (by simp), if_neg (fun hn => hn ⟨hhas, hp2⟩), if_pos h0]
      have e2 : putAll ((F : Int) + f) all (i + 1) d = ({ d with down := true }, 20) := by
        unfold putAll
        rw [e, if_neg (show ¬ (20 : Int) = 0 by decide)]
      rw [e2]
      exact .inr ⟨rfl, by omega, ⟨_, hs⟩, hw, rfl⟩
    · obtain ⟨d2, hd2⟩ : ∃ d2 : Dk, d2 = { d with sectors := d.sectors.set ((F : Int) + f + (i : Int)).toNat (all[i]?.getD ⟨#[]⟩), left := if 0 < d.left then d.left - 1 else d.left } := ⟨_, rfl⟩
      have e : writeD d ((F : Int) + f + (i : Int)) (all[i]?.getD ⟨#[]⟩) = (d2, 0) := by
        unfold writeD
        rw [hd, if_neg (by simp), if_neg (fun hn => hn ⟨hhas, hp2⟩), if_neg h0, hd2, ← hd]
      have e2 : putAll ((F : Int) + f) all (i + 1) d = putAll ((F : Int) + f) all i d2 := by
        conv => lhs; unfold putAll
        rw [e, if_pos rfl]
      rw [e2]
      have hidx : ((F : Int) + f + (i : Int)).toNat = F + (f + i) := by omega
      have hsec : d2.sectors = d.sectors.set (F + (f + i)) (all[i]?.getD ⟨#[]⟩) := by rw [hd2, ← hidx]
      have hleft : d2.left = if 0 < d.left then d.left - 1 else d.left := by rw [hd2]
      have hlen : d2.sectors.length = d.sectors.length := by rw [hsec, List.length_set]
      have hlog : logS F N d2 = mix s n ((f + i) * 128) := by
        unfold logS
        rw [hsec, set_part (by omega)]
        refine mix_step ((hw.drop F).take N) hp2 (by rw [List.length_take, List.length_drop]; omega) (by rw [hS.len, hS.nlen]) ?_ hp1
        have : (f + i + 1) * 128 = (f + (i + 1)) * 128 := by omega
        rw [this]; exact hs
      have hw2 : Whole d2.sectors := by rw [hsec]; exact hw.set _ hp2
      have h6 := ih (by omega) d2 hw2 (by omega) (by rw [hd2]; exact hd) (by rw [hleft]; split <;> omega) hlog
      have hm1 : d.left = -1 → d2.left = -1 := fun hx => by rw [hleft, if_neg (by omega)]; exact hx
      rcases h6 with ⟨a1, a2, a3, a4, a5, a6, a7⟩ | ⟨a1, a2, a3, a4, a5⟩
      · exact .inl ⟨a1, a2, a3, fun hx => a4 (hm1 hx), a5, a6, by omega⟩
      · exact .inr ⟨a1, fun hx => a2 (hm1 hx), a3, a4, by omega⟩
theorem LInv.firstS {F N : Nat} {d : Dk} {g : Lo} {r1 r2 : List Rec} (h : LInv F N d g r1 r2) : firstS g = (((bytes r1).length / 128 : Nat) : Int) := by
  unfold Lg.firstS
  have := h.tail_size
  rw [this]
  omega
theorem LInv.sects {F N : Nat} {d : Dk} {g : Lo} {r1 r2 : List Rec} (h : LInv F N d g r1 r2) (h2 : r2 ≠ []) :
    ∃ n, Sects F N ((bytes r1).length / 128) (logS F N d) n [] (allS g) ∧ Lies n (r1 ++ r2) := by
  obtain ⟨X, hX⟩ : ∃ X, X = (bytes r1).length := ⟨_, rfl⟩
  obtain ⟨Y, hY⟩ : ∃ Y, Y = (bytes (r1 ++ r2)).length := ⟨_, rfl⟩
  have hXY := bytes_le r1 r2
  have hpos : 0 < (bytes r2).length := Nat.pos_of_ne_zero fun hz => h2 (bytes_nil hz)
  have hfit := h.fit
  have hsl := logS_len (N := N) h.whole h.room
  have htl : g.tail.data.toList = (bytes (r1 ++ r2)).drop (X - X % 128) := by rw [h.tail, hX]
  have hts : g.tail.size = Y - (X - X % 128) := by
    have : g.tail.data.toList.length = g.tail.size := by simp
    rw [← this, htl, List.length_drop, hY]
  have hcl := cutB_length g.tail
  have hcf : flat (cutB g.tail) = (bytes (r1 ++ r2)).drop (X - X % 128) ++ List.replicate ((cutB g.tail).length * 128 - g.tail.size) 0 := by
    unfold cutB
    rw [flat_cutW _ _ (Nat.le_refl _), htl, List.length_drop, ← htl, hts, ← hY]
  obtain ⟨z, hz, hzl, hzb⟩ : ∃ z, flat (allS g) = (bytes (r1 ++ r2)).drop (X - X % 128) ++ List.replicate z 0 ∧ (X / 128 + (allS g).length ≤ N) ∧ (128 ≤ z ∨ Y + z = N * 128) := by
    unfold allS
    rw [h.firstS, h.hn, ← hX]
    by_cases hc : (((X / 128 : Nat) : Int) + ((cutB g.tail).length : Int)) < (N : Int)
    · rw [if_pos hc]
      refine ⟨(cutB g.tail).length * 128 - g.tail.size + 128, ?_, ?_, .inl (by omega)⟩
      · rw [flat_append, hcf, flat_one, List.append_assoc, List.replicate_append_replicate]
      · rw [List.length_append]; simp; omega
    · rw [if_neg hc]
      refine ⟨(cutB g.tail).length * 128 - g.tail.size, hcf, ?_, .inr ?_⟩
      · omega
      · omega
  have hwa : Whole (allS g) := by
    unfold allS
    split
    · intro b hb
      rcases List.mem_append.1 hb with h3 | h3
      · exact cutB_size _ b h3
      · rw [List.mem_singleton.1 h3]; exact zero128_size
    · exact cutB_size _
  have hal : 0 < (allS g).length := by
    have : (cutB g.tail).length ≤ (allS g).length := by unfold allS; split <;> simp
    omega
  have hfl := flat_len hwa
  rw [hz, List.length_append, List.length_drop, List.length_replicate, ← hY] at hfl
  obtain ⟨n, hn⟩ : ∃ n, n = (logS F N d).take (X / 128 * 128) ++ (flat (allS g) ++ (logS F N d).drop ((X / 128 + (allS g).length) * 128)) := ⟨_, rfl⟩
  have hS : Sects F N (X / 128) (logS F N d) n [] (allS g) := ⟨hwa, hzl, hal, hn, hsl⟩
  have hall : n = bytes (r1 ++ r2) ++ (List.replicate z 0 ++ (logS F N d).drop ((X / 128 + (allS g).length) * 128)) := by
    have e1 : (logS F N d).take (X / 128 * 128) = (bytes (r1 ++ r2)).take (X / 128 * 128) := by
      have h3 := congrArg (List.take (X / 128 * 128)) h.pre
      rw [List.take_take, Nat.min_eq_left (by omega)] at h3
      rw [h3, bytes_append, List.take_append_of_le_length (by omega)]
    rw [hn, hz, e1, show X - X % 128 = X / 128 * 128 by omega, List.append_assoc, ← List.append_assoc, List.take_append_drop]
  refine ⟨n, by rw [← hX]; exact hS, h.row, ?_, ?_, ?_⟩
  · rw [hall, List.take_left' rfl]
  · rw [hS.nlen]; exact hfit
  · intro i h3 h4 h5
    rw [hS.nlen] at h5
    rw [hall, List.getElem?_append_right h3, List.getElem?_append_left (by rw [List.length_replicate]; omega), List.getElem?_replicate, if_pos (by omega)]
theorem LInv.force {F N : Nat} {d : Dk} {g : Lo} {r1 r2 : List Rec} (h : LInv F N d g r1 r2) (hd : d.down = false) (hl : -1 ≤ d.left) :
    ((forceD d g).2.2 = 0 ∧ LInv F N (forceD d g).1 (forceD d g).2.1 (r1 ++ r2) [] ∧ (forceD d g).1.down = false ∧ -1 ≤ (forceD d g).1.left ∧ (d.left = -1 → (forceD d g).1.left = -1) ∧ (forceD d g).1.sectors.length = d.sectors.length ∧ (forceD d g).2.1.safe = (forceD d g).2.1.end_ ∧ (Lies (logS F N d) r1 ∨ r2 ≠ [] → Lies (logS F N (forceD d g).1) (r1 ++ r2))) ∨
    ((forceD d g).2.2 = 20 ∧ r2 ≠ [] ∧ (forceD d g).2.1 = g ∧ d.left ≠ -1 ∧ Whole (forceD d g).1.sectors ∧ (forceD d g).1.sectors.length = d.sectors.length ∧ ∃ n q, Lies n (r1 ++ r2) ∧ n.length = N * 128 ∧ logS F N (forceD d g).1 = mix (logS F N d) n q) := by
  by_cases h2 : r2 = []
  · subst h2
    have hse : g.safe = g.end_ := by rw [h.safe, h.end_, List.append_nil]
    have e : forceD d g = (d, g, 0) := by unfold forceD; rw [if_pos hse]
    rw [e]
    refine .inl ⟨rfl, ?_, hd, hl, fun hx => hx, rfl, hse, fun hx => ?_⟩
    · have h3 := h
      rw [← List.append_nil r1] at h3
      simpa using h3
    · rcases hx with hx | hx
      · simpa using hx
      · exact absurd rfl hx
  · have hse : ¬ g.safe = g.end_ := by
      have hpos : 0 < (bytes r2).length := Nat.pos_of_ne_zero fun hz => h2 (bytes_nil hz)
      have hXY := bytes_le r1 r2
      rw [h.safe, h.end_]; omega
    obtain ⟨n, hS, hL⟩ := h.sects h2
    have hbase : g.from_ + Lg.firstS g = (F : Int) + (((bytes r1).length / 128 : Nat) : Int) := by rw [h.hf, h.firstS]
    have hp := putAll_mix hS (allS g).length (Nat.le_refl _) d h.whole h.room hd hl hS.start.symm
    rw [← hbase] at hp
    rcases hp with ⟨a1, a2, a3, a4, a5, a6, a7⟩ | ⟨a1, a2, a3, a4, a5⟩
    · have e : forceD d g = ((putAll (g.from_ + Lg.firstS g) (allS g) (allS g).length d).1, forcedL g, 0) := by
        unfold forceD
        rw [if_neg hse]
        simp only
        rw [if_pos a1]
      rw [e]
      refine .inl ⟨rfl, ?_, a2, a3, a4, a7, rfl, fun _ => by show Lies (logS F N _) _; rw [a5, hS.all_]; exact hL⟩
      have hlog : logS F N (putAll (g.from_ + Lg.firstS g) (allS g) (allS g).length d).1 = n := by rw [a5, hS.all_]
      have hts := h.tail_size
      have hend := h.end_
      refine ⟨a6, by rw [a7]; exact h.room, h.hf, h.hn, by rw [List.append_nil]; exact h.row, ?_, ?_, ?_, ?_, by rw [List.append_nil]; exact h.fit⟩
      · show (logS F N (putAll (g.from_ + Lg.firstS g) (allS g) (allS g).length d).1).take _ = _
        rw [hlog]; exact hL.pre
      · show g.end_ = _
        exact hend
      · show g.end_ = _
        rw [List.append_nil]; exact hend
      · show g.tail.extract (g.tail.size - (g.end_ % 128).toNat) g.tail.size = _
        have hXY := bytes_le r1 r2
        have hts2 : g.tail.size = (bytes (r1 ++ r2)).length - (bytes r1).length / 128 * 128 := by omega
        rw [List.append_nil, hend]
        apply ByteArray.ext
        rw [ByteArray.data_extract, h.tail]
        apply Array.toList_inj.1
        rw [Array.toList_extract]
        simp only [List.extract_eq_drop_take']
        rw [← h.tail, hts2]
        have e1 : (((((bytes (r1 ++ r2)).length : Nat) : Int) % 128).toNat) = (bytes (r1 ++ r2)).length % 128 := by omega
        rw [e1]
        rw [List.drop_take, List.drop_drop, List.take_of_length_le (by rw [List.length_drop]; omega)]
        congr 1; omega
    · have e : forceD d g = ((putAll (g.from_ + Lg.firstS g) (allS g) (allS g).length d).1, g, 20) := by
        unfold forceD
        rw [if_neg hse]
        simp only
        rw [if_neg (show ¬ _ by rw [a1]; decide), a1]
      rw [e]
      obtain ⟨q, hq⟩ := a3
      exact .inr ⟨rfl, h2, rfl, a2, a4, a5, n, q, hL, hS.nlen, hq⟩
theorem secs_ok {d : Dk} (hd : d.down = false) : ∀ (k a : Nat), a + k ≤ d.sectors.length → secsD d (a : Int) k = .ok (flat ((d.sectors.drop a).take k)) := by
  intro k
  induction k with
  | zero => intro a _; unfold secsD; rw [List.take_zero]; rfl
  | succ k ih =>
    intro a ha
    have h1 : readD d (a : Int) = (d.sectors[a]'(by omega), 0) := by
      unfold readD
      rw [hd, if_neg (by simp), if_pos (show hasD d (a : Int) from ⟨by omega, by omega⟩)]
      unfold secAt
      rw [Int.toNat_natCast, List.getElem?_eq_getElem (by omega), Option.getD_some]
    have h2 := ih (a + 1) (by omega)
    unfold secsD
    rw [h1, if_pos rfl, show ((a : Int) + 1) = ((a + 1 : Nat) : Int) by omega, h2, List.drop_eq_getElem_cons (l := d.sectors) (i := a) (by omega), List.take_succ_cons, flat_cons]
theorem part_part (L : List ByteArray) (F N a k : Nat) (h : a + k ≤ N) : (L.drop (F + a)).take k = (((L.drop F).take N).drop a).take k := by
  refine List.ext_getElem? fun i => ?_
  simp only [List.getElem?_take, List.getElem?_drop]
  by_cases h1 : i < k
  · rw [if_pos h1, if_pos h1, if_pos (by omega)]
    congr 1; omega
  · rw [if_neg h1, if_neg h1]
theorem openL_is (s : List UInt8) : ∀ (f a : Nat), a ≤ s.length → Row a (openL s f a).1 ∧ (openL s f a).2 = a + (bytes (openL s f a).1).length ∧ (openL s f a).2 ≤ s.length ∧ s.take (openL s f a).2 = s.take a ++ bytes (openL s f a).1 := by
  intro f
  induction f with
  | zero => intro a ha; unfold openL; exact ⟨trivial, rfl, ha, by simp [bytes]⟩
  | succ f ih =>
    intro a ha
    have hnone : Row a [] ∧ a = a + (bytes []).length ∧ a ≤ s.length ∧ s.take a = s.take a ++ bytes [] := ⟨trivial, rfl, ha, by simp [bytes]⟩
    by_cases hI : Is s a
    · have hg := getO_yes hI
      by_cases hn : (readM true (bodyAt s a)).lsn = (a : Int) + 1
      · have e : openL s (f + 1) a = (readM true (bodyAt s a) :: (openL s f (a + 8 + Oct.getN s a 4)).1, (openL s f (a + 8 + Oct.getN s a 4)).2) := by
          conv => lhs; unfold openL
          rw [hg]; simp only; rw [if_pos hn]
        have hlen : (putR (readM true (bodyAt s a))).length = 8 + Oct.getN s a 4 := by
          rw [putR_len, hI.2.2.2]
          unfold bodyAt
          rw [List.length_take, List.length_drop]
          have := hI.1
          omega
        obtain ⟨h1, h2, h3, h4⟩ := ih (a + 8 + Oct.getN s a 4) hI.1
        rw [e]
        have hb := is_bytes hI
        refine ⟨⟨hI.2.2.1, hn, by rw [hlen, ← Nat.add_assoc]; exact h1⟩, ?_, h3, ?_⟩
        · rw [bytes_cons, List.length_append, hlen, h2]; omega
        · rw [bytes_cons, h4, ← List.append_assoc]
          congr 1
          have h5 := congrArg (List.take (a + 8 + Oct.getN s a 4)) hb
          rw [← List.append_assoc, List.take_left' (by rw [List.length_append, List.length_take, hlen]; omega)] at h5
          exact h5
      · have e : openL s (f + 1) a = ([], a) := by
          conv => lhs; unfold openL
          rw [hg]; simp only; rw [if_neg hn]
        rw [e]; exact hnone
    · have e : openL s (f + 1) a = ([], a) := by
        conv => lhs; unfold openL
        rw [getO_no hI]
      rw [e]; exact hnone
theorem LInv.opened {F N : Nat} {d : Dk} (hd : d.down = false) (hw : Whole d.sectors) (hr : F + N ≤ d.sectors.length) :
    (openD d F N).2 = ((openL (logS F N d) (N * 128 + 1) 0).1, 0) ∧ LInv F N d (openD d F N).1 (openL (logS F N d) (N * 128 + 1) 0).1 [] := by
  have hl := logS_len (N := N) hw hr
  have hs : secsD d (F : Int) (N : Int).toNat = .ok (logS F N d) := by rw [Int.toNat_natCast]; exact secs_ok hd N F hr
  obtain ⟨h1, h2, h3, h4⟩ := openL_is (logS F N d) (N * 128 + 1) 0 (Nat.zero_le _)
  have e : openD d F N = (⟨F, N, ((openL (logS F N d) (N * 128 + 1) 0).2 : Int), ((openL (logS F N d) (N * 128 + 1) 0).2 : Int), ⟨(((logS F N d).take (openL (logS F N d) (N * 128 + 1) 0).2).drop ((openL (logS F N d) (N * 128 + 1) 0).2 - (openL (logS F N d) (N * 128 + 1) 0).2 % 128)).toArray⟩⟩, (openL (logS F N d) (N * 128 + 1) 0).1, 0) := by
    unfold openD
    rw [hs]
    simp only
    rw [hl]
  rw [e]
  rw [Nat.zero_add] at h2
  rw [List.take_zero, List.nil_append] at h4
  refine ⟨rfl, hw, hr, rfl, rfl, by rw [List.append_nil]; exact h1, by rw [← h2]; exact h4, by rw [h2], by rw [List.append_nil, h2], ?_, by rw [List.append_nil]; omega⟩
  rw [List.append_nil, ← h2, h4]
theorem LInv.same {F N : Nat} {d d' : Dk} {g g' : Lo} {r1 r2 : List Rec} (h : LInv F N d g r1 r2) (h' : LInv F N d' g' r1 r2) : g = g' := by
  obtain ⟨a1, a2, a3, a4, a5⟩ := g
  obtain ⟨b1, b2, b3, b4, b5⟩ := g'
  have e1 := h.hf.trans h'.hf.symm
  have e2 := h.hn.trans h'.hn.symm
  have e3 := h.end_.trans h'.end_.symm
  have e4 := h.safe.trans h'.safe.symm
  have e5 := h.tail.trans h'.tail.symm
  simp only at e1 e2 e3 e4 e5
  subst e1 e2 e3 e4 e5
  rfl
theorem LInv.disk {F N : Nat} {d d' : Dk} {g : Lo} {r1 r2 : List Rec} (h : LInv F N d g r1 r2) (he : d'.sectors = d.sectors) : LInv F N d' g r1 r2 :=
  ⟨by rw [he]; exact h.whole, by rw [he]; exact h.room, h.hf, h.hn, h.row, by unfold logS; rw [he]; exact h.pre, h.safe, h.end_, h.tail, h.fit⟩
theorem LInv.read {F N : Nat} {d : Dk} {g : Lo} {r1 r2 : List Rec} (h : LInv F N d g r1 r2) (hd : d.down = false) (x y : List Rec) (r : Rec) (hxy : r1 ++ r2 = x ++ r :: y) :
    r.lsn = ((bytes x).length : Int) + 1 ∧ readL d g (((bytes x).length : Int) + 1) = .ok r := by
  have hrow := h.row
  rw [hxy, row_append] at hrow
  obtain ⟨_, hR, hlsn, _⟩ := hrow
  rw [Nat.zero_add] at hlsn
  refine ⟨hlsn, ?_⟩
  obtain ⟨X, hX⟩ : ∃ X, X = (bytes r1).length := ⟨_, rfl⟩
  obtain ⟨A, hA⟩ : ∃ A, A = (bytes x).length := ⟨_, rfl⟩
  obtain ⟨all, hall⟩ : ∃ all, all = bytes (r1 ++ r2) := ⟨_, rfl⟩
  have hb : all = bytes x ++ (putR r ++ bytes y) := by rw [hall, hxy, bytes_append, bytes_cons]
  have hlen : all.length = A + ((putR r).length + (bytes y).length) := by rw [hb, List.length_append, List.length_append, hA]
  have hpl := putR_len r
  have hle := bytes_le r1 r2
  have hend := h.end_
  have hts := h.tail_size
  have hfit := h.fit
  have hbase : (g.end_ - (g.tail.size : Int)) / 128 = ((X / 128 : Nat) : Int) := by rw [hts, hX]; omega
  rw [← hall] at hend hle hfit
  rw [← hX] at hle
  unfold readL
  rw [if_neg (by omega)]
  simp only
  rw [hbase]
  obtain ⟨a, ha⟩ : ∃ a : Nat, a = min (A / 128) (X / 128) := ⟨_, rfl⟩
  have hmin : min ((((bytes x).length : Int) + 1 - 1) / 128) ((X / 128 : Nat) : Int) = (a : Int) := by rw [← hA]; omega
  rw [hmin]
  have h1 : g.from_ + (a : Int) = ((F + a : Nat) : Int) := by rw [h.hf]; omega
  have h2 : (((X / 128 : Nat) : Int) - (a : Int)).toNat = X / 128 - a := by omega
  have hX128 : X / 128 * 128 ≤ X := by omega
  have hroom := h.room
  rw [h1, h2, secs_ok hd _ _ (by omega), part_part _ F N a _ (by omega)]
  have hpart : flat ((((d.sectors.drop F).take N).drop a).take (X / 128 - a)) = (all.take (X / 128 * 128)).drop (a * 128) := by
    rw [flat_take (((h.whole.drop F).take N).drop a), flat_drop ((h.whole.drop F).take N)]
    show ((logS F N d).drop (a * 128)).take ((X / 128 - a) * 128) = _
    have e1 : all.take (X / 128 * 128) = (logS F N d).take (X / 128 * 128) := by
      have h3 := congrArg (List.take (X / 128 * 128)) h.pre
      rw [List.take_take, Nat.min_eq_left (by omega)] at h3
      rw [h3, hall, bytes_append, List.take_append_of_le_length (by omega)]
    rw [e1, List.drop_take]
    congr 1
    omega
  have htl : g.tail.data.toList = all.drop (X / 128 * 128) := by
    rw [h.tail, ← hall, ← hX, show X - X % 128 = X / 128 * 128 by omega]
  rw [hpart, htl]
  have hjoin : (all.take (X / 128 * 128)).drop (a * 128) ++ all.drop (X / 128 * 128) = all.drop (a * 128) := by
    conv => rhs; rw [← List.take_append_drop (X / 128 * 128) all]
    rw [List.drop_append_of_le_length (by rw [List.length_take]; omega)]
  simp only
  rw [hjoin, getO_drop _ _ _ (by omega)]
  have hpos : a * 128 + (((bytes x).length : Int) + 1 - 1 - (a : Int) * 128).toNat = (bytes x).length := by omega
  rw [hpos, hb, getO_put _ _ hR]
  simp only [Option.map_some]
  rw [if_pos hlsn]
end Lg
namespace Tx
open Rc Lg
def noted (r : Rec) : Prop := 1 ≤ r.txn ∧ 1 ≤ r.kind ∧ r.kind ≤ 7
instance (r : Rec) : Decidable (noted r) := by unfold noted; exact inferInstance
def tuneT (r : Rec) (t : TxnAt) : TxnAt := ⟨t.txn, r.lsn, if r.kind = 1 ∨ r.kind = 2 then r.lsn else if r.kind = 3 ∨ r.kind = 4 then r.next else t.next, if r.kind = 5 then true else t.done⟩
def placeT : List TxnAt → Int → Option Nat
  | [], _ => none
  | t :: l, n => if t.txn = n then some 0 else (placeT l n).map (· + 1)
theorem placeT_some {l : List TxnAt} {n : Int} {i : Nat} (h : placeT l n = some i) : ∃ hi : i < l.length, l[i].txn = n ∧ ∀ j (hj : j < i), l[j].txn ≠ n := by
  induction l generalizing i with
  | nil => cases h
  | cons t l ih =>
    unfold placeT at h
    split at h
    · rename_i ht
      injection h with h; subst h
      exact ⟨by simp, ht, fun j hj => absurd hj (by omega)⟩
    · rename_i ht
      cases hp : placeT l n with
      | none => rw [hp] at h; cases h
      | some k =>
        rw [hp] at h
        injection h with h
        have h4 : i = k + 1 := h.symm
        subst h4
        obtain ⟨h1, h2, h3⟩ := ih hp
        refine ⟨by simpa using h1, by simpa using h2, fun j hj => ?_⟩
        cases j with
        | zero => simpa using ht
        | succ j => simpa using h3 j (by omega)
theorem placeT_none {l : List TxnAt} {n : Int} (h : placeT l n = none) : ∀ t ∈ l, t.txn ≠ n := by
  induction l with
  | nil => intro t ht; cases ht
  | cons t l ih =>
    unfold placeT at h
    split at h
    · cases h
    · rename_i ht
      cases hp : placeT l n with
      | some k => rw [hp] at h; cases h
      | none =>
        intro u hu
        rcases List.mem_cons.1 hu with e | e
        · rw [e]; exact ht
        · exact ih hp u e
theorem placeT_at {l : List TxnAt} {n : Int} {i : Nat} (hi : i < l.length) (h : l[i].txn = n) (h0 : ∀ j (hj : j < i), l[j].txn ≠ n) : placeT l n = some i := by
  cases hp : placeT l n with
  | none => exact absurd h (placeT_none hp _ (List.getElem_mem hi))
  | some k =>
    obtain ⟨h1, h2, h3⟩ := placeT_some hp
    rcases Nat.lt_trichotomy k i with h4 | h4 | h4
    · exact absurd h2 (h0 k h4)
    · rw [h4]
    · exact absurd h (h3 i h4)
theorem placeT_no {l : List TxnAt} {n : Int} (h : ∀ t ∈ l, t.txn ≠ n) : placeT l n = none := by
  cases hp : placeT l n with
  | none => rfl
  | some k => obtain ⟨h1, h2, _⟩ := placeT_some hp; exact absurd h2 (h _ (List.getElem_mem h1))
def noteT (l : List TxnAt) (r : Rec) : List TxnAt :=
  if ¬ noted r then l else
  match placeT l r.txn with
  | none => if r.kind = 7 then l else l ++ [tuneT r ⟨r.txn, 0, 0, false⟩]
  | some i => if r.kind = 7 then l.take i ++ l.drop (i + 1) else l.take i ++ tuneT r (l[i]?.getD ⟨0, 0, 0, false⟩) :: l.drop (i + 1)
theorem noteT_len (l : List TxnAt) (r : Rec) : (noteT l r).length ≤ l.length + 1 := by
  unfold noteT
  split
  · omega
  · cases hp : placeT l r.txn with
    | none => simp only; split <;> simp
    | some i =>
      obtain ⟨hi, _⟩ := placeT_some hp
      simp only
      split
      · rw [List.length_append, List.length_take, List.length_drop]; omega
      · rw [List.length_append, List.length_take, List.length_cons, List.length_drop]; omega
structure St where
  zlog : Int
  zpages : Int
  zframes : Int
  disk : Dk
  log : Lo
  hand : Int
  txns : List TxnAt
  next : Int
noncomputable def putS (s : St) (r : Rec) : St × Int :=
  if (appendD s.log r).2.2 = 0 then ({ s with log := (appendD s.log r).1, txns := noteT s.txns { r with lsn := (appendD s.log r).2.1 } }, 0) else (s, (appendD s.log r).2.2)
noncomputable def beginS (s : St) : St × Int × Int :=
  if (putS s (bare 1 0 0 s.next)).2 = 0 then ({ (putS s (bare 1 0 0 s.next)).1 with next := s.next + 1 }, s.next, 0) else (s, 0, (putS s (bare 1 0 0 s.next)).2)
def fresh (n : Nat) : St := ⟨n, 0, 0, newD (n + 1), ⟨1, n, 0, 0, ⟨#[]⟩⟩, 0, [], 1⟩
end Tx
namespace Lg
open Rc
theorem manyN (l : List Rec) : l.length * 8 ≤ (bytes l).length := by
  induction l with
  | nil => simp
  | cons r l ih => rw [bytes_cons, List.length_append, putR_len, List.length_cons]; omega
structure OpensN (N : Nat) (d : Dk) (l : List Rec) : Prop where
  whole : Whole d.sectors
  len : d.sectors.length = N + 1
  opens : (openL (logS 1 N d) (N * 128 + 1) 0).1 = l
theorem OpensN.start {N : Nat} {d : Dk} {l : List Rec} (h : OpensN N d l) : ∃ o, openD (startD d) 1 N = (o, l, 0) := by
  have hw : Whole (startD d).sectors := h.whole
  have hl : (startD d).sectors.length = N + 1 := h.len
  obtain ⟨h1, _⟩ := LInv.opened (F := 1) (N := N) (d := startD d) rfl hw (by omega)
  have h3 : (openL (logS 1 N (startD d)) (N * 128 + 1) 0).1 = l := h.opens
  rw [h3] at h1
  refine ⟨(openD (startD d) 1 N).1, ?_⟩
  have e : openD (startD d) 1 N = ((openD (startD d) 1 N).1, (openD (startD d) 1 N).2) := rfl
  have h4 : (openD (startD d) 1 N).2 = (l, 0) := h1
  rw [h4] at e
  exact e
theorem OpensN.same {N : Nat} {d e : Dk} {l : List Rec} (h : OpensN N d l) (hs : e.sectors = d.sectors) : OpensN N e l :=
  ⟨by rw [hs]; exact h.whole, by rw [hs]; exact h.len, by unfold logS; rw [hs]; exact h.opens⟩
theorem newD_wholeN (n : Nat) : Whole (newD n).sectors := fun b hb => by
  have : b = zero128 := by
    have h := List.mem_replicate.1 hb
    exact h.2
  rw [this]; exact zero128_size
theorem writeD_20 {d : Dk} {a : Int} {b : ByteArray} (h : (writeD d a b).2 = 20) : (writeD d a b).1.down = true := by
  unfold writeD at h ⊢
  split
  · rename_i h1; exact h1
  · rename_i h1
    rw [if_neg h1] at h
    split
    · rename_i h2; rw [if_pos h2] at h; exact absurd h (by show ¬ (1 : Int) = 20; decide)
    · rename_i h2
      rw [if_neg h2] at h
      split
      · rfl
      · rename_i h3; rw [if_neg h3] at h; exact absurd h (by show ¬ (0 : Int) = 20; decide)
theorem putAll_20 (base : Int) (all : List ByteArray) : ∀ (i : Nat) (d : Dk), (putAll base all i d).2 = 20 → (putAll base all i d).1.down = true := by
  intro i
  induction i with
  | zero => intro d h; exact absurd h (by show ¬ (0 : Int) = 20; decide)
  | succ i ih =>
    intro d h
    unfold putAll at h ⊢
    split
    · rename_i h1; rw [if_pos h1] at h; exact ih _ h
    · rename_i h1; rw [if_neg h1] at h; exact writeD_20 h
theorem force_20 {d : Dk} {g : Lo} (h : (forceD d g).2.2 = 20) : (forceD d g).1.down = true := by
  unfold forceD at h ⊢
  split
  · rename_i h1; rw [if_pos h1] at h; exact absurd h (by show ¬ (0 : Int) = 20; decide)
  · rename_i h1
    rw [if_neg h1] at h
    simp only at h ⊢
    split
    · rename_i h2; rw [if_pos h2] at h; exact absurd h (by show ¬ (0 : Int) = 20; decide)
    · rename_i h2; rw [if_neg h2] at h; exact putAll_20 _ _ _ _ h
theorem LInv.force_down {F N : Nat} {d0 d : Dk} {g : Lo} {r1 r2 : List Rec} (h : LInv F N d0 g r1 r2) (h2 : r2 ≠ []) (hd : d.down = true) : forceD d g = (d, g, 20) := by
  have hpos : 0 < (bytes r2).length := Nat.pos_of_ne_zero fun hz => h2 (bytes_nil hz)
  have hse : ¬ g.safe = g.end_ := by
    rw [h.safe, h.end_, bytes_le]; omega
  have hts := h.tail_size
  have hend := h.end_
  rw [bytes_le] at hend
  have ht : 0 < g.tail.size := by omega
  have hc := cutB_length g.tail
  have hall : 0 < (allS g).length := by
    unfold allS
    split
    · rw [List.length_append, List.length_singleton]; omega
    · omega
  obtain ⟨m, hm⟩ : ∃ m, (allS g).length = m + 1 := ⟨(allS g).length - 1, by omega⟩
  have hp : putAll (g.from_ + Lg.firstS g) (allS g) (allS g).length d = (d, 20) := by
    rw [hm]
    unfold putAll
    have hwd : ∀ a b, writeD d a b = (d, 20) := fun a b => by unfold writeD; rw [if_pos hd]
    rw [hwd, if_neg (by show ¬ (20 : Int) = 0; decide)]
  unfold forceD
  rw [if_neg hse]
  simp only [hp]
  rw [if_neg (by decide)]
theorem LInv.boundsN {N : Nat} {d : Dk} {g : Lo} {r1 r2 : List Rec} (h : LInv 1 N d g r1 r2) (hN : N ≤ 4000) : 0 ≤ g.end_ ∧ g.end_ ≤ 512000 ∧ (g.tail.size : Int) ≤ g.end_ ∧ g.end_ % 128 ≤ (g.tail.size : Int) ∧ g.from_ = 1 ∧ g.n = (N : Int) ∧ 0 ≤ g.safe ∧ g.safe ≤ g.end_ := by
  have h1 := h.end_
  have h2 := h.tail_size
  have h3 := h.fit
  have h4 := bytes_le r1 r2
  have h5 := h.safe
  exact ⟨by omega, by omega, by omega, by omega, h.hf, h.hn, by omega, by omega⟩
end Lg
namespace Tx
open Rc Lg
def Good (N : Nat) (s : St) : Prop := ∃ r1 r2, LInv 1 N s.disk s.log r1 r2 ∧ s.disk.down = false ∧ s.disk.left = -1 ∧ s.disk.sectors.length = N + 1 ∧ Lies (logS 1 N s.disk) r1 ∧ (r1 ++ r2).foldl noteT [] = s.txns
def Has (L : List Rec) (x : Int) : Prop := ∃ r ∈ L, r.kind = 5 ∧ r.txn = x
theorem forceD_leftN {d : Dk} {g : Lo} (h : -1 ≤ d.left ∧ d.left ≤ 9223372036854775807) : -1 ≤ (forceD d g).1.left ∧ (forceD d g).1.left ≤ 9223372036854775807 := by
  have key : ∀ base all i (d : Dk), -1 ≤ d.left ∧ d.left ≤ 9223372036854775807 → -1 ≤ (putAll base all i d).1.left ∧ (putAll base all i d).1.left ≤ 9223372036854775807 := by
    intro base all i
    induction i with
    | zero => intro d h; exact h
    | succ i ih =>
      intro d h
      have hw : -1 ≤ (writeD d (base + (i : Int)) (all[i]?.getD ⟨#[]⟩)).1.left ∧ (writeD d (base + (i : Int)) (all[i]?.getD ⟨#[]⟩)).1.left ≤ 9223372036854775807 := by
        unfold writeD
        split
        · exact h
        · split
          · exact h
          · split
            · exact h
            · simp only; split <;> omega
      unfold putAll
      split
      · exact ih _ hw
      · exact hw
  unfold forceD
  split
  · exact h
  · simp only
    split <;> exact key _ _ _ _ h
end Tx
namespace Lg
open Rc
end Lg
namespace Tx
open Rc Lg
theorem putS_of {s : St} {r : Rec} {g : Lo} (h : appendD s.log r = (g, s.log.end_ + 1, 0)) : putS s r = ({ s with log := g, txns := noteT s.txns { r with lsn := s.log.end_ + 1 } }, 0) := by
  unfold putS; rw [h]; simp only; rw [if_pos trivial]
structure LogB (s : St) : Prop where
  e0 : 0 ≤ s.log.end_
  e1 : s.log.end_ ≤ 512000
  t0 : (s.log.tail.size : Int) ≤ s.log.end_
  t1 : s.log.end_ % 128 ≤ (s.log.tail.size : Int)
  f : s.log.from_ = 1
  n0 : 0 ≤ s.log.n
  n1 : s.log.n ≤ 4000
  s0 : 0 ≤ s.log.safe
  s1 : s.log.safe ≤ s.log.end_
theorem logB_of {N : Nat} {d : Dk} {s : St} {r1 r2 : List Rec} (h : LInv 1 N d s.log r1 r2) (hN : N ≤ 4000) : LogB s := by
  obtain ⟨a1, a2, a3, a4, a5, a6, a7, a8⟩ := h.boundsN hN
  exact ⟨a1, a2, a3, a4, a5, by omega, by omega, a7, a8⟩
def placeI : Option Nat → Int
  | none => -1
  | some k => (k : Int)
end Tx
namespace Go.Proofs.YtmebkghdkeeobaaGreatDoor
open Go.RowKit
theorem tplace_fn (t : Rc.TxnAt) (n : Int) (g : Nat) (w : World) (h : w.cell? ⟨g, 0, none⟩ = some (.int .i64 n)) :
    Calls Tryz.prog 147 #[txV t, .pointer (some ⟨g, 0, none⟩)] w fun e w' => e = .returned (.bool (decide (t.txn = n))) ∧ Below w.heap.size w w' := by
  obtain ⟨a, b, c, d⟩ := t
  have hg : g < w.heap.size := by
    rcases Nat.lt_or_ge g w.heap.size with h1 | h1
    · exact h1
    · unfold World.cell? at h
      rw [Array.getElem?_eq_none h1] at h
      cases h
  have h2 : (w.alloc (.cells #[.int .i64 a, .int .i64 b, .int .i64 c, .bool d] 156)).cell? ⟨g, 0, none⟩ = some (.int .i64 n) := ((allocB w _).cell (p := ⟨g, 0, none⟩) hg).trans h
  simp only
  by_cases he : a = n
  · subst he
    rw [decide_eq_true rfl]
    have hs : (a == a) = true := by simp
    go_enter Tryz.func147, Tryz.ntmps147
    go_wp2_with fail
    go_ret
    exact ⟨by simp, allocB _ _⟩
  · rw [decide_eq_false he]
    have hs : (a == n) = false := by simpa using he
    clear he
    go_enter Tryz.func147, Tryz.ntmps147
    go_wp2_with fail
    go_ret
    exact ⟨by simp [*], allocB _ _⟩
def PlaceOut (o : Option Nat) (w : World) (e : Ending) (w' : World) : Prop := e = .returned (.int .i64 (Tx.placeI o)) ∧ Below w.heap.size w w'
set_option maxRecDepth 100000 in
theorem tindex_any (l : List Rc.TxnAt) (n : Int) (hn : l.length ≤ 140737488355328) (A : Option Addr) (c g : Nat) (w : World) (hr : TxR w A c l) (hg : w.cell? ⟨g, 0, none⟩ = some (.int .i64 n)) (hgl : g < w.heap.size) :
    Calls Tryz.prog 130 #[.slice A l.length c, .func (.func 147) #[] #[.pointer (some ⟨g, 0, none⟩)]] w (PlaceOut (Tx.placeT l n) w) := by
  have HR := Lib.hid hr
  have HO := Lib.hid (fun t W (hb : Below w.heap.size w W) => tplace_fn t n g W ((hb.cell (p := ⟨g, 0, none⟩) hgl).trans hg))
  have HQ := Lib.hid (fun (k : Nat) w' (hk : k < l.length) (h1 : l[k].txn = n) (h2 : ∀ j (hj : j < k), l[j].txn ≠ n) (hb : Below w.heap.size w w') => show PlaceOut (Tx.placeT l n) w (.returned (.int .i64 (k : Int))) w' from ⟨by rw [Tx.placeT_at hk h1 h2]; rfl, hb⟩)
  have HZ := Lib.hid (fun w' (h2 : ∀ j (hj : j < l.length), l[j].txn ≠ n) (hb : Below w.heap.size w w') => show PlaceOut (Tx.placeT l n) w (.returned (.int .i64 (-1))) w' from ⟨by
    rw [Tx.placeT_no fun t ht => by
      obtain ⟨j, hj, rfl⟩ := List.getElem_of_mem ht
      exact h2 j hj]
    rfl, hb⟩)
  generalize PlaceOut (Tx.placeT l n) w = Q at HQ HZ ⊢
  clear hr hg hgl
  go_enter Tryz.func130, Tryz.ntmps130
  go_wp2_with fail
  go_loopw [8] (fun i wr => ∃ k : Nat, k ≤ l.length ∧ i = .int .i64 k ∧ (∀ j (hj : j < l.length), j < k → l[j].txn ≠ n) ∧ Below w.heap.size w wr) (fun i _ => l.length - (intOf i).toNat)
  case atStart => exact ⟨0, Nat.zero_le _, rfl, fun _ _ h => absurd h (by omega), Below.refl _ _⟩
  case round =>
    obtain ⟨k, hk, rfl, hall, hbw⟩ := hrel
    have HA := Lib.hid hall
    have HBW := Lib.hid hbw
    clear hall
    by_cases hlt : k < l.length
    · obtain ⟨b', off, rfl, hc, hbl, hcell⟩ := read_at txC_len (HR.out.below hbw) hlt
      have q0 := hcell 0 _ rfl
      have q1 := hcell 1 _ rfl
      have q2 := hcell 2 _ rfl
      have q3 := hcell 3 _ rfl
      clear hcell hbw
      simp only [Nat.add_zero] at q0
      have HY := Lib.hid (show ¬ l[k].txn = n → ∀ j (hj : j < l.length), j < k + 1 → l[j].txn ≠ n from fun h j hj hjk => by
        rcases Nat.lt_or_eq_of_le (Nat.le_of_lt_succ hjk) with h1 | h1
        · exact HA.out j hj h1
        · subst h1; exact h)
      have HF := Lib.hid (show l[k].txn = n → ∀ w', Below w.heap.size w w' → Q (.returned (.int .i64 (k : Int))) w' from fun h w' hb => HQ.out k w' hlt h (fun j hj => HA.out j (by omega) hj) hb)
      have HOk := Lib.hid (fun W hb => HO.out l[k] W hb)
      generalize l[k] = x at q0 q1 q2 q3 HF HY HOk
      have hwk : IntKind.i64.wrap ((k : Int) + 1) = (k : Int) + 1 := IntWalk.i64_in _ (by omega)
      by_cases hd : x.txn = n
      · have HF2 := Lib.hid (HF.out hd)
        rw [decide_eq_true hd] at HOk
        clear HF HY hd
        obtain ⟨fa, fb, fc, fd⟩ := x
        go_wp2_with ((go_at_call 147; (with_reducible refine (HOk.out _ HBW.out).mono ?_); rintro e w' ⟨rfl, hb2⟩))
        exact HF2.out _ (joinB HBW.out hb2)
      · have HY2 := Lib.hid (HY.out hd)
        rw [decide_eq_false hd] at HOk
        clear HF HY hd
        obtain ⟨fa, fb, fc, fd⟩ := x
        go_wp2_with ((go_at_call 147; (with_reducible refine (HOk.out _ HBW.out).mono ?_); rintro e w' ⟨rfl, hb2⟩))
        go_roundw
        case rel => exact ⟨k + 1, by omega, by go_num, HY2.out, joinB HBW.out hb2⟩
        case measure => simp [intOf]; omega
    · obtain rfl : k = l.length := by omega
      have HE := Lib.hid (HZ.out wr (fun j hj => HA.out j hj hj) HBW.out)
      clear hbw
      go_wp2_with fail
      exact HE.out
set_option maxRecDepth 100000 in
theorem tplace_any (l : List Rc.TxnAt) (n : Int) (hn : l.length ≤ 140737488355328) (A : Option Addr) (c : Nat) (w : World) (hr : TxR w A c l) :
    Calls Tryz.prog 114 #[.slice A l.length c, .int .i64 n] w (PlaceOut (Tx.placeT l n) w) := by
  have HI := Lib.hid (tindex_any l n hn A c w.heap.size (w.alloc (.cells #[.int .i64 n] 3)) (hr.below (allocB w _)) (by rw [World.cell?_alloc_new]; rfl) (by simp))
  have HQ := Lib.hid (fun w' (hb : Below w.heap.size w w') => show PlaceOut (Tx.placeT l n) w (.returned (.int .i64 (Tx.placeI (Tx.placeT l n)))) w' from ⟨rfl, hb⟩)
  generalize PlaceOut (Tx.placeT l n) w = Q at HQ ⊢
  unfold PlaceOut at HI
  generalize Tx.placeI (Tx.placeT l n) = r at HI HQ
  clear hr
  go_enter Tryz.func114, Tryz.ntmps114
  go_wp2_with ((go_at_call 130; (with_reducible refine HI.out.mono ?_); rintro e w' ⟨rfl, hb⟩))
  exact HQ.out _ (joinB (allocB _ _) hb)
theorem info_tx : (Tryz.prog.info? 156).map (fun i => (i.zero, i.size, i.bytes)) = some (some (.agg #[.int .i64 0, .int .i64 0, .int .i64 0, .bool false]), 4, 32) := by kernel_rfl
theorem txC_one (t : Rc.TxnAt) : ∀ u ∈ txC t, u.oneCell' = true := by
  intro u hu
  simp only [txC, List.mem_cons, List.not_mem_nil, or_false] at hu
  rcases hu with rfl | rfl | rfl | rfl <;> rfl
theorem txC_all (l : List Rc.TxnAt) : ∀ u ∈ l.flatMap txC, u.oneCell' = true := by
  intro u hu
  obtain ⟨t, _, ht⟩ := List.mem_flatMap.1 hu
  exact txC_one t u ht
theorem ownSetAt {w : World} {B size n c g : Nat} {e : TypeId} {xs : List Value} (h : w.ownsRow B e size (.slice (some ⟨g, 0, none⟩) n c) n xs) (j : Nat) (hj : j < n * size) :
    w.cell? ⟨g, j, none⟩ = xs[j]? ∧ w.frozen? ⟨g, j, none⟩ = false ∧ ∀ x, (w.setCell ⟨g, j, none⟩ x).ownsRow B e size (.slice (some ⟨g, 0, none⟩) n c) n (xs.set j x) := by
  obtain ⟨hl, h2⟩ := h
  rcases h2 with ⟨h0, _⟩ | ⟨g', cap, cur, hv, hg, hh, hn, hcap, hsz, htake⟩
  · cases h0
  · injection hv with hv1 hv2 hv3
    injection hv1 with hv1
    injection hv1 with hv1 _ _
    subst hv1 hv3
    have hnc : n * size ≤ c * size := Nat.mul_le_mul_right _ hn
    refine ⟨?_, blkFrozen hh j, fun x => ⟨by rw [List.length_set]; exact hl, .inr ⟨g, c, cur.setIfInBounds j x, rfl, hg, blkSet j hh x, hn, hcap, by rw [Array.size_setIfInBounds]; exact hsz, ?_⟩⟩⟩
    · rw [blkCell hh j, ← htake, List.getElem?_take, if_pos hj, Array.getElem?_toList]
    · rw [← htake]
      refine List.ext_getElem? fun i => ?_
      rw [List.getElem?_set, List.getElem?_take, List.length_take, List.getElem?_take, Array.toList_setIfInBounds, List.getElem?_set]
      have hs : cur.toList.length = cur.size := by simp
      by_cases h1 : j = i
      · subst h1
        rw [if_pos rfl, if_pos rfl, if_pos hj, if_pos (by omega), if_pos (by omega)]
      · rw [if_neg h1, if_neg h1]
theorem flat_set {α : Type} {enc : α → List Value} {k : Nat} (hk : ∀ x, (enc x).length = k) : ∀ (l : List α) (j f : Nat) (y : α) (x : Value) (hj : j < l.length), f < k → enc y = (enc l[j]).set f x → (l.flatMap enc).set (j * k + f) x = (l.set j y).flatMap enc := by
  intro l
  induction l with
  | nil => intro j f y x hj; simp at hj
  | cons a l ih =>
    intro j f y x hj hf he
    cases j with
    | zero =>
      simp only [List.getElem_cons_zero] at he
      rw [List.flatMap_cons, List.set_cons_zero, List.flatMap_cons, he, Nat.zero_mul, Nat.zero_add, List.set_append_left _ _ (by rw [hk]; exact hf)]
    | succ j =>
      simp only [List.getElem_cons_succ] at he
      rw [List.flatMap_cons, List.set_cons_succ, List.flatMap_cons, List.set_append_right _ _ (by rw [hk, Nat.succ_mul]; omega)]
      congr 1
      rw [show (j + 1) * k + f - (enc a).length = j * k + f by rw [hk, Nat.succ_mul]; omega]
      exact ih j f y x (by simpa using hj) hf he
theorem setCells_blk {g : Nat} {T : TypeId} {fr : Nat × Nat} : ∀ (vs : List Value) (o : Nat) (cs : Array Value) (w : World), w.heap[g]? = some (.cells cs T fr) → ∃ cs' : Array Value, (w.setCells g o vs).heap[g]? = some (.cells cs' T fr) ∧ cs'.size = cs.size ∧ ∀ j, cs'[j]? = if o ≤ j ∧ j < o + vs.length ∧ j < cs.size then vs[j - o]? else cs[j]? := by
  intro vs
  induction vs with
  | nil => intro o cs w h; exact ⟨cs, h, rfl, fun j => by rw [if_neg (by simp; omega)]⟩
  | cons v vs ih =>
    intro o cs w h
    obtain ⟨cs', h1, h2, h3⟩ := ih (o + 1) _ _ (blkSet o h v)
    refine ⟨cs', h1, by rw [h2, Array.size_setIfInBounds], fun j => ?_⟩
    rw [h3, Array.size_setIfInBounds, Array.getElem?_setIfInBounds]
    by_cases hj : j = o
    · subst hj
      rw [if_neg (by omega), if_pos rfl]
      by_cases hb : j < cs.size
      · rw [if_pos hb, if_pos ⟨Nat.le_refl _, by simp, hb⟩, Nat.sub_self]; rfl
      · rw [if_neg hb, if_neg (by omega), Array.getElem?_eq_none (by omega)]
    · by_cases hc : o + 1 ≤ j ∧ j < o + 1 + vs.length ∧ j < cs.size
      · rw [if_pos hc, if_pos (by simp; omega)]
        obtain ⟨m, rfl⟩ : ∃ m, j = o + 1 + m := ⟨j - (o + 1), by omega⟩
        rw [show o + 1 + m - (o + 1) = m by omega, show o + 1 + m - o = m + 1 by omega, List.getElem?_cons_succ]
      · rw [if_neg hc, if_neg (fun e => hj e.symm), if_neg (by simp; omega)]
theorem setCells_below {B g : Nat} (hg : B ≤ g) : ∀ (vs : List Value) (o : Nat) (w : World), Below B w (w.setCells g o vs) := by
  intro vs
  induction vs with
  | nil => intro o w; exact Below.refl _ _
  | cons v vs ih =>
    intro o w
    exact ((Below.refl B w).setCell (p := ⟨g, o, none⟩) hg v).trans (ih (o + 1) _)
set_option maxRecDepth 100000 in
theorem tclone_any (l : List Rc.TxnAt) (hl : l.length ≤ 1000000) (A : Option Addr) (c : Nat) (w : World) (hr : TxR w A c l) :
    Calls Tryz.prog 116 #[.slice A l.length c] w fun e w' => ∃ v, e = .returned v ∧ OwnL txC 4 156 w.heap.size w' v l ∧ Below w.heap.size w w' := by
  obtain ⟨i0, hi, hz0, hz1, hz2⟩ := info_parts info_tx
  have HR := Lib.hid hr
  cases A with
  | none =>
    have hl0 : l = [] := by
      rcases Nat.eq_zero_or_pos l.length with h0 | h0
      · exact List.eq_nil_of_length_eq_zero h0
      · obtain ⟨b, off, e, _⟩ := hr h0
        cases e
    subst hl0
    clear hr HR
    have hq : ∀ w, (binOp .eql 34 (.slice none 0 c) (.slice none 0 0)).run Tryz.prog w = .ok (.bool true) w := fun w => Lib.run_eql_slice_nil w 34 156 none 0 c 0 0 Tryz.underlying34
    simp only [List.length_nil]
    go_enter Tryz.func116, Tryz.ntmps116
    go_wp2_with fail
    go_ret
    exact ⟨_, rfl, ownNil _ _ _ _, Below.refl _ _⟩
  | some ad =>
    have HRD := Lib.hid (hr.below (allocB w (.cells #[] 156)))
    have hq : ∀ w, (binOp .eql 34 (.slice (some ad) l.length c) (.slice none 0 0)).run Tryz.prog w = .ok (.bool false) w := fun w => Lib.run_eql_slice_nil w 34 156 (some ad) l.length c 0 0 Tryz.underlying34
    clear hr
    go_enter Tryz.func116, Tryz.ntmps116
    go_wp2_with (at_builtin; refine listWants (by kernel_rfl) fun K hK => wp_appR (w.alloc (.cells #[] 156)) (.tmp 5) (.tmp 6) 34 156 i0 (.agg #[.int .i64 0, .int .i64 0, .int .i64 0, .bool false]) 4 32 Tryz.underlying34 hi hz0 hz1 hz2 rfl (by omega) rfl w.heap.size _ 0 [] rfl (ownEmpty w 156 4) (some ad) l.length c (l.flatMap txC) rfl HRD.out (by rw [flat_len txC_len]) (txC_all l) (by omega) (by omega) (by simp) ?_; intro v2 w2 ho hg hb; refine hK _ _ ?_)
    go_ret
    rw [List.nil_append, Nat.zero_add] at ho
    exact ⟨_, rfl, ho, (allocB w (.cells #[] 156)).trans hb⟩
def txZ (n : Nat) : List Value := (Builtin.zeroCells (Value.cells (.agg #[.int .i64 0, .int .i64 0, .int .i64 0, .bool false])) n).toList
theorem txZ_len (n : Nat) : (txZ n).length = n * 4 := by simp [txZ, Builtin.zeroCells, Value.cells]
theorem run_clear_tx (w : World) (b o n c : Nat) (hn : 0 < n) (hc : ∀ j, j < n * 4 → (w.cell? ⟨b, o + j, none⟩).isSome = true) (hf : ∀ j, j < n * 4 → w.frozen? ⟨b, o + j, none⟩ = false) (ty : TypeId) :
    (Builtin.clear_ #[34] ty #[.slice (some ⟨b, o, none⟩) n c]).run Tryz.prog w = .ok (.tuple #[]) (w.setCells b o (txZ n)) := by
  have hv : ∀ w, (zeroValue 156).run Tryz.prog w = .ok (.agg #[.int .i64 0, .int .i64 0, .int .i64 0, .bool false]) w := Tryz.zeroValue156
  have hst := run_storeCells_cells (P := Tryz.prog) b o (txZ n) 0 w (by rw [txZ_len]; simpa using hc) (by rw [txZ_len]; simpa using hf) (by
    intro v hv'
    simp [txZ, Builtin.zeroCells, Value.cells] at hv'
    obtain ⟨i, _, rfl⟩ := hv'
    have hi4 : i % 4 < 4 := Nat.mod_lt _ (by omega)
    generalize i % 4 = k at hi4
    rcases k with _ | _ | _ | _ | k
    · rfl
    · rfl
    · rfl
    · rfl
    · omega)
  simp only [Nat.add_zero] at hst
  unfold txZ at hst ⊢
  obtain ⟨m, rfl⟩ : ∃ m, n = m + 1 := ⟨n - 1, by omega⟩
  simp [Builtin.clear_, run_underlying Tryz.underlying34, hv, hst]
set_option maxRecDepth 100000 in
set_option maxHeartbeats 2000000 in
theorem tdelete_any (l : List Rc.TxnAt) (hl : l.length ≤ 1000000) (i : Nat) (hi : i < l.length) (B g c : Nat) (w : World) (ho : OwnL txC 4 156 B w (.slice (some ⟨g, 0, none⟩) l.length c) l) :
    Calls Tryz.prog 115 #[.slice (some ⟨g, 0, none⟩) l.length c, .int .i64 (i : Int), .int .i64 ((i : Int) + 1)] w fun e w' => ∃ v, e = .returned v ∧ OwnL txC 4 156 B w' v (l.take i ++ l.drop (i + 1)) ∧ Below B w w' := by
  obtain ⟨i0, hi0, hz0, hz1, hz2⟩ := info_parts info_tx
  obtain ⟨n, hn⟩ : ∃ n, n = l.length := ⟨_, rfl⟩
  obtain ⟨j, hj⟩ : ∃ j, j = i + 1 := ⟨_, rfl⟩
  have hjI : ((i : Int) + 1) = (j : Int) := by omega
  rw [hjI]
  have HO := Lib.hid ho
  obtain ⟨hxl, h2⟩ := ho
  rcases h2 with ⟨h0, _⟩ | ⟨g', cap, cur, hv, hgB, hh, hnc, hcap, hsz, htake⟩
  · cases h0
  injection hv with hv1 hv2 hv3
  injection hv1 with hv1
  injection hv1 with hv1 _ _
  subst hv1 hv3
  rw [← hn] at hnc htake hxl hl hi ⊢
  have HH := Lib.hid hh
  have HT := Lib.hid htake
  have hij : i ≤ j := by omega
  have hjn : j ≤ n := by omega
  have hne : ((i : Int) == (j : Int)) = false := by simp; omega
  have hijI : (i : Int) ≤ (j : Int) := by omega
  have hjnI : (j : Int) ≤ (n : Int) := by omega
  have hncI : (n : Int) ≤ (c : Int) := by omega
  have hjcI : (j : Int) ≤ (c : Int) := by omega
  have hicI : (i : Int) ≤ (c : Int) := by omega
  have hmx : c ≤ maxLen := hcap
  have HN := Lib.hid hn
  have HJ := Lib.hid hj
  clear hxl hh htake hcap HO hn hj hjI
  go_enter Tryz.func115, Tryz.ntmps115
  obtain ⟨news, hnews⟩ : ∃ news, news = (l.drop j).flatMap txC := ⟨_, rfl⟩
  have hnl : news.length = (n - j) * 4 := by rw [hnews, flat_len txC_len, List.length_drop, HN.out]
  have HNE := Lib.hid hnews
  have H1C := Lib.hid (show ∀ u ∈ news, u.oneCell' = true from by rw [hnews]; exact txC_all _)
  obtain ⟨AD, hAD, hsrc⟩ : ∃ AD : Addr, (if c = j then (some ⟨g, 0, none⟩ : Option Addr) else some ⟨g, j * 4, none⟩) = some AD ∧ ∀ t u, news[t]? = some u → w.drew.cell? (AD.add t) = some u := by
    by_cases hcj : c = j
    · refine ⟨_, by rw [if_pos hcj], fun t u hu => ?_⟩
      have h0 : news.length = 0 := by rw [hnl]; omega
      rw [List.length_eq_zero_iff.1 h0] at hu
      simp at hu
    · refine ⟨_, by rw [if_neg hcj], fun t u hu => ?_⟩
      have ht : t < (n - j) * 4 := by rw [← hnl]; exact (List.getElem?_eq_some_iff.1 hu).1
      rw [Addr.add_mid]
      show w.cell? ⟨g, j * 4 + t, none⟩ = some u
      rw [blkCell HH.out, ← hu, hnews]
      have h5 : (l.flatMap txC)[j * 4 + t]? = ((l.drop j).flatMap txC)[t]? := by
        have h6 : l.flatMap txC = (l.take j).flatMap txC ++ (l.drop j).flatMap txC := by rw [← List.flatMap_append, List.take_append_drop]
        have h7 : ((l.take j).flatMap txC).length = j * 4 := by rw [flat_len txC_len, List.length_take]; have := HN.out; omega
        rw [h6, List.getElem?_append_right (by omega), h7, Nat.add_sub_cancel_left]
      rw [← h5, ← HT.out, List.getElem?_take, if_pos (by omega), Array.getElem?_toList]
  have HSRC := Lib.hid hsrc
  have HSP := Lib.hid (show ∀ t, t < news.length → (w.drew.cell? ⟨g, 0 + i * 4 + t, none⟩).isSome = true ∧ w.drew.frozen? ⟨g, 0 + i * 4 + t, none⟩ = false from fun t ht => by
    rw [hnl] at ht
    refine ⟨?_, blkFrozen (show w.drew.heap[g]? = _ from HH.out) _⟩
    show (w.cell? ⟨g, 0 + i * 4 + t, none⟩).isSome = true
    rw [blkCell HH.out, Array.getElem?_eq_getElem (by omega)]
    rfl)
  obtain ⟨m, hm⟩ : ∃ m, m = i + (n - j) := ⟨_, rfl⟩
  have hmn : m < n := by have := HJ.out; omega
  have hmn1 : m + 1 = n := by have := HJ.out; omega
  obtain ⟨W1, hW1⟩ : ∃ W1, W1 = w.drew.setCells g (0 + i * 4) news := ⟨_, rfl⟩
  obtain ⟨cur1, k1, k2, k3⟩ := setCells_blk news (0 + i * 4) cur w.drew HH.out
  rw [← hW1] at k1
  have hcl := fun ty => run_clear_tx W1 g (m * 4) (n - m) (c - m) (by omega) (fun t ht => by rw [blkCell k1, Array.getElem?_eq_getElem (by omega)]; rfl) (fun t ht => blkFrozen k1 _) ty
  have HK1 := Lib.hid k1
  have HK2 := Lib.hid k2
  have HK3 := Lib.hid k3
  have HW1 := Lib.hid hW1
  have HM := Lib.hid hm
  have HNL := Lib.hid hnl
  have hroom : i + (n - j) ≤ c := by omega
  have hmc : (m : Int) ≤ (n : Int) := by omega
  have hmcc : (m : Int) ≤ (c : Int) := by omega
  have hmn2 : ¬ c = m := by omega
  clear hnews hsrc hm hmn1 hW1 k1 k2 k3 hnl hmn
  go_upto_region 5 with fail
  refine wp_region_held_drew (S := (fun _ => True)) (by kernel_rfl) ?_ (fun hHeld => ?_)
  · trivial
  refine tkW 0 (some 20) (v := ?_) rfl ?_ (tkW 1 (some 21) (v := ?_) rfl ?_ (tkW 2 (some 22) (v := ?_) rfl ?_ (tkW 3 (some 23) (v := ?_) rfl ?_ (tkW 4 (some 24) (v := ?_) rfl ?_ (tkW 5 (some 25) (v := ?_) rfl ?_ ?_)))))
  iterate 6 (rotate_left; focus (intro u hSu; clear hSu; go_simp; (try with_reducible rfl)))
  try simp only [Act.put, pS]
  refine rdH 6 (some 26) rfl (fun K hK => ?_)
  try rw [hAD]
  refine step_append_room rfl (.tmp 22) (.tmp 25) 34 rfl 156 i0 4 Tryz.underlying34 hi0 hz1 g 0 i c rfl AD (n - j) (c - j) news rfl HNL.out HSRC.out H1C.out hroom HSP.out ?_
  rw [← HW1.out, ← HM.out]
  refine hK.out _ _ ?_ (fun hHeld => ?_)
  · trivial
  clear hK K
  try simp only [Act.put, pS]
  refine tkW 7 (some 0) (v := ?_) rfl ?_ ?_
  rotate_left
  · intro u hSu; clear hSu; go_simp; (try with_reducible rfl)
  try simp only [Act.put, List.setIfInBounds_toArray, List.set_cons_zero]
  refine wpAnyH_done (by kernel_rfl) ?_ _
  clear hHeld
  go_wp2_with fail
  go_ret
  obtain ⟨cur2, q1, q2, q3⟩ := setCells_blk (txZ (n - m)) (m * 4) cur1 W1 HK1.out
  have hnn := HN.out
  have hjj := HJ.out
  have hmm := HM.out
  have hk2 := HK2.out
  refine ⟨_, rfl, ?_, ?_⟩
  · have hlen : (l.take i ++ l.drop (i + 1)).length = m := by rw [List.length_append, List.length_take, List.length_drop]; omega
    show World.ownsRow _ B 156 4 _ (l.take i ++ l.drop (i + 1)).length ((l.take i ++ l.drop (i + 1)).flatMap txC)
    rw [hlen]
    refine ⟨by rw [flat_len txC_len, hlen], .inr ⟨g, c, cur2, rfl, hgB, q1, by omega, hmx, by rw [q2, hk2]; exact hsz, ?_⟩⟩
    have e1 : ((l.take i).flatMap txC).length = i * 4 := by rw [flat_len txC_len, List.length_take]; omega
    have e2 : l.flatMap txC = (l.take i).flatMap txC ++ (l.drop i).flatMap txC := by rw [← List.flatMap_append, List.take_append_drop]
    refine List.ext_getElem? fun t => ?_
    rw [List.getElem?_take]
    by_cases ht : t < m * 4
    · rw [if_pos ht, Array.getElem?_toList, q3, if_neg (by omega), HK3.out, List.flatMap_append]
      by_cases hti : t < i * 4
      · rw [if_neg (by omega), List.getElem?_append_left (by omega)]
        have h8 := congrArg (fun L => L[t]?) HT.out
        simp only [List.getElem?_take] at h8
        rw [if_pos (by omega), Array.getElem?_toList, e2, List.getElem?_append_left (by omega)] at h8
        exact h8
      · have hnl := HNL.out
        rw [if_pos (by omega), List.getElem?_append_right (by omega), e1, HNE.out, hjj]
        congr 1
        omega
    · rw [if_neg ht, List.getElem?_eq_none (by rw [flat_len txC_len, hlen]; omega)]
  · rw [HW1.out]
    exact (((Below.refl B w).drew).trans (setCells_below hgB _ _ _)).trans (setCells_below hgB _ _ _)
end Go.Proofs.YtmebkghdkeeobaaGreatDoor
namespace Tx
open Rc
theorem noteT_no {l : List TxnAt} {r : Rec} (h : ¬ noted r) : noteT l r = l := by unfold noteT; rw [if_pos h]
theorem noteT_gone {l : List TxnAt} {r : Rec} (h : noted r) (hp : placeT l r.txn = none) (hk : r.kind = 7) : noteT l r = l := by unfold noteT; rw [if_neg (fun hn => hn h), hp]; simp only; rw [if_pos hk]
theorem noteT_new {l : List TxnAt} {r : Rec} (h : noted r) (hp : placeT l r.txn = none) (hk : ¬ r.kind = 7) : noteT l r = (l ++ [(⟨r.txn, 0, 0, false⟩ : TxnAt)]).set l.length (tuneT r ⟨r.txn, 0, 0, false⟩) := by
  unfold noteT; rw [if_neg (fun hn => hn h), hp]; simp only; rw [if_neg hk, List.set_append_right _ _ (Nat.le_refl _), Nat.sub_self]; rfl
theorem noteT_end {l : List TxnAt} {r : Rec} {i : Nat} (h : noted r) (hp : placeT l r.txn = some i) (hk : r.kind = 7) : noteT l r = l.take i ++ l.drop (i + 1) := by unfold noteT; rw [if_neg (fun hn => hn h), hp]; simp only; rw [if_pos hk]
theorem noteT_old {l : List TxnAt} {r : Rec} {i : Nat} (h : noted r) (hp : placeT l r.txn = some i) (hk : ¬ r.kind = 7) (hi : i < l.length) : noteT l r = l.set i (tuneT r l[i]) := by
  unfold noteT; rw [if_neg (fun hn => hn h), hp]; simp only; rw [if_neg hk, List.getElem?_eq_getElem hi, Option.getD_some, List.set_eq_take_append_cons_drop, if_pos hi]
end Tx
namespace Go.Proofs.YtmebkghdkeeobaaGreatDoor
open Go.RowKit
theorem rowSet {w : World} {B g N c : Nat} {M : List Rc.TxnAt} (h : w.ownsRow B 156 4 (.slice (some ⟨g, 0, none⟩) N c) N (M.flatMap txC)) (hN : M.length = N) (k : Nat) (hk : k < M.length) (f : Nat) (hf : f < 4) (x : Value) (y : Rc.TxnAt) (he : txC y = (txC M[k]).set f x) :
    w.cell? ⟨g, k * 4 + f, none⟩ = (txC M[k])[f]? ∧ w.frozen? ⟨g, k * 4 + f, none⟩ = false ∧ (w.setCell ⟨g, k * 4 + f, none⟩ x).ownsRow B 156 4 (.slice (some ⟨g, 0, none⟩) N c) N ((M.set k y).flatMap txC) := by
  obtain ⟨h1, h2, h3⟩ := ownSetAt h (k * 4 + f) (by omega)
  refine ⟨by rw [h1, flat_at txC_len M k f hk hf], h2, ?_⟩
  rw [← flat_set txC_len M k f y x hk hf he]
  exact h3 x
theorem ownSome {w : World} {B size n : Nat} {e : TypeId} {v : Value} {xs : List Value} (h : w.ownsRow B e size v n xs) (hn : 0 < n) : ∃ g c, v = .slice (some ⟨g, 0, none⟩) n c ∧ B ≤ g := by
  rcases h.2 with ⟨_, h0⟩ | ⟨g, cap, cur, hv, hg, _⟩
  · omega
  · exact ⟨g, cap, hv, hg⟩
def NoteOut (l : List Rc.TxnAt) (A : Option Addr) (w : World) (e : Ending) (w' : World) : Prop :=
  ∃ A' c', e = .returned (.slice A' l.length c') ∧ TxR w' A' c' l ∧ (A' = A ∨ NewT w.heap.size w' 156 A') ∧ Below w.heap.size w w'
theorem note_own {l : List Rc.TxnAt} {A : Option Addr} {w w' : World} {g N c B : Nat} (h : w'.ownsRow B 156 4 (.slice (some ⟨g, 0, none⟩) N c) N (l.flatMap txC)) (hN : l.length = N) (hB : w.heap.size ≤ B) (hb : Below w.heap.size w w') : NoteOut l A w (.returned (.slice (some ⟨g, 0, none⟩) N c)) w' := by
  subst hN
  exact ⟨_, _, rfl, own_reads h, .inr ((NewT.own h).mono hB), hb⟩
set_option maxRecDepth 100000 in
set_option maxHeartbeats 4000000 in
theorem tnote_any (l : List Rc.TxnAt) (hl : l.length ≤ 900000) (A : Option Addr) (c : Nat) (r : Rc.Rec) (AT AD : Option Addr) (n1 c1 m1 d1 : Nat) (w : World) (hr : TxR w A c l) :
    Calls Tryz.prog 82 #[.slice A l.length c, recV r (.slice AT n1 c1) (.slice AD m1 d1)] w (NoteOut (Tx.noteT l r) A w) := by
  have HR := Lib.hid hr
  have HSAME := Lib.hid (fun w' (h : Tx.noteT l r = l) (hb : Below w.heap.size w w') => show NoteOut (Tx.noteT l r) A w (.returned (.slice A l.length c)) w' from by rw [h]; exact ⟨A, c, rfl, hr.below hb, .inl rfl, hb⟩)
  have HOWN := Lib.hid (fun (M : List Rc.TxnAt) (g N c B : Nat) w' (h : Tx.noteT l r = M) (ho : w'.ownsRow B 156 4 (.slice (some ⟨g, 0, none⟩) N c) N (M.flatMap txC)) (hN : M.length = N) (hB : w.heap.size ≤ B) (hb : Below w.heap.size w w') => show NoteOut (Tx.noteT l r) A w (.returned (.slice (some ⟨g, 0, none⟩) N c)) w' from by rw [h]; exact note_own ho hN hB hb)
  have HDEL := Lib.hid (fun (M : List Rc.TxnAt) (v : Value) (B : Nat) w' (h : Tx.noteT l r = M) (ho : OwnL txC 4 156 B w' v M) (hB : w.heap.size ≤ B) (hb : Below w.heap.size w w') => show NoteOut (Tx.noteT l r) A w (.returned v) w' from by
    rw [h]
    obtain ⟨A2, c2, rfl⟩ := ownLen ho
    exact ⟨_, _, rfl, own_reads ho, .inr ((NewT.own ho).mono hB), hb⟩)
  have N0 := Lib.hid (@Tx.noteT_no l r)
  have N1 := Lib.hid (@Tx.noteT_gone l r)
  have N2 := Lib.hid (@Tx.noteT_new l r)
  have N3 := Lib.hid (fun i => @Tx.noteT_end l r i)
  have N4 := Lib.hid (fun i => @Tx.noteT_old l r i)
  have HPL := Lib.hid (fun n W (hb : Below w.heap.size w W) => tplace_any l n (by omega) A c W (hr.below hb))
  have HCL := Lib.hid (fun W (hb : Below w.heap.size w W) => tclone_any l (by omega) A c W (hr.below hb))
  generalize Tx.noteT l r = R at *
  generalize NoteOut R A w = Q at HSAME HOWN HDEL ⊢
  clear hr
  obtain ⟨lsn, prev, txn, kind, page, next, nu, ⟨ok, os, oo, on⟩, how, root, ⟨ek, ep, es⟩, ts, ds⟩ := r
  dsimp only [recV, recA]
  obtain ⟨W0, hW0⟩ : ∃ W, W = w.alloc (.cells (rcA lsn prev txn kind page next nu ok os oo on how root ek ep es (.slice AT n1 c1) (.slice AD m1 d1)) 96) := ⟨_, rfl⟩
  have H0 := Lib.hid (show W0.heap[w.heap.size]? = some (.cells (rcA lsn prev txn kind page next nu ok os oo on how root ek ep es (.slice AT n1 c1) (.slice AD m1 d1)) 96 (0, 0)) from by rw [hW0]; exact heap_alloc_new _ _)
  have B0 := Lib.hid (show Below w.heap.size w W0 from by rw [hW0]; exact allocB _ _)
  have hc0 := blkCell H0.out
  by_cases hno : Tx.noted ⟨lsn, prev, txn, kind, page, next, nu, ⟨ok, os, oo, on⟩, how, root, ⟨ek, ep, es⟩, ts, ds⟩
  rotate_left
  · have HS := Lib.hid (N0.out hno)
    unfold Tx.noted at hno
    simp only at hno
    clear N0 N1 N2 N3 N4 HPL HCL HOWN HDEL HR
    by_cases h1 : txn < 1
    · go_enter Tryz.func82, Tryz.ntmps82
      go_upto_region 1 with fail
      rw [← hW0]
      clear hW0
      go_wp2_with fail
      exact HSAME.out _ HS.out B0.out
    by_cases h2 : kind < 1
    · go_enter Tryz.func82, Tryz.ntmps82
      go_upto_region 1 with fail
      rw [← hW0]
      clear hW0
      go_wp2_with fail
      exact HSAME.out _ HS.out B0.out
    by_cases h3 : kind = 8
    · have h3' : (kind == 8) = true := by simpa using h3
      clear hno h3
      go_enter Tryz.func82, Tryz.ntmps82
      go_upto_region 1 with fail
      rw [← hW0]
      clear hW0
      go_wp2_with fail
      exact HSAME.out _ HS.out B0.out
    · have h3' : (kind == 8) = false := by simpa using h3
      have h4 : 9 ≤ kind := by omega
      clear hno h3
      go_enter Tryz.func82, Tryz.ntmps82
      go_upto_region 1 with fail
      rw [← hW0]
      clear hW0
      go_wp2_with fail
      exact HSAME.out _ HS.out B0.out
  have HNO := Lib.hid hno
  unfold Tx.noted at hno
  simp only at hno
  have h1 : ¬ txn < 1 := by omega
  have h2 : ¬ kind < 1 := by omega
  have h3 : (kind == 8) = false := by simp; omega
  have h4 : ¬ 9 ≤ kind := by omega
  have HKR := Lib.hid (show 1 ≤ kind ∧ kind ≤ 7 from hno.2)
  have HPL0 := HPL.out txn W0 B0.out
  unfold PlaceOut at HPL0
  clear N0 hno
  cases hp : Tx.placeT l txn with
  | none =>
    rw [hp] at HPL0
    simp only [Tx.placeI] at HPL0
    by_cases hk7 : kind = 7
    · have HS := Lib.hid (N1.out HNO.out hp hk7)
      have hk7' : (kind == 7) = true := by simpa using hk7
      clear N1 N2 N3 N4 HPL HCL HOWN HDEL HR hp hk7
      go_enter Tryz.func82, Tryz.ntmps82
      go_upto_region 1 with fail
      rw [← hW0]
      clear hW0
      go_upto_region 4 with (go_at_call 114; (with_reducible refine HPL0.mono ?_); rintro e w1 ⟨rfl, hb1⟩; have hc1 := blkCell (blkOld H0.out hb1))
      have H1 := Lib.hid (blkOld H0.out hb1)
      have B1 := Lib.hid (joinB B0.out hb1)
      clear hb1 hc1 hc0
      have hc2 := blkCell H1.out
      go_wp2_with fail
      exact HSAME.out _ HS.out B1.out
    · have HRES := Lib.hid (N2.out HNO.out hp hk7)
      have hk7' : (kind == 7) = false := by simpa using hk7
      clear N1 N2 N3 N4 HPL HDEL HR hp HSAME
      go_enter Tryz.func82, Tryz.ntmps82
      go_upto_region 1 with fail
      rw [← hW0]
      clear hW0
      go_upto_region 4 with (go_at_call 114; (with_reducible refine HPL0.mono ?_); rintro e w1 ⟨rfl, hb1⟩; have hc1 := blkCell (blkOld H0.out hb1))
      have H1 := Lib.hid (blkOld H0.out hb1)
      have B1 := Lib.hid (joinB B0.out hb1)
      clear hb1 hc1 hc0
      have hc2 := blkCell H1.out
      have HCL1 := HCL.out w1 B1.out
      clear HCL
      have hlN : (l.length : Int) < ((l.length + 1 : Nat) : Int) := by omega
      go_upto_region 12 with (first
        | (go_at_call 116; (with_reducible refine HCL1.mono ?_); rintro e w2 ⟨v2, rfl, ho2, hb2⟩; obtain ⟨A2, c2, rfl⟩ := ownLen ho2; have H2 := Lib.hid (blkOld H1.out hb2); have hc3 := blkCell H2.out; have hs2 := hb2.size)
        | (at_builtin; refine wpList_push (by kernel_rfl) (.tmp 48) (.tmp 52) 34 156 Tryz.underlying34 info_tx rfl (by omega) (by omega) rfl w1.heap.size _ l.length (l.flatMap txC) rfl (ownBelow ho2 (allocB w2 _)) w2.heap.size (txC ⟨txn, 0, 0, false⟩) 156 rfl (heap_alloc_new w2 _) rfl (txC_one _) (by omega) (by simp; omega) ?_; intro v3 w3 ho3 hg3 hb3))
      have hs1 : w.heap.size + 1 ≤ w1.heap.size := by have := heapLt H1.out; omega
      have HX := Lib.hid (show w3.heap[w.heap.size]? = some (.cells (rcA lsn prev txn kind page next nu ok os oo on how root ek ep es (.slice AT n1 c1) (.slice AD m1 d1)) 96 (0, 0)) from (hb3.block _ (by omega)).trans (blkOld H2.out (allocB w2 _)))
      have HB := Lib.hid (show Below w.heap.size w w3 from ((B1.out.trans (hb2.mono (by omega))).trans ((allocB w2 _).mono (by omega))).trans (hb3.mono (by omega)))
      obtain ⟨g, cap, rfl, hgB0⟩ := ownSome ho3 (by omega)
      have hgB : w.heap.size + 1 ≤ g := by omega
      obtain ⟨L, hL⟩ : ∃ L : List Rc.TxnAt, L = l ++ [⟨txn, 0, 0, false⟩] := ⟨_, rfl⟩
      have hLf : l.flatMap txC ++ txC ⟨txn, 0, 0, false⟩ = L.flatMap txC := by rw [hL, List.flatMap_append]; simp
      rw [hLf] at ho3
      obtain ⟨N, hN⟩ : ∃ N, N = l.length + 1 := ⟨_, rfl⟩
      rw [← hN] at ho3
      rw [← hN]
      obtain ⟨k, hk⟩ : ∃ k, k = l.length := ⟨_, rfl⟩
      rw [← hk]
      have HO := Lib.hid (ownMono ho3 hs1)
      have HLN := Lib.hid (show L.length = N from by rw [hL, hN, List.length_append, List.length_singleton])
      have hkL : k < L.length := by rw [hL, hk, List.length_append, List.length_singleton]; omega
      have HRES2 := Lib.hid (show R = L.set k (Tx.tuneT ⟨lsn, prev, txn, kind, page, next, nu, ⟨ok, os, oo, on⟩, how, root, ⟨ek, ep, es⟩, ts, ds⟩ L[k]) from by
        have e : L[k] = ⟨txn, 0, 0, false⟩ := by subst hL hk; simp
        rw [e, hL, hk]; exact HRES.out)
      clear HRES
      have HRES := HRES2
      clear HRES2 hL hLf hN hk ho3 hg3 hb3 ho2 hb2 hc3 hs2 hc2 H2 H1 B1 hs1 hlN hgB0 B0 H0 HCL1 HPL0
      obtain ⟨W, hWW⟩ : ∃ W, W = w3 := ⟨_, rfl⟩
      rw [← hWW] at HX HB HO
      rw [← hWW]
      clear hWW
      obtain ⟨t, ht⟩ : ∃ t, t = L[k] := ⟨_, rfl⟩
      obtain ⟨tn, tl, tx, td⟩ := t
      obtain ⟨s1, s2, s3⟩ := rowSet HO.out HLN.out k hkL 1 (by omega) (.int .i64 lsn) ⟨tn, lsn, tx, td⟩ (by rw [← ht]; rfl)
      rw [← ht] at s1
      simp only [txC] at s1
      have HT := Lib.hid ht
      have HO2 := Lib.hid s3
      have hcw := blkCell HX.out
      have hgne : w.heap.size ≠ g := by omega
      have hkN := HLN.out
      rw [hkN] at hkL
      have hkI : (k : Int) < (N : Int) := by omega
      have hk0 : (0 : Int) ≤ (k : Int) := by omega
      clear ht s3 hkN
      go_upto_region 14 with fail
      have HX2 := Lib.hid (show (W.setCell ⟨g, k * 4 + 1, none⟩ (.int .i64 lsn)).heap[w.heap.size]? = some (.cells (rcA lsn prev txn kind page next nu ok os oo on how root ek ep es (.slice AT n1 c1) (.slice AD m1 d1)) 96 (0, 0)) from (Below.heap_setCell _ _ _ _ hgne).trans HX.out)
      have HB2 := Lib.hid (HB.out.trans ((Below.refl w.heap.size W).setCell (p := ⟨g, k * 4 + 1, none⟩) (by show w.heap.size ≤ g; omega) (.int .i64 lsn)))
      obtain ⟨W2, hW2⟩ : ∃ W2, W2 = W.setCell ⟨g, k * 4 + 1, none⟩ (.int .i64 lsn) := ⟨_, rfl⟩
      rw [← hW2] at HX2 HB2 HO2
      rw [← hW2]
      clear hW2 HX HB HO hcw s1 s2
      have hcw2 := blkCell HX2.out
      have HLN2 := Lib.hid (show (L.set k ⟨tn, lsn, tx, td⟩).length = N from by rw [List.length_set]; exact HLN.out)
      have HK2 := Lib.hid (show k < (L.set k ⟨tn, lsn, tx, td⟩).length from by have := HLN2.out; omega)
      have hsk : ∀ y, (L.set k ⟨tn, lsn, tx, td⟩).set k y = L.set k y := fun y => List.set_set ..
      have HGE := Lib.hid (show (L.set k ⟨tn, lsn, tx, td⟩)[k]'HK2.out = ⟨tn, lsn, tx, td⟩ from by simp)
      have HFIN := Lib.hid (fun y w' (hy : y = Tx.tuneT ⟨lsn, prev, txn, kind, page, next, nu, ⟨ok, os, oo, on⟩, how, root, ⟨ek, ep, es⟩, ts, ds⟩ ⟨tn, tl, tx, td⟩) (ho : w'.ownsRow (w.heap.size + 1) 156 4 (.slice (some ⟨g, 0, none⟩) N cap) N ((L.set k y).flatMap txC)) (hb : Below w.heap.size w w') => HOWN.out (L.set k y) g N cap (w.heap.size + 1) w' (by rw [hy, HT.out]; exact HRES.out) ho (by rw [List.length_set]; exact HLN.out) (by omega) hb)
      clear HRES HOWN HT
      have hkk : kind = 1 ∨ kind = 2 ∨ kind = 3 ∨ kind = 4 ∨ kind = 5 ∨ kind = 6 := by have := HKR.out; omega
      clear HKR h2 h3 h4 hk7 HNO
      rcases hkk with rfl | rfl | rfl | rfl | rfl | rfl
      · obtain ⟨u1, u2, u3⟩ := rowSet HO2.out HLN2.out k HK2.out 2 (by omega) (.int .i64 lsn) ⟨tn, lsn, lsn, td⟩ (by rw [HGE.out]; rfl)
        rw [HGE.out] at u1
        simp only [txC] at u1
        rw [hsk] at u3
        have HO3 := Lib.hid (HFIN.out ⟨tn, lsn, lsn, td⟩ _ rfl u3 (HB2.out.trans ((Below.refl w.heap.size W2).setCell (p := ⟨g, k * 4 + 2, none⟩) (by show w.heap.size ≤ g; omega) (.int .i64 lsn))))
        clear u3 hsk
        go_wp2_with fail
        exact HO3.out
      · obtain ⟨u1, u2, u3⟩ := rowSet HO2.out HLN2.out k HK2.out 2 (by omega) (.int .i64 lsn) ⟨tn, lsn, lsn, td⟩ (by rw [HGE.out]; rfl)
        rw [HGE.out] at u1
        simp only [txC] at u1
        rw [hsk] at u3
        have HO3 := Lib.hid (HFIN.out ⟨tn, lsn, lsn, td⟩ _ rfl u3 (HB2.out.trans ((Below.refl w.heap.size W2).setCell (p := ⟨g, k * 4 + 2, none⟩) (by show w.heap.size ≤ g; omega) (.int .i64 lsn))))
        clear u3 hsk
        go_wp2_with fail
        exact HO3.out
      · obtain ⟨u1, u2, u3⟩ := rowSet HO2.out HLN2.out k HK2.out 2 (by omega) (.int .i64 next) ⟨tn, lsn, next, td⟩ (by rw [HGE.out]; rfl)
        rw [HGE.out] at u1
        simp only [txC] at u1
        rw [hsk] at u3
        have HO3 := Lib.hid (HFIN.out ⟨tn, lsn, next, td⟩ _ rfl u3 (HB2.out.trans ((Below.refl w.heap.size W2).setCell (p := ⟨g, k * 4 + 2, none⟩) (by show w.heap.size ≤ g; omega) (.int .i64 next))))
        clear u3 hsk
        go_wp2_with fail
        exact HO3.out
      · obtain ⟨u1, u2, u3⟩ := rowSet HO2.out HLN2.out k HK2.out 2 (by omega) (.int .i64 next) ⟨tn, lsn, next, td⟩ (by rw [HGE.out]; rfl)
        rw [HGE.out] at u1
        simp only [txC] at u1
        rw [hsk] at u3
        have HO3 := Lib.hid (HFIN.out ⟨tn, lsn, next, td⟩ _ rfl u3 (HB2.out.trans ((Below.refl w.heap.size W2).setCell (p := ⟨g, k * 4 + 2, none⟩) (by show w.heap.size ≤ g; omega) (.int .i64 next))))
        clear u3 hsk
        go_wp2_with fail
        exact HO3.out
      · obtain ⟨u1, u2, u3⟩ := rowSet HO2.out HLN2.out k HK2.out 3 (by omega) (.bool true) ⟨tn, lsn, tx, true⟩ (by rw [HGE.out]; rfl)
        rw [HGE.out] at u1
        simp only [txC] at u1
        rw [hsk] at u3
        have HO3 := Lib.hid (HFIN.out ⟨tn, lsn, tx, true⟩ _ rfl u3 (HB2.out.trans ((Below.refl w.heap.size W2).setCell (p := ⟨g, k * 4 + 3, none⟩) (by show w.heap.size ≤ g; omega) (.bool true))))
        clear u3 hsk
        go_wp2_with fail
        exact HO3.out
      · have HO3 := Lib.hid (HFIN.out ⟨tn, lsn, tx, td⟩ _ rfl HO2.out HB2.out)
        clear hsk
        go_wp2_with fail
        exact HO3.out
  | some i =>
    rw [hp] at HPL0
    simp only [Tx.placeI] at HPL0
    obtain ⟨hi, -⟩ := Tx.placeT_some hp
    have hi0 : ¬ (i : Int) < 0 := by omega
    by_cases hk7 : kind = 7
    · have HS := Lib.hid (N3.out i HNO.out hp hk7)
      have hk7' : (kind == 7) = true := by simpa using hk7
      clear N1 N2 N3 N4 HPL HOWN HR hp hk7 HSAME
      go_enter Tryz.func82, Tryz.ntmps82
      go_upto_region 1 with fail
      rw [← hW0]
      clear hW0
      go_upto_region 4 with (go_at_call 114; (with_reducible refine HPL0.mono ?_); rintro e w1 ⟨rfl, hb1⟩; have hc1 := blkCell (blkOld H0.out hb1))
      have H1 := Lib.hid (blkOld H0.out hb1)
      have B1 := Lib.hid (joinB B0.out hb1)
      clear hb1 hc1 hc0
      have hc2 := blkCell H1.out
      have HCL1 := HCL.out w1 B1.out
      clear HCL
      have hwi : IntKind.i64.wrap ((i : Int) + 1) = (i : Int) + 1 := IntWalk.i64_in _ (by omega)
      go_wp2_with (first
        | (go_at_call 116; (with_reducible refine HCL1.mono ?_); rintro e w2 ⟨v2, rfl, ho2, hb2⟩; obtain ⟨g, cap, rfl, hgB⟩ := ownSome ho2 (by omega); have HD := Lib.hid (tdelete_any l (by omega) i hi w1.heap.size g cap w2 ho2))
        | (go_at_call 115; (with_reducible refine HD.out.mono ?_); rintro e w3 ⟨v3, rfl, ho3, hb3⟩))
      exact HDEL.out _ _ _ _ HS.out ho3 B1.out.size ((B1.out.trans (hb2.mono B1.out.size)).trans (hb3.mono B1.out.size))
    · have HRES := Lib.hid (N4.out i HNO.out hp hk7 hi)
      have hk7' : (kind == 7) = false := by simpa using hk7
      clear N1 N2 N3 N4 HPL HDEL HR hp HSAME
      go_enter Tryz.func82, Tryz.ntmps82
      go_upto_region 1 with fail
      rw [← hW0]
      clear hW0
      go_upto_region 4 with (go_at_call 114; (with_reducible refine HPL0.mono ?_); rintro e w1 ⟨rfl, hb1⟩; have hc1 := blkCell (blkOld H0.out hb1))
      have H1 := Lib.hid (blkOld H0.out hb1)
      have B1 := Lib.hid (joinB B0.out hb1)
      clear hb1 hc1 hc0
      have hc2 := blkCell H1.out
      have HCL1 := HCL.out w1 B1.out
      clear HCL
      go_upto_region 12 with (go_at_call 116; (with_reducible refine HCL1.mono ?_); rintro e w2 ⟨v2, rfl, ho2, hb2⟩)
      have hs1 : w.heap.size + 1 ≤ w1.heap.size := by have := heapLt H1.out; omega
      have HX := Lib.hid (blkOld H1.out hb2)
      have HB := Lib.hid (show Below w.heap.size w w2 from B1.out.trans (hb2.mono (by omega)))
      obtain ⟨g, cap, rfl, hgB0⟩ := ownSome ho2 (by omega)
      have hgB : w.heap.size + 1 ≤ g := by omega
      have ho2' := ownMono ho2 hs1
      obtain ⟨L, hL⟩ : ∃ L : List Rc.TxnAt, L = l := ⟨_, rfl⟩
      obtain ⟨N, hN⟩ : ∃ N, N = l.length := ⟨_, rfl⟩
      obtain ⟨k, hk⟩ : ∃ k, k = i := ⟨_, rfl⟩
      rw [← hN] at ho2'
      rw [← hN]
      rw [← hL] at ho2'
      rw [← hk]
      have HO := Lib.hid ho2'
      have HLN := Lib.hid (show L.length = N from by rw [hL, hN])
      have hkL : k < L.length := by rw [hL, hk]; exact hi
      have HRES2 := Lib.hid (show R = L.set k (Tx.tuneT ⟨lsn, prev, txn, kind, page, next, nu, ⟨ok, os, oo, on⟩, how, root, ⟨ek, ep, es⟩, ts, ds⟩ L[k]) from by
        subst hL hk; exact HRES.out)
      clear HRES
      have HRES := HRES2
      clear HRES2 hL hN hk ho2 ho2' hb2 hc2 H1 B1 hs1 hgB0 B0 H0 HCL1 HPL0 hi hi0
      obtain ⟨W, hWW⟩ : ∃ W, W = w2 := ⟨_, rfl⟩
      rw [← hWW] at HX HB HO
      rw [← hWW]
      clear hWW
      obtain ⟨t, ht⟩ : ∃ t, t = L[k] := ⟨_, rfl⟩
      obtain ⟨tn, tl, tx, td⟩ := t
      obtain ⟨s1, s2, s3⟩ := rowSet HO.out HLN.out k hkL 1 (by omega) (.int .i64 lsn) ⟨tn, lsn, tx, td⟩ (by rw [← ht]; rfl)
      rw [← ht] at s1
      simp only [txC] at s1
      have HT := Lib.hid ht
      have HO2 := Lib.hid s3
      have hcw := blkCell HX.out
      have hgne : w.heap.size ≠ g := by omega
      have hkN := HLN.out
      rw [hkN] at hkL
      have hkI : (k : Int) < (N : Int) := by omega
      have hk0 : (0 : Int) ≤ (k : Int) := by omega
      clear ht s3 hkN
      go_upto_region 14 with fail
      have HX2 := Lib.hid (show (W.setCell ⟨g, k * 4 + 1, none⟩ (.int .i64 lsn)).heap[w.heap.size]? = some (.cells (rcA lsn prev txn kind page next nu ok os oo on how root ek ep es (.slice AT n1 c1) (.slice AD m1 d1)) 96 (0, 0)) from (Below.heap_setCell _ _ _ _ hgne).trans HX.out)
      have HB2 := Lib.hid (HB.out.trans ((Below.refl w.heap.size W).setCell (p := ⟨g, k * 4 + 1, none⟩) (by show w.heap.size ≤ g; omega) (.int .i64 lsn)))
      obtain ⟨W2, hW2⟩ : ∃ W2, W2 = W.setCell ⟨g, k * 4 + 1, none⟩ (.int .i64 lsn) := ⟨_, rfl⟩
      rw [← hW2] at HX2 HB2 HO2
      rw [← hW2]
      clear hW2 HX HB HO hcw s1 s2
      have hcw2 := blkCell HX2.out
      have HLN2 := Lib.hid (show (L.set k ⟨tn, lsn, tx, td⟩).length = N from by rw [List.length_set]; exact HLN.out)
      have HK2 := Lib.hid (show k < (L.set k ⟨tn, lsn, tx, td⟩).length from by have := HLN2.out; omega)
      have hsk : ∀ y, (L.set k ⟨tn, lsn, tx, td⟩).set k y = L.set k y := fun y => List.set_set ..
      have HGE := Lib.hid (show (L.set k ⟨tn, lsn, tx, td⟩)[k]'HK2.out = ⟨tn, lsn, tx, td⟩ from by simp)
      have HFIN := Lib.hid (fun y w' (hy : y = Tx.tuneT ⟨lsn, prev, txn, kind, page, next, nu, ⟨ok, os, oo, on⟩, how, root, ⟨ek, ep, es⟩, ts, ds⟩ ⟨tn, tl, tx, td⟩) (ho : w'.ownsRow (w.heap.size + 1) 156 4 (.slice (some ⟨g, 0, none⟩) N cap) N ((L.set k y).flatMap txC)) (hb : Below w.heap.size w w') => HOWN.out (L.set k y) g N cap (w.heap.size + 1) w' (by rw [hy, HT.out]; exact HRES.out) ho (by rw [List.length_set]; exact HLN.out) (by omega) hb)
      clear HRES HOWN HT
      have hkk : kind = 1 ∨ kind = 2 ∨ kind = 3 ∨ kind = 4 ∨ kind = 5 ∨ kind = 6 := by have := HKR.out; omega
      clear HKR h2 h3 h4 hk7 HNO
      rcases hkk with rfl | rfl | rfl | rfl | rfl | rfl
      · obtain ⟨u1, u2, u3⟩ := rowSet HO2.out HLN2.out k HK2.out 2 (by omega) (.int .i64 lsn) ⟨tn, lsn, lsn, td⟩ (by rw [HGE.out]; rfl)
        rw [HGE.out] at u1
        simp only [txC] at u1
        rw [hsk] at u3
        have HO3 := Lib.hid (HFIN.out ⟨tn, lsn, lsn, td⟩ _ rfl u3 (HB2.out.trans ((Below.refl w.heap.size W2).setCell (p := ⟨g, k * 4 + 2, none⟩) (by show w.heap.size ≤ g; omega) (.int .i64 lsn))))
        clear u3 hsk
        go_wp2_with fail
        exact HO3.out
      · obtain ⟨u1, u2, u3⟩ := rowSet HO2.out HLN2.out k HK2.out 2 (by omega) (.int .i64 lsn) ⟨tn, lsn, lsn, td⟩ (by rw [HGE.out]; rfl)
        rw [HGE.out] at u1
        simp only [txC] at u1
        rw [hsk] at u3
        have HO3 := Lib.hid (HFIN.out ⟨tn, lsn, lsn, td⟩ _ rfl u3 (HB2.out.trans ((Below.refl w.heap.size W2).setCell (p := ⟨g, k * 4 + 2, none⟩) (by show w.heap.size ≤ g; omega) (.int .i64 lsn))))
        clear u3 hsk
        go_wp2_with fail
        exact HO3.out
      · obtain ⟨u1, u2, u3⟩ := rowSet HO2.out HLN2.out k HK2.out 2 (by omega) (.int .i64 next) ⟨tn, lsn, next, td⟩ (by rw [HGE.out]; rfl)
        rw [HGE.out] at u1
        simp only [txC] at u1
        rw [hsk] at u3
        have HO3 := Lib.hid (HFIN.out ⟨tn, lsn, next, td⟩ _ rfl u3 (HB2.out.trans ((Below.refl w.heap.size W2).setCell (p := ⟨g, k * 4 + 2, none⟩) (by show w.heap.size ≤ g; omega) (.int .i64 next))))
        clear u3 hsk
        go_wp2_with fail
        exact HO3.out
      · obtain ⟨u1, u2, u3⟩ := rowSet HO2.out HLN2.out k HK2.out 2 (by omega) (.int .i64 next) ⟨tn, lsn, next, td⟩ (by rw [HGE.out]; rfl)
        rw [HGE.out] at u1
        simp only [txC] at u1
        rw [hsk] at u3
        have HO3 := Lib.hid (HFIN.out ⟨tn, lsn, next, td⟩ _ rfl u3 (HB2.out.trans ((Below.refl w.heap.size W2).setCell (p := ⟨g, k * 4 + 2, none⟩) (by show w.heap.size ≤ g; omega) (.int .i64 next))))
        clear u3 hsk
        go_wp2_with fail
        exact HO3.out
      · obtain ⟨u1, u2, u3⟩ := rowSet HO2.out HLN2.out k HK2.out 3 (by omega) (.bool true) ⟨tn, lsn, tx, true⟩ (by rw [HGE.out]; rfl)
        rw [HGE.out] at u1
        simp only [txC] at u1
        rw [hsk] at u3
        have HO3 := Lib.hid (HFIN.out ⟨tn, lsn, tx, true⟩ _ rfl u3 (HB2.out.trans ((Below.refl w.heap.size W2).setCell (p := ⟨g, k * 4 + 3, none⟩) (by show w.heap.size ≤ g; omega) (.bool true))))
        clear u3 hsk
        go_wp2_with fail
        exact HO3.out
      · have HO3 := Lib.hid (HFIN.out ⟨tn, lsn, tx, td⟩ _ rfl HO2.out HB2.out)
        clear hsk
        go_wp2_with fail
        exact HO3.out
end Go.Proofs.YtmebkghdkeeobaaGreatDoor
namespace Tx
end Tx
namespace Go.Proofs.YtmebkghdkeeobaaGreatDoor
open Go.RowKit
theorem listPart {P : Program} {ops : Array Oper} {rest : List Oper} {op : Oper} {a : Act} {w : World} {Q : Exit → Act → World → Prop} (hw : Region.wanted op (yielded ops a.tmps) = true) (ty : TypeId) (x : Operand) (ho : op.op = .load ty x)
    (b o : Nat) (hx : a.eval x = .pointer (some ⟨b, o, none⟩)) (part cells : Array Value) (t : TypeId) (hg : w.heap[b]? = some (.cells cells t (0, 0))) (hp : (cells.toList.drop o).take part.size = part.toList) (d : TypeDesc)
    (hu : P.underlying ty = some d) (hd : d.isRow = true) (hi : (P.info? ty).map (·.size) = some part.size)
    (h : wpList P ops Q rest (a.put op.dst (.agg part)) w) : wpList P ops Q (op :: rest) a w :=
  listWants hw fun K hK => by
    refine wp_load_mid ty x ho b o hx part.toList d (fun j v hj => ?_) hu hd (by simpa using hi) ?_
    · rw [blkCell hg]
      have h1 : j < part.size := by have := (List.getElem?_eq_some_iff.1 hj).1; simpa using this
      rw [← hp, List.getElem?_take, if_pos h1, List.getElem?_drop, Array.getElem?_toList] at hj
      exact hj
    · simpa using hK _ _ h
theorem listPut {P : Program} {ops : Array Oper} {rest : List Oper} {op : Oper} {a : Act} {w : World} {Q : Exit → Act → World → Prop} (hw : Region.wanted op (yielded ops a.tmps) = true) (ty : TypeId) (x y : Operand) (ho : op.op = .store ty x y)
    (b o : Nat) (part cur res : Array Value) (t : TypeId) (hx : a.eval x = .pointer (some ⟨b, o, none⟩)) (hy : a.eval y = .agg part) (hg : w.heap[b]? = some (.cells cur t (0, 0))) (hr : res = (cur.toList.take o ++ part.toList ++ cur.toList.drop (o + part.toList.length)).toArray)
    (hsz : decide (o + part.toList.length ≤ cur.size) = true) (hi : (P.info? ty).map (·.size) = some part.size) (h1 : part.all (·.oneCell') = true) (h : wpList P ops Q rest (a.put op.dst undef) (w.setRow b res)) : wpList P ops Q (op :: rest) a w :=
  listWants hw fun K hK => by
    have hst := run_storeCells_at P b o t part.toList 0 cur w hg (by rw [Nat.add_zero]; exact of_decide_eq_true hsz) (fun v hv => (Array.all_eq_true_iff_forall_mem.1 h1) v (by simpa using hv))
    rw [Nat.add_zero, ← hr] at hst
    have hrun : (storeVar ty ⟨b, o, none⟩ (.agg part)).run P w = .ok () (w.setRow b res) := by
      cases hq : P.info? ty with
      | none => simp [hq] at hi
      | some i =>
        have hs : part.size = i.size := by simp [hq] at hi; omega
        simp [storeVar, sizeOf, typeInfo, hq, Value.cells, hs, hst]
    unfold Oper.wp execOp
    simp only [ho, hx, hy, Instr.storeAt, Instr.sureAddr, Sem.run_bind, Sem.run_pure, Result.andThen_ok, hrun]
    exact hK _ _ h
structure SP where
  A : Option Addr
  c : Nat
  F : Option Addr
  fn : Nat
  fc : Nat
  T : Option Addr
  tc : Nat
abbrev storeV (s : Tx.St) (p : SP) : Value := .agg #[.int .i64 s.zlog, .int .i64 s.zpages, .int .i64 s.zframes, .slice p.A s.disk.sectors.length p.c, .int .i64 s.disk.left, .bool s.disk.down, .int .i64 s.log.from_, .int .i64 s.log.n, .int .i64 s.log.end_, .int .i64 s.log.safe, .string s.log.tail, .slice p.F p.fn p.fc, .int .i64 s.hand, .slice p.T s.txns.length p.tc, .int .i64 s.next]
structure StoreR (w : World) (s : Tx.St) (p : SP) : Prop where
  dk : DiskR w s.disk p.A p.c
  dt : NewT 0 w 9 p.A
  tx : TxR w p.T p.tc s.txns
  tt : NewT 0 w 156 p.T
theorem StoreR.below {w w' : World} {s : Tx.St} {p : SP} (h : StoreR w s p) (hb : Below w.heap.size w w') : StoreR w' s p := ⟨h.dk.below hb, h.dt.below hb, h.tx.below hb, h.tt.below hb⟩
theorem StoreR.other {w : World} {s : Tx.St} {p : SP} (h : StoreR w s p) {b : Nat} {cur : Array Value} {t : TypeId} {fr : Nat × Nat} (hb : w.heap[b]? = some (.cells cur t fr)) (h1 : t ≠ 9) (h2 : t ≠ 156) (cs : Array Value) : StoreR (w.setRow b cs) s p :=
  ⟨⟨h.dt.readsRow h.dk.secs hb h1 cs, h.dk.small⟩, h.dt.row b cs, h.tt.readsRow h.tx hb h2 cs, h.tt.row b cs⟩
theorem StoreR.set {w : World} {s : Tx.St} {p : SP} (h : StoreR w s p) {b : Nat} {cur : Array Value} {t : TypeId} {fr : Nat × Nat} (hb : w.heap[b]? = some (.cells cur t fr)) (h1 : t ≠ 9) (h2 : t ≠ 156) (j : Nat) (v : Value) : StoreR (w.setCell ⟨b, j, none⟩ v) s p := by
  rw [setCell_eq_setRow w b j cur t fr v hb]
  exact h.other hb h1 h2 _
theorem recR_nil (r : Rc.Rec) (w : World) (h1 : r.txns = []) (h2 : r.dirty = []) : RecR w r none 0 none 0 := by
  refine ⟨?_, ?_, by rw [h1, h2]; exact ⟨Nat.zero_le _, Nat.zero_le _⟩⟩
  · rw [h1]; exact Reads.none_ _ _ _ _
  · rw [h2]; exact Reads.none_ _ _ _ _
end Go.Proofs.YtmebkghdkeeobaaGreatDoor
namespace Lg
open Rc
structure Al (l : Lo) : Prop where
  s0 : 0 ≤ l.safe
  se : l.safe ≤ l.end_
  tl : l.end_ - (l.tail.size : Int) = l.safe - l.safe % 128
theorem Al.first {l : Lo} (h : Al l) : firstS l = l.safe / 128 := by
  have h1 := h.s0
  have h2 := h.tl
  unfold firstS
  rw [h2]
  omega
theorem Al.more {l : Lo} (h : Al l) (hne : ¬ l.end_ ≤ l.safe) : 0 < l.tail.size := by
  have h1 := h.s0
  have h2 := h.se
  have h3 := h.tl
  omega
end Lg
namespace Tx
open Rc Lg
end Tx
namespace Go.Proofs.YtmebkghdkeeobaaGreatDoor
open Go.RowKit
abbrev stA (s : Tx.St) (p : SP) : Array Value := #[.int .i64 s.zlog, .int .i64 s.zpages, .int .i64 s.zframes, .slice p.A s.disk.sectors.length p.c, .int .i64 s.disk.left, .bool s.disk.down, .int .i64 s.log.from_, .int .i64 s.log.n, .int .i64 s.log.end_, .int .i64 s.log.safe, .string s.log.tail, .slice p.F p.fn p.fc, .int .i64 s.hand, .slice p.T s.txns.length p.tc, .int .i64 s.next]
structure Fr where
  page : Int
  bytes : ByteArray
  pins : Int
  mark : Bool
  rc : Int
def frL (f : Fr) : List Value := [.int .i64 f.page, .string f.bytes, .int .i64 f.pins, .bool f.mark, .int .i64 f.rc]
abbrev frA (f : Fr) : Array Value := #[.int .i64 f.page, .string f.bytes, .int .i64 f.pins, .bool f.mark, .int .i64 f.rc]
theorem frL_len (f : Fr) : (frL f).length = 5 := rfl
theorem frL_one (f : Fr) : ∀ u ∈ frL f, u.oneCell' = true := by
  intro u hu
  simp only [frL, List.mem_cons, List.not_mem_nil, or_false] at hu
  rcases hu with rfl | rfl | rfl | rfl | rfl <;> rfl
theorem frL_all (l : List Fr) : ∀ u ∈ l.flatMap frL, u.oneCell' = true := by
  intro u hu
  obtain ⟨v, _, h⟩ := List.mem_flatMap.1 hu
  exact frL_one v u h
theorem info_fr : (Tryz.prog.info? 80).map (fun i => (i.zero, i.size, i.bytes)) = some (some (.agg #[.int .i64 0, .string ⟨#[]⟩, .int .i64 0, .bool false, .int .i64 0]), 5, 48) := by kernel_rfl
theorem str_nil : (⟨#[]⟩ : ByteArray).toList = [] := by rw [ByteArray.toList_eq]
theorem str_ne {b : ByteArray} (h : b ≠ ⟨#[]⟩) : ¬ b.toList = [] ∧ (b.toList == []) = false ∧ (b.toList == (⟨#[]⟩ : ByteArray).toList) = false := by
  have h1 : ¬ b.toList = [] := fun h2 => h (by
    rw [ByteArray.toList_eq] at h2
    obtain ⟨⟨l⟩⟩ := b
    simp only at h2
    rw [h2])
  have h3 : (b.toList == []) = false := by simpa using h1
  exact ⟨h1, h3, by rw [str_nil]; exact h3⟩
theorem StoreR.frames {w : World} {s : Tx.St} {p : SP} (h : StoreR w s p) (F : Option Addr) (n c : Nat) : StoreR w s { p with F := F, fn := n, fc := c } := ⟨h.dk, h.dt, h.tx, h.tt⟩
structure PoolR (w : World) (s : Tx.St) (p : SP) (fs : List Fr) : Prop where
  st : StoreR w s p
  fn : p.fn = fs.length
  fr : Reads w p.F p.fc fs.length (fs.flatMap frL)
  ft : NewT 0 w 80 p.F
theorem PoolR.below {w w' : World} {s : Tx.St} {p : SP} {fs : List Fr} (h : PoolR w s p fs) (hb : Below w.heap.size w w') : PoolR w' s p fs := ⟨h.st.below hb, h.fn, h.fr.below hb, h.ft.below hb⟩
theorem PoolR.other {w : World} {s : Tx.St} {p : SP} {fs : List Fr} (h : PoolR w s p fs) {b : Nat} {cur : Array Value} {t : TypeId} {fr : Nat × Nat} (hb : w.heap[b]? = some (.cells cur t fr)) (h1 : t ≠ 9) (h2 : t ≠ 156) (h3 : t ≠ 80) (cs : Array Value) : PoolR (w.setRow b cs) s p fs :=
  ⟨h.st.other hb h1 h2 cs, h.fn, h.ft.readsRow h.fr hb h3 cs, h.ft.row b cs⟩
theorem rowB {B g : Nat} {w u : World} (hg : B ≤ g) (hb : Below B w u) (cs : Array Value) : Below B w (u.setRow g cs) :=
  ⟨hb.os, hb.tape, hb.output, by show _ ≤ (u.heap.modify _ _).size; have := hb.size; simpa using this, fun k hk => by show (u.heap.modify _ _)[k]? = _; rw [Array.getElem?_modify, if_neg (by omega)]; exact hb.block k hk⟩
section
variable {α : Type} {enc : α → List Value} {k : Nat} {e : TypeId} {B g c : Nat} {w : World} {l : List α}
theorem flat_put (hk : ∀ x, (enc x).length = k) (l : List α) (i : Nat) (hi : i < l.length) (x : α) (t : Nat) : ((l.set i x).flatMap enc)[t]? = if i * k ≤ t ∧ t < i * k + k then (enc x)[t - i * k]? else (l.flatMap enc)[t]? := by
  have hle : i * k + k ≤ l.length * k := by have := Nat.mul_le_mul_right k (show i + 1 ≤ l.length from hi); rwa [Nat.add_mul, Nat.one_mul] at this
  by_cases hin : i * k ≤ t ∧ t < i * k + k
  · rw [if_pos hin]
    obtain ⟨j, rfl⟩ : ∃ j, t = i * k + j := ⟨t - i * k, by omega⟩
    rw [flat_at hk (l.set i x) i j (by rw [List.length_set]; exact hi) (by omega), List.getElem_set_self, Nat.add_sub_cancel_left]
  · rw [if_neg hin]
    by_cases ht : t < l.length * k
    · have hk0 : 0 < k := by rcases Nat.eq_zero_or_pos k with h | h; (· subst h; omega); (· exact h)
      have hd : t / k < l.length := by rw [Nat.div_lt_iff_lt_mul hk0]; exact ht
      have hm : t % k < k := Nat.mod_lt _ hk0
      have e1 : t = t / k * k + t % k := by rw [Nat.mul_comm]; exact (Nat.div_add_mod t k).symm
      have hne : i ≠ t / k := fun h => hin (by rw [h]; omega)
      rw [e1, flat_at hk (l.set i x) (t / k) (t % k) (by rw [List.length_set]; exact hd) hm, flat_at hk l (t / k) (t % k) hd hm, List.getElem_set_ne hne]
    · rw [List.getElem?_eq_none (by rw [flat_len hk, List.length_set]; omega), List.getElem?_eq_none (by rw [flat_len hk]; omega)]
theorem own_blk (ho : OwnL enc k e B w (.slice (some ⟨g, 0, none⟩) l.length c) l) : ∃ cur : Array Value, B ≤ g ∧ g < w.heap.size ∧ w.heap[g]? = some (.cells cur e (0, 0)) ∧ l.length ≤ c ∧ c ≤ maxLen ∧ cur.size = c * k ∧ ∀ t, t < l.length * k → cur[t]? = (l.flatMap enc)[t]? := by
  obtain ⟨hxl, h2⟩ := ho
  rcases h2 with ⟨h0, _⟩ | ⟨g', cap, cur, hv, hgB, hh, hnc, hcap, hsz, htake⟩
  · cases h0
  injection hv with hv1 hv2 hv3
  injection hv1 with hv1
  injection hv1 with hv1 _ _
  subst hv1 hv3
  refine ⟨cur, hgB, heapLt hh, hh, hnc, hcap, hsz, fun t ht => ?_⟩
  rw [← htake, List.getElem?_take, if_pos ht, Array.getElem?_toList]
theorem own_mk {cur : Array Value} (hk : ∀ x, (enc x).length = k) (hB : B ≤ g) (hg : w.heap[g]? = some (.cells cur e (0, 0))) (hn : l.length ≤ c) (hc : c ≤ maxLen) (hs : cur.size = c * k) (h : ∀ t, t < l.length * k → cur[t]? = (l.flatMap enc)[t]?) : OwnL enc k e B w (.slice (some ⟨g, 0, none⟩) l.length c) l := by
  refine ⟨flat_len hk l, .inr ⟨g, c, cur, rfl, hB, hg, hn, hc, hs, ?_⟩⟩
  refine List.ext_getElem? fun t => ?_
  rw [List.getElem?_take]
  by_cases ht : t < l.length * k
  · rw [if_pos ht, Array.getElem?_toList, h t ht]
  · rw [if_neg ht, List.getElem?_eq_none (by rw [flat_len hk]; omega)]
theorem own_put (hk : ∀ x, (enc x).length = k) (ho : OwnL enc k e B w (.slice (some ⟨g, 0, none⟩) l.length c) l) (i : Nat) (hi : i < l.length) (x : α) :
    w.there g (i * k) k ∧ OwnL enc k e B (w.setCells g (i * k) (enc x)) (.slice (some ⟨g, 0, none⟩) (l.set i x).length c) (l.set i x) ∧ Below B w (w.setCells g (i * k) (enc x)) := by
  obtain ⟨cur, hB, hg, hh, hn, hc, hs, ht⟩ := own_blk ho
  have hle : i * k + k ≤ l.length * k := by have := Nat.mul_le_mul_right k (show i + 1 ≤ l.length from hi); rwa [Nat.add_mul, Nat.one_mul] at this
  have hlc : l.length * k ≤ c * k := Nat.mul_le_mul_right _ hn
  obtain ⟨cur', k1, k2, k3⟩ := setCells_blk (enc x) (i * k) cur w hh
  refine ⟨fun j hj => ⟨by rw [blkCell hh, Array.getElem?_eq_getElem (by omega)]; rfl, blkFrozen hh _⟩, own_mk hk hB k1 (by rw [List.length_set]; exact hn) hc (by rw [k2]; exact hs) (fun t h => ?_), setCells_below hB _ _ _⟩
  rw [List.length_set] at h
  rw [k3, flat_put hk l i hi x t, hk]
  by_cases hin : i * k ≤ t ∧ t < i * k + k
  · rw [if_pos ⟨hin.1, hin.2, by omega⟩, if_pos hin]
  · rw [if_neg (fun h => hin ⟨h.1, h.2.1⟩), if_neg hin, ht t h]
end
def Says (p : Prop) (w : World) (e : Ending) (w' : World) : Prop := ∃ b : Bool, e = .returned (.bool b) ∧ (b = true ↔ p) ∧ Below w.heap.size w w'
def FirstAt {α : Type} (P : α → Prop) (l : List α) (w : World) (e : Ending) (w' : World) : Prop :=
  ∃ k : Int, e = .returned (.int .i64 k) ∧ ((k = -1 ∧ ∀ x ∈ l, ¬ P x) ∨ ∃ (i : Nat) (h : i < l.length), k = (i : Int) ∧ P l[i] ∧ ∀ j (hj : j < i), ¬ P (l[j]'(by omega))) ∧ Below w.heap.size w w'
theorem first_no {α : Type} {P : α → Prop} {l : List α} {w w' : World} (h : ∀ j (hj : j < l.length), ¬ P l[j]) (hb : Below w.heap.size w w') : FirstAt P l w (.returned (.int .i64 (-1))) w' :=
  ⟨-1, rfl, .inl ⟨rfl, fun x hx => by obtain ⟨j, hj, rfl⟩ := List.getElem_of_mem hx; exact h j hj⟩, hb⟩
theorem first_yes {α : Type} {P : α → Prop} {l : List α} {w w' : World} {k : Nat} (hk : k < l.length) (hp : P l[k]) (h : ∀ j (hj : j < l.length), j < k → ¬ P l[j]) (hb : Below w.heap.size w w') : FirstAt P l w (.returned (.int .i64 (k : Int))) w' :=
  ⟨(k : Int), rfl, .inr ⟨k, hk, rfl, hp, fun j hj => h j (by omega) hj⟩, hb⟩
set_option maxRecDepth 100000 in
set_option maxHeartbeats 1000000 in
theorem indexF_any (P : Fr → Prop) (g : Nat) (cb : Array Value) (eg : ∀ args w, (callFunc g args).run Tryz.prog w = .ok (.enter g args) w) (l : List Fr) (hl : l.length ≤ 140737488355328) (A : Option Addr) (c : Nat) (w : World) (hr : Reads w A c l.length (l.flatMap frL))
    (hc : ∀ x ∈ l, ∀ W, Below w.heap.size w W → Calls Tryz.prog g (#[.agg (frA x)] ++ cb) W (Says (P x) W)) :
    Calls Tryz.prog 97 #[.slice A l.length c, .func (.func g) #[] cb] w (FirstAt P l w) := by
  have HR := Lib.hid hr
  have HC := Lib.hid hc
  have HNO := Lib.hid (fun h w' hb => first_no (P := P) (l := l) (w := w) (w' := w') h hb)
  have HYES := Lib.hid (fun k hk hp h w' hb => first_yes (P := P) (l := l) (w := w) (w' := w') (k := k) hk hp h hb)
  generalize FirstAt P l w = Q at HNO HYES ⊢
  clear hr hc
  go_enter Tryz.func97, Tryz.ntmps97
  go_wp2_with fail
  go_loopw [8] (fun i wr => ∃ k : Nat, k ≤ l.length ∧ i = .int .i64 k ∧ (∀ j (hj : j < l.length), j < k → ¬ P l[j]) ∧ Below w.heap.size w wr) (fun i _ => l.length - (intOf i).toNat)
  case atStart => exact ⟨0, Nat.zero_le _, rfl, fun _ _ h => absurd h (by omega), Below.refl _ _⟩
  case round =>
    obtain ⟨k, hk, rfl, hall, hbw⟩ := hrel
    have HA := Lib.hid hall
    clear hall
    by_cases hlt : k < l.length
    · obtain ⟨b, off, rfl, hca, hbl, hcell⟩ := read_at frL_len (HR.out.below hbw) hlt
      have HY := Lib.hid (fun hp => HYES.out k hlt hp HA.out)
      have HN := Lib.hid (show ¬ P l[k] → ∀ j (hj : j < l.length), j < k + 1 → ¬ P l[j] from fun h j hj hjk => by
        rcases Nat.lt_or_eq_of_le (Nat.le_of_lt_succ hjk) with h1 | h1
        · exact HA.out j hj h1
        · subst h1; exact h)
      have hcx := HC.out l[k] (List.getElem_mem hlt) wr hbw
      generalize l[k] = x at hcell HY HN hcx
      obtain ⟨fp, fb, fi, fm, fr⟩ := x
      have HCELL := Lib.hid (show wr.rangeAt b (off + k * 5) [.int .i64 fp, .string fb, .int .i64 fi, .bool fm, .int .i64 fr] from hcell)
      have HCX := Lib.hid hcx
      clear hcell HA hcx
      dsimp only [frA] at HCX
      have hk0 : (0 : Int) ≤ (k : Int) := by omega
      have hki : (k : Int) < (l.length : Int) := by omega
      have hwk : IntKind.i64.wrap ((k : Int) + 1) = (k : Int) + 1 := IntWalk.i64_in _ (by omega)
      by_cases hp : P ⟨fp, fb, fi, fm, fr⟩
      · have HP := Lib.hid hp
        clear hp hca
        go_wp2_with (first
          | (with_reducible refine wpList_load_mid rfl 80 (.tmp 14) rfl b (off + k * 5) rfl [.int .i64 fp, .string fb, .int .i64 fi, .bool fm, .int .i64 fr] _ HCELL.out Tryz.underlying80 (by kernel_rfl) (by kernel_rfl) ?_)
          | (go_at_fn g; (with_reducible refine HCX.out.mono ?_); rintro e w2 ⟨q, rfl, hq, hb2⟩; obtain rfl : q = true := hq.2 HP.out; clear hq))
        exact HY.out HP.out _ (joinB hbw hb2)
      · have HP := Lib.hid hp
        clear hp hca
        go_wp2_with (first
          | (with_reducible refine wpList_load_mid rfl 80 (.tmp 14) rfl b (off + k * 5) rfl [.int .i64 fp, .string fb, .int .i64 fi, .bool fm, .int .i64 fr] _ HCELL.out Tryz.underlying80 (by kernel_rfl) (by kernel_rfl) ?_)
          | (go_at_fn g; (with_reducible refine HCX.out.mono ?_); rintro e w2 ⟨q, rfl, hq, hb2⟩; obtain rfl : q = false := (by cases q with | true => exact absurd (hq.1 rfl) HP.out | false => rfl); clear hq))
        go_roundw
        case rel => exact ⟨k + 1, by omega, by go_num, HN.out HP.out, joinB hbw hb2⟩
        case measure => simp [intOf]; omega
    · have HF := Lib.hid (HNO.out (fun j hj => HA.out j hj (by omega)) _ hbw)
      go_wp2_with fail
      exact HF.out
abbrev txA (t : Rc.TxnAt) : Array Value := #[.int .i64 t.txn, .int .i64 t.last, .int .i64 t.next, .bool t.done]
set_option maxRecDepth 100000 in
set_option maxHeartbeats 1000000 in
theorem indexT_any (P : Rc.TxnAt → Prop) (g : Nat) (cb : Array Value) (eg : ∀ args w, (callFunc g args).run Tryz.prog w = .ok (.enter g args) w) (l : List Rc.TxnAt) (hl : l.length ≤ 140737488355328) (A : Option Addr) (c : Nat) (w : World) (hr : Reads w A c l.length (l.flatMap txC))
    (hc : ∀ x ∈ l, ∀ W, Below w.heap.size w W → Calls Tryz.prog g (#[.agg (txA x)] ++ cb) W (Says (P x) W)) :
    Calls Tryz.prog 130 #[.slice A l.length c, .func (.func g) #[] cb] w (FirstAt P l w) := by
  have HR := Lib.hid hr
  have HC := Lib.hid hc
  have HNO := Lib.hid (fun h w' hb => first_no (P := P) (l := l) (w := w) (w' := w') h hb)
  have HYES := Lib.hid (fun k hk hp h w' hb => first_yes (P := P) (l := l) (w := w) (w' := w') (k := k) hk hp h hb)
  generalize FirstAt P l w = Q at HNO HYES ⊢
  clear hr hc
  go_enter Tryz.func130, Tryz.ntmps130
  go_wp2_with fail
  go_loopw [8] (fun i wr => ∃ k : Nat, k ≤ l.length ∧ i = .int .i64 k ∧ (∀ j (hj : j < l.length), j < k → ¬ P l[j]) ∧ Below w.heap.size w wr) (fun i _ => l.length - (intOf i).toNat)
  case atStart => exact ⟨0, Nat.zero_le _, rfl, fun _ _ h => absurd h (by omega), Below.refl _ _⟩
  case round =>
    obtain ⟨k, hk, rfl, hall, hbw⟩ := hrel
    have HA := Lib.hid hall
    clear hall
    by_cases hlt : k < l.length
    · obtain ⟨b, off, rfl, hca, hbl, hcell⟩ := read_at txC_len (HR.out.below hbw) hlt
      have HY := Lib.hid (fun hp => HYES.out k hlt hp HA.out)
      have HN := Lib.hid (show ¬ P l[k] → ∀ j (hj : j < l.length), j < k + 1 → ¬ P l[j] from fun h j hj hjk => by
        rcases Nat.lt_or_eq_of_le (Nat.le_of_lt_succ hjk) with h1 | h1
        · exact HA.out j hj h1
        · subst h1; exact h)
      have hcx := HC.out l[k] (List.getElem_mem hlt) wr hbw
      generalize l[k] = x at hcell HY HN hcx
      obtain ⟨ta, tb, tc, td⟩ := x
      have HCELL := Lib.hid (show wr.rangeAt b (off + k * 4) [.int .i64 ta, .int .i64 tb, .int .i64 tc, .bool td] from hcell)
      have HCX := Lib.hid hcx
      clear hcell HA hcx
      dsimp only [txA] at HCX
      have hk0 : (0 : Int) ≤ (k : Int) := by omega
      have hki : (k : Int) < (l.length : Int) := by omega
      have hwk : IntKind.i64.wrap ((k : Int) + 1) = (k : Int) + 1 := IntWalk.i64_in _ (by omega)
      by_cases hp : P ⟨ta, tb, tc, td⟩
      · have HP := Lib.hid hp
        clear hp hca
        go_wp2_with (first
          | (with_reducible refine wpList_load_mid rfl 156 (.tmp 14) rfl b (off + k * 4) rfl [.int .i64 ta, .int .i64 tb, .int .i64 tc, .bool td] _ HCELL.out Tryz.underlying156 (by kernel_rfl) (by kernel_rfl) ?_)
          | (go_at_fn g; (with_reducible refine HCX.out.mono ?_); rintro e w2 ⟨q, rfl, hq, hb2⟩; obtain rfl : q = true := hq.2 HP.out; clear hq))
        exact HY.out HP.out _ (joinB hbw hb2)
      · have HP := Lib.hid hp
        clear hp hca
        go_wp2_with (first
          | (with_reducible refine wpList_load_mid rfl 156 (.tmp 14) rfl b (off + k * 4) rfl [.int .i64 ta, .int .i64 tb, .int .i64 tc, .bool td] _ HCELL.out Tryz.underlying156 (by kernel_rfl) (by kernel_rfl) ?_)
          | (go_at_fn g; (with_reducible refine HCX.out.mono ?_); rintro e w2 ⟨q, rfl, hq, hb2⟩; obtain rfl : q = false := (by cases q with | true => exact absurd (hq.1 rfl) HP.out | false => rfl); clear hq))
        go_roundw
        case rel => exact ⟨k + 1, by omega, by go_num, HN.out HP.out, joinB hbw hb2⟩
        case measure => simp [intOf]; omega
    · have HF := Lib.hid (HNO.out (fun j hj => HA.out j hj (by omega)) _ hbw)
      go_wp2_with fail
      exact HF.out
set_option maxRecDepth 100000 in
theorem fclone_any (l : List Fr) (hl : l.length ≤ 1000000) (A : Option Addr) (c : Nat) (w : World) (hr : Reads w A c l.length (l.flatMap frL)) :
    Calls Tryz.prog 100 #[.slice A l.length c] w fun e w' => ∃ v, e = .returned v ∧ OwnL frL 5 80 w.heap.size w' v l ∧ Below w.heap.size w w' := by
  obtain ⟨i0, hi, hz0, hz1, hz2⟩ := info_parts info_fr
  have HR := Lib.hid hr
  cases A with
  | none =>
    have hl0 : l = [] := by
      rcases Nat.eq_zero_or_pos l.length with h0 | h0
      · exact List.eq_nil_of_length_eq_zero h0
      · obtain ⟨b, off, e, _⟩ := hr h0
        cases e
    subst hl0
    clear hr HR
    have hq : ∀ w, (binOp .eql 31 (.slice none 0 c) (.slice none 0 0)).run Tryz.prog w = .ok (.bool true) w := fun w => Lib.run_eql_slice_nil w 31 80 none 0 c 0 0 Tryz.underlying31
    simp only [List.length_nil]
    go_enter Tryz.func100, Tryz.ntmps100
    go_wp2_with fail
    go_ret
    exact ⟨_, rfl, ownNil _ _ _ _, Below.refl _ _⟩
  | some ad =>
    have HRD := Lib.hid (hr.below (allocB w (.cells #[] 80)))
    have hq : ∀ w, (binOp .eql 31 (.slice (some ad) l.length c) (.slice none 0 0)).run Tryz.prog w = .ok (.bool false) w := fun w => Lib.run_eql_slice_nil w 31 80 (some ad) l.length c 0 0 Tryz.underlying31
    clear hr
    go_enter Tryz.func100, Tryz.ntmps100
    go_wp2_with (at_builtin; refine listWants (by kernel_rfl) fun K hK => wp_appR (w.alloc (.cells #[] 80)) (.tmp 5) (.tmp 6) 31 80 i0 (.agg #[.int .i64 0, .string ⟨#[]⟩, .int .i64 0, .bool false, .int .i64 0]) 5 48 Tryz.underlying31 hi hz0 hz1 hz2 rfl (by omega) rfl w.heap.size _ 0 [] rfl (ownEmpty w 80 5) (some ad) l.length c (l.flatMap frL) rfl HRD.out (by rw [flat_len frL_len]) (frL_all l) (by omega) (by omega) (by simp) ?_; intro v2 w2 ho hg hb; refine hK _ _ ?_)
    go_ret
    rw [List.nil_append, Nat.zero_add] at ho
    exact ⟨_, rfl, ho, (allocB w (.cells #[] 80)).trans hb⟩
end Go.Proofs.YtmebkghdkeeobaaGreatDoor
