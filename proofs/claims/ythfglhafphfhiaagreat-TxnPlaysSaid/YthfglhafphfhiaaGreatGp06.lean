/- The plain law of the log: what is appended, forced, cut off by the power, opened again and read. -/
import Derived.Test.YthfglhafphfhiaaGreatGp01
import Derived.Test.YthfglhafphfhiaaGreatGp03
import Derived.Test.YthfglhafphfhiaaGreatGp02
import Derived.Lib.SliceRun
import Derived.Deep.RegionLaw
namespace Lg
open Rc
/-- The bytes of a log's sectors. -/
def logS (F N : Nat) (d : Dk) : List UInt8 := flat ((d.sectors.drop F).take N)
theorem logS_len {F N : Nat} {d : Dk} (hw : Whole d.sectors) (hr : F + N ≤ d.sectors.length) : (logS F N d).length = N * 128 := by
  unfold logS
  rw [flat_len ((hw.drop F).take N), List.length_take, List.length_drop]
  congr 1; omega
theorem set_part {L : List ByteArray} {F N j : Nat} {b : ByteArray} (hj : j < N) : ((L.set (F + j) b).drop F).take N = ((L.drop F).take N).set j b := by
  refine List.ext_getElem? fun i => ?_
  simp only [List.getElem?_take, List.getElem?_drop, List.getElem?_set, List.length_take, List.length_drop]
  by_cases h1 : i < N
  · by_cases h2 : i = j
    · subst h2
      simp only [if_pos h1, if_pos]
      by_cases h3 : F + i < L.length
      · rw [if_pos h3, if_pos (by omega)]
      · rw [if_neg h3, if_neg (by omega)]
    · simp only [if_pos h1]
      rw [if_neg (by omega), if_neg (by omega)]
  · rw [if_neg h1]
    rw [if_neg (by omega), if_neg h1]
/-- The sectors of a text, together. -/
theorem flat_cutW (n : Nat) : ∀ l : List UInt8, l.length ≤ n → flat (cutW l) = l ++ List.replicate ((cutW l).length * 128 - l.length) 0 := by
  induction n with
  | zero =>
    intro l hl
    rw [List.eq_nil_of_length_eq_zero (l := l) (by omega), cutW_nil]; rfl
  | succ n ih =>
    intro l hl
    by_cases h : l = []
    · rw [h, cutW_nil]; rfl
    · have h0 : 0 < l.length := by cases l with
        | nil => contradiction
        | cons a l => simp
      have hd : (pad128 (l.take 128)).data.toList = l.take 128 ++ List.replicate (128 - (l.take 128).length) 0 := by unfold pad128; rfl
      rw [cutW_cons h, flat_cons, hd, ih _ (by rw [List.length_drop]; omega), List.length_cons]
      have hcl := cutW_length _ (l.drop 128) (Nat.le_refl _)
      by_cases hs : l.length ≤ 128
      · have e1 : l.drop 128 = [] := List.drop_eq_nil_of_le hs
        rw [e1, cutW_nil, List.take_of_length_le hs]
        simp
      · have e1 : (l.take 128).length = 128 := by rw [List.length_take]; omega
        rw [e1, Nat.sub_self, List.replicate_zero, List.append_nil, ← List.append_assoc, List.take_append_drop, List.length_drop]
        rw [List.length_drop] at hcl
        have e2 : (cutW (l.drop 128)).length * 128 - (l.length - 128) = ((cutW (l.drop 128)).length + 1) * 128 - l.length := by omega
        rw [e2]
theorem flat_one : flat [zero128] = List.replicate 128 0 := by
  have h : ∀ l : List UInt8, flat [⟨l.toArray⟩] = l := fun l => by unfold flat; simp
  exact h _
theorem piece_of {L : List ByteArray} (h : Whole L) (i : Nat) (hi : i < L.length) : (L[i]?.getD ⟨#[]⟩).data.toList = ((flat L).drop (i * 128)).take 128 ∧ (L[i]?.getD ⟨#[]⟩).size = 128 := by
  rw [List.getElem?_eq_getElem hi, Option.getD_some]
  refine ⟨?_, h _ (List.getElem_mem hi)⟩
  rw [← flat_drop h, List.drop_eq_getElem_cons hi, flat_cons, List.take_left' (by have := h _ (List.getElem_mem hi); simpa using this)]
/-- The log as calls leave it: r1 is safe, r2 is behind it, in memory. -/
structure LInv (F N : Nat) (d : Dk) (g : Lo) (r1 r2 : List Rec) : Prop where
  whole : Whole d.sectors
  room : F + N ≤ d.sectors.length
  hf : g.from_ = (F : Int)
  hn : g.n = (N : Int)
  row : Row 0 (r1 ++ r2)
  pre : (logS F N d).take (bytes r1).length = bytes r1
  safe : g.safe = ((bytes r1).length : Int)
  end_ : g.end_ = ((bytes (r1 ++ r2)).length : Int)
  tail : g.tail = ⟨((bytes (r1 ++ r2)).drop ((bytes r1).length - (bytes r1).length % 128)).toArray⟩
  fit : (bytes (r1 ++ r2)).length ≤ N * 128
theorem bytes_le (r1 r2 : List Rec) : (bytes (r1 ++ r2)).length = (bytes r1).length + (bytes r2).length := by rw [bytes_append, List.length_append]
theorem bytes_one (r : Rec) : bytes [r] = putR r := by unfold bytes; simp
theorem bytes_nil {l : List Rec} (h : (bytes l).length = 0) : l = [] := by
  cases l with
  | nil => rfl
  | cons r l => rw [bytes_cons, List.length_append, putR_len] at h; omega
theorem LInv.tail_size {F N : Nat} {d : Dk} {g : Lo} {r1 r2 : List Rec} (h : LInv F N d g r1 r2) : (g.tail.size : Int) = g.end_ - (((bytes r1).length / 128 * 128 : Nat) : Int) := by
  have h1 := bytes_le r1 r2
  rw [h.tail, h.end_]
  show ((((bytes (r1 ++ r2)).drop ((bytes r1).length - (bytes r1).length % 128)).toArray.size : Nat) : Int) = _
  rw [List.size_toArray, List.length_drop]
  omega
/-- A log without bytes. -/
theorem LInv.new {F N : Nat} {d : Dk} (hw : Whole d.sectors) (hr : F + N ≤ d.sectors.length) : LInv F N d ⟨F, N, 0, 0, ⟨#[]⟩⟩ [] [] :=
  ⟨hw, hr, rfl, rfl, trivial, rfl, rfl, rfl, rfl, Nat.zero_le _⟩
/-- What Append does to it. -/
theorem LInv.append {F N : Nat} {d : Dk} {g : Lo} {r1 r2 : List Rec} (h : LInv F N d g r1 r2) (r : Rec) :
    (appendD g r = (g, 0, 1)) ∨ (appendD g r = (g, 0, 18)) ∨
    ((appendD g r).2 = (g.end_ + 1, 0) ∧ LInv F N d (appendD g r).1 r1 (r2 ++ [{ r with lsn := g.end_ + 1 }])) := by
  by_cases h1 : Right { r with lsn := g.end_ + 1 }
  · by_cases h2 : g.n * 128 - ((putR { r with lsn := g.end_ + 1 }).length : Int) < g.end_
    · refine .inr (.inl ?_)
      unfold appendD; simp only; rw [if_neg (fun hn => hn h1), if_pos h2]
    · refine .inr (.inr ?_)
      have e : appendD g r = ({ g with end_ := g.end_ + ((putR { r with lsn := g.end_ + 1 }).length : Int), tail := g.tail ++ ⟨(putR { r with lsn := g.end_ + 1 }).toArray⟩ }, g.end_ + 1, 0) := by
        unfold appendD; simp only; rw [if_neg (fun hn => hn h1), if_neg h2]
      rw [e]
      refine ⟨rfl, ?_⟩
      have hb : bytes (r1 ++ (r2 ++ [{ r with lsn := g.end_ + 1 }])) = bytes (r1 ++ r2) ++ putR { r with lsn := g.end_ + 1 } := by
        rw [← List.append_assoc, bytes_append (r1 ++ r2), bytes_one]
      refine ⟨h.whole, h.room, h.hf, h.hn, ?_, h.pre, h.safe, ?_, ?_, ?_⟩
      · rw [← List.append_assoc, row_append]
        refine ⟨h.row, h1, ?_, trivial⟩
        show g.end_ + 1 = _
        rw [h.end_]; simp
      · show g.end_ + _ = _
        rw [hb, List.length_append, h.end_]; omega
      · show g.tail ++ _ = _
        have h3 := bytes_le r1 r2
        rw [hb, h.tail, List.drop_append_of_le_length (by omega)]
        apply ByteArray.ext
        rw [ByteArray.data_append]
        simp
      · rw [hb, List.length_append]
        have h4 := h.hn
        have h5 := h.end_
        omega
  · refine .inl ?_
    unfold appendD; simp only; rw [if_pos h1]
/-! ### Force -/
/-- What all sectors of a Force are together. -/
structure Sects (F N f : Nat) (s n t : List UInt8) (all : List ByteArray) : Prop where
  whole : Whole all
  fits : f + all.length ≤ N
  some_ : 0 < all.length
  flat_ : n = s.take (f * 128) ++ (flat all ++ s.drop ((f + all.length) * 128))
  len : s.length = N * 128
theorem Sects.nlen {F N f : Nat} {s n t : List UInt8} {all : List ByteArray} (h : Sects F N f s n t all) : n.length = N * 128 := by
  have h1 := h.fits
  have h2 := h.len
  rw [h.flat_, List.length_append, List.length_append, flat_len h.whole, List.length_take, List.length_drop]
  omega
theorem Sects.piece {F N f : Nat} {s n t : List UInt8} {all : List ByteArray} (h : Sects F N f s n t all) (i : Nat) (hi : i < all.length) : (all[i]?.getD ⟨#[]⟩).data.toList = (n.drop ((f + i) * 128)).take 128 ∧ (all[i]?.getD ⟨#[]⟩).size = 128 := by
  obtain ⟨h1, h2⟩ := piece_of h.whole i hi
  refine ⟨?_, h2⟩
  have h3 := h.fits
  have h4 := h.len
  have h5 := flat_len h.whole
  rw [h1, h.flat_, show (f + i) * 128 = f * 128 + i * 128 by omega, ← List.drop_drop, List.drop_left' (by rw [List.length_take]; omega), List.drop_append_of_le_length (by omega), List.take_append_of_le_length (by rw [List.length_drop]; omega)]
theorem Sects.start {F N f : Nat} {s n t : List UInt8} {all : List ByteArray} (h : Sects F N f s n t all) : mix s n ((f + all.length) * 128) = s := by
  have h3 := h.fits
  have h4 := h.len
  have h5 := flat_len h.whole
  unfold mix
  rw [h.flat_, ← List.append_assoc, List.drop_left' (by rw [List.length_append, List.length_take]; omega), List.take_append_drop]
theorem Sects.all_ {F N f : Nat} {s n t : List UInt8} {all : List ByteArray} (h : Sects F N f s n t all) : mix s n (f * 128) = n := by
  refine mix_eq (by rw [h.len, h.nlen]) fun i hi => ?_
  have h3 := h.fits
  have h4 := h.len
  rw [h.flat_, List.getElem?_append_left (by rw [List.length_take]; omega), List.getElem?_take, if_pos hi]
/-- All sectors are written, or the power goes. -/
theorem putAll_mix {F N f : Nat} {s n t : List UInt8} {all : List ByteArray} (hS : Sects F N f s n t all) : ∀ (i : Nat), i ≤ all.length → ∀ d : Dk, Whole d.sectors → F + N ≤ d.sectors.length → d.down = false → -1 ≤ d.left → logS F N d = mix s n ((f + i) * 128) →
    ((putAll ((F : Int) + f) all i d).2 = 0 ∧ (putAll ((F : Int) + f) all i d).1.down = false ∧ -1 ≤ (putAll ((F : Int) + f) all i d).1.left ∧ (d.left = -1 → (putAll ((F : Int) + f) all i d).1.left = -1) ∧ logS F N (putAll ((F : Int) + f) all i d).1 = mix s n (f * 128) ∧ Whole (putAll ((F : Int) + f) all i d).1.sectors ∧ (putAll ((F : Int) + f) all i d).1.sectors.length = d.sectors.length) ∨
    ((putAll ((F : Int) + f) all i d).2 = 20 ∧ d.left ≠ -1 ∧ (∃ q, logS F N (putAll ((F : Int) + f) all i d).1 = mix s n q) ∧ Whole (putAll ((F : Int) + f) all i d).1.sectors ∧ (putAll ((F : Int) + f) all i d).1.sectors.length = d.sectors.length) := by
  intro i
  induction i with
  | zero =>
    intro _ d hw hr hd hl hs
    exact .inl ⟨rfl, hd, hl, fun h => h, by unfold putAll; exact hs, hw, rfl⟩
  | succ i ih =>
    intro hi d hw hr hd hl hs
    obtain ⟨hp1, hp2⟩ := hS.piece i (by omega)
    have hfit := hS.fits
    have hhas : hasD d ((F : Int) + f + (i : Int)) := ⟨by omega, by omega⟩
    by_cases h0 : d.left = 0
    · have e : writeD d ((F : Int) + f + (i : Int)) (all[i]?.getD ⟨#[]⟩) = ({ d with down := true }, 20) := by
        unfold writeD
        rw [hd, if_neg (by simp), if_neg (fun hn => hn ⟨hhas, hp2⟩), if_pos h0]
      have e2 : putAll ((F : Int) + f) all (i + 1) d = ({ d with down := true }, 20) := by
        unfold putAll
        rw [e, if_neg (show ¬ (20 : Int) = 0 by decide)]
      rw [e2]
      exact .inr ⟨rfl, by omega, ⟨_, hs⟩, hw, rfl⟩
    · obtain ⟨d2, hd2⟩ : ∃ d2 : Dk, d2 = { d with sectors := d.sectors.set ((F : Int) + f + (i : Int)).toNat (all[i]?.getD ⟨#[]⟩), left := if 0 < d.left then d.left - 1 else d.left } := ⟨_, rfl⟩
      have e : writeD d ((F : Int) + f + (i : Int)) (all[i]?.getD ⟨#[]⟩) = (d2, 0) := by
        unfold writeD
        rw [hd, if_neg (by simp), if_neg (fun hn => hn ⟨hhas, hp2⟩), if_neg h0, hd2, ← hd]
      have e2 : putAll ((F : Int) + f) all (i + 1) d = putAll ((F : Int) + f) all i d2 := by
        conv => lhs; unfold putAll
        rw [e, if_pos rfl]
      rw [e2]
      have hidx : ((F : Int) + f + (i : Int)).toNat = F + (f + i) := by omega
      have hsec : d2.sectors = d.sectors.set (F + (f + i)) (all[i]?.getD ⟨#[]⟩) := by rw [hd2, ← hidx]
      have hleft : d2.left = if 0 < d.left then d.left - 1 else d.left := by rw [hd2]
      have hlen : d2.sectors.length = d.sectors.length := by rw [hsec, List.length_set]
      have hlog : logS F N d2 = mix s n ((f + i) * 128) := by
        unfold logS
        rw [hsec, set_part (by omega)]
        refine mix_step ((hw.drop F).take N) hp2 (by rw [List.length_take, List.length_drop]; omega) (by rw [hS.len, hS.nlen]) ?_ hp1
        have : (f + i + 1) * 128 = (f + (i + 1)) * 128 := by omega
        rw [this]; exact hs
      have hw2 : Whole d2.sectors := by rw [hsec]; exact hw.set _ hp2
      have h6 := ih (by omega) d2 hw2 (by omega) (by rw [hd2]; exact hd) (by rw [hleft]; split <;> omega) hlog
      have hm1 : d.left = -1 → d2.left = -1 := fun hx => by rw [hleft, if_neg (by omega)]; exact hx
      rcases h6 with ⟨a1, a2, a3, a4, a5, a6, a7⟩ | ⟨a1, a2, a3, a4, a5⟩
      · exact .inl ⟨a1, a2, a3, fun hx => a4 (hm1 hx), a5, a6, by omega⟩
      · exact .inr ⟨a1, fun hx => a2 (hm1 hx), a3, a4, by omega⟩
theorem LInv.firstS {F N : Nat} {d : Dk} {g : Lo} {r1 r2 : List Rec} (h : LInv F N d g r1 r2) : firstS g = (((bytes r1).length / 128 : Nat) : Int) := by
  unfold Lg.firstS
  have := h.tail_size
  rw [this]
  omega
/-- What Force is about to write. -/
theorem LInv.sects {F N : Nat} {d : Dk} {g : Lo} {r1 r2 : List Rec} (h : LInv F N d g r1 r2) (h2 : r2 ≠ []) :
    ∃ n, Sects F N ((bytes r1).length / 128) (logS F N d) n [] (allS g) ∧ Lies n (r1 ++ r2) := by
  obtain ⟨X, hX⟩ : ∃ X, X = (bytes r1).length := ⟨_, rfl⟩
  obtain ⟨Y, hY⟩ : ∃ Y, Y = (bytes (r1 ++ r2)).length := ⟨_, rfl⟩
  have hXY := bytes_le r1 r2
  have hpos : 0 < (bytes r2).length := Nat.pos_of_ne_zero fun hz => h2 (bytes_nil hz)
  have hfit := h.fit
  have hsl := logS_len (N := N) h.whole h.room
  have htl : g.tail.data.toList = (bytes (r1 ++ r2)).drop (X - X % 128) := by rw [h.tail, hX]
  have hts : g.tail.size = Y - (X - X % 128) := by
    have : g.tail.data.toList.length = g.tail.size := by simp
    rw [← this, htl, List.length_drop, hY]
  have hcl := cutB_length g.tail
  have hcf : flat (cutB g.tail) = (bytes (r1 ++ r2)).drop (X - X % 128) ++ List.replicate ((cutB g.tail).length * 128 - g.tail.size) 0 := by
    unfold cutB
    rw [flat_cutW _ _ (Nat.le_refl _), htl, List.length_drop, ← htl, hts, ← hY]
  obtain ⟨z, hz, hzl, hzb⟩ : ∃ z, flat (allS g) = (bytes (r1 ++ r2)).drop (X - X % 128) ++ List.replicate z 0 ∧ (X / 128 + (allS g).length ≤ N) ∧ (128 ≤ z ∨ Y + z = N * 128) := by
    unfold allS
    rw [h.firstS, h.hn, ← hX]
    by_cases hc : (((X / 128 : Nat) : Int) + ((cutB g.tail).length : Int)) < (N : Int)
    · rw [if_pos hc]
      refine ⟨(cutB g.tail).length * 128 - g.tail.size + 128, ?_, ?_, .inl (by omega)⟩
      · rw [flat_append, hcf, flat_one, List.append_assoc, List.replicate_append_replicate]
      · rw [List.length_append]; simp; omega
    · rw [if_neg hc]
      refine ⟨(cutB g.tail).length * 128 - g.tail.size, hcf, ?_, .inr ?_⟩
      · omega
      · omega
  have hwa : Whole (allS g) := by
    unfold allS
    split
    · intro b hb
      rcases List.mem_append.1 hb with h3 | h3
      · exact cutB_size _ b h3
      · rw [List.mem_singleton.1 h3]; exact zero128_size
    · exact cutB_size _
  have hal : 0 < (allS g).length := by
    have : (cutB g.tail).length ≤ (allS g).length := by unfold allS; split <;> simp
    omega
  have hfl := flat_len hwa
  rw [hz, List.length_append, List.length_drop, List.length_replicate, ← hY] at hfl
  obtain ⟨n, hn⟩ : ∃ n, n = (logS F N d).take (X / 128 * 128) ++ (flat (allS g) ++ (logS F N d).drop ((X / 128 + (allS g).length) * 128)) := ⟨_, rfl⟩
  have hS : Sects F N (X / 128) (logS F N d) n [] (allS g) := ⟨hwa, hzl, hal, hn, hsl⟩
  have hall : n = bytes (r1 ++ r2) ++ (List.replicate z 0 ++ (logS F N d).drop ((X / 128 + (allS g).length) * 128)) := by
    have e1 : (logS F N d).take (X / 128 * 128) = (bytes (r1 ++ r2)).take (X / 128 * 128) := by
      have h3 := congrArg (List.take (X / 128 * 128)) h.pre
      rw [List.take_take, Nat.min_eq_left (by omega)] at h3
      rw [h3, bytes_append, List.take_append_of_le_length (by omega)]
    rw [hn, hz, e1, show X - X % 128 = X / 128 * 128 by omega, List.append_assoc, ← List.append_assoc, List.take_append_drop]
  refine ⟨n, by rw [← hX]; exact hS, h.row, ?_, ?_, ?_⟩
  · rw [hall, List.take_left' rfl]
  · rw [hS.nlen]; exact hfit
  · intro i h3 h4 h5
    rw [hS.nlen] at h5
    rw [hall, List.getElem?_append_right h3, List.getElem?_append_left (by rw [List.length_replicate]; omega), List.getElem?_replicate, if_pos (by omega)]
/-- What Force does to it. -/
theorem LInv.force {F N : Nat} {d : Dk} {g : Lo} {r1 r2 : List Rec} (h : LInv F N d g r1 r2) (hd : d.down = false) (hl : -1 ≤ d.left) :
    ((forceD d g).2.2 = 0 ∧ LInv F N (forceD d g).1 (forceD d g).2.1 (r1 ++ r2) [] ∧ (forceD d g).1.down = false ∧ -1 ≤ (forceD d g).1.left ∧ (d.left = -1 → (forceD d g).1.left = -1) ∧ (forceD d g).1.sectors.length = d.sectors.length ∧ (forceD d g).2.1.safe = (forceD d g).2.1.end_ ∧ (Lies (logS F N d) r1 ∨ r2 ≠ [] → Lies (logS F N (forceD d g).1) (r1 ++ r2))) ∨
    ((forceD d g).2.2 = 20 ∧ r2 ≠ [] ∧ (forceD d g).2.1 = g ∧ d.left ≠ -1 ∧ Whole (forceD d g).1.sectors ∧ (forceD d g).1.sectors.length = d.sectors.length ∧ ∃ n q, Lies n (r1 ++ r2) ∧ n.length = N * 128 ∧ logS F N (forceD d g).1 = mix (logS F N d) n q) := by
  by_cases h2 : r2 = []
  · subst h2
    have hse : g.safe = g.end_ := by rw [h.safe, h.end_, List.append_nil]
    have e : forceD d g = (d, g, 0) := by unfold forceD; rw [if_pos hse]
    rw [e]
    refine .inl ⟨rfl, ?_, hd, hl, fun hx => hx, rfl, hse, fun hx => ?_⟩
    · have h3 := h
      rw [← List.append_nil r1] at h3
      simpa using h3
    · rcases hx with hx | hx
      · simpa using hx
      · exact absurd rfl hx
  · have hse : ¬ g.safe = g.end_ := by
      have hpos : 0 < (bytes r2).length := Nat.pos_of_ne_zero fun hz => h2 (bytes_nil hz)
      have hXY := bytes_le r1 r2
      rw [h.safe, h.end_]; omega
    obtain ⟨n, hS, hL⟩ := h.sects h2
    have hbase : g.from_ + Lg.firstS g = (F : Int) + (((bytes r1).length / 128 : Nat) : Int) := by rw [h.hf, h.firstS]
    have hp := putAll_mix hS (allS g).length (Nat.le_refl _) d h.whole h.room hd hl hS.start.symm
    rw [← hbase] at hp
    rcases hp with ⟨a1, a2, a3, a4, a5, a6, a7⟩ | ⟨a1, a2, a3, a4, a5⟩
    · have e : forceD d g = ((putAll (g.from_ + Lg.firstS g) (allS g) (allS g).length d).1, forcedL g, 0) := by
        unfold forceD
        rw [if_neg hse]
        simp only
        rw [if_pos a1]
      rw [e]
      refine .inl ⟨rfl, ?_, a2, a3, a4, a7, rfl, fun _ => by show Lies (logS F N _) _; rw [a5, hS.all_]; exact hL⟩
      have hlog : logS F N (putAll (g.from_ + Lg.firstS g) (allS g) (allS g).length d).1 = n := by rw [a5, hS.all_]
      have hts := h.tail_size
      have hend := h.end_
      refine ⟨a6, by rw [a7]; exact h.room, h.hf, h.hn, by rw [List.append_nil]; exact h.row, ?_, ?_, ?_, ?_, by rw [List.append_nil]; exact h.fit⟩
      · show (logS F N (putAll (g.from_ + Lg.firstS g) (allS g) (allS g).length d).1).take _ = _
        rw [hlog]; exact hL.pre
      · show g.end_ = _
        exact hend
      · show g.end_ = _
        rw [List.append_nil]; exact hend
      · show g.tail.extract (g.tail.size - (g.end_ % 128).toNat) g.tail.size = _
        have hXY := bytes_le r1 r2
        have hts2 : g.tail.size = (bytes (r1 ++ r2)).length - (bytes r1).length / 128 * 128 := by omega
        rw [List.append_nil, hend]
        apply ByteArray.ext
        rw [ByteArray.data_extract, h.tail]
        apply Array.toList_inj.1
        rw [Array.toList_extract]
        simp only [List.extract_eq_drop_take']
        rw [← h.tail, hts2]
        have e1 : (((((bytes (r1 ++ r2)).length : Nat) : Int) % 128).toNat) = (bytes (r1 ++ r2)).length % 128 := by omega
        rw [e1]
        rw [List.drop_take, List.drop_drop, List.take_of_length_le (by rw [List.length_drop]; omega)]
        congr 1; omega
    · have e : forceD d g = ((putAll (g.from_ + Lg.firstS g) (allS g) (allS g).length d).1, g, 20) := by
        unfold forceD
        rw [if_neg hse]
        simp only
        rw [if_neg (show ¬ _ by rw [a1]; decide), a1]
      rw [e]
      obtain ⟨q, hq⟩ := a3
      exact .inr ⟨rfl, h2, rfl, a2, a4, a5, n, q, hL, hS.nlen, hq⟩
end Lg
/- The plain law of the log: what is opened and read. -/
namespace Lg
open Rc
theorem secs_ok {d : Dk} (hd : d.down = false) : ∀ (k a : Nat), a + k ≤ d.sectors.length → secsD d (a : Int) k = .ok (flat ((d.sectors.drop a).take k)) := by
  intro k
  induction k with
  | zero => intro a _; unfold secsD; rw [List.take_zero]; rfl
  | succ k ih =>
    intro a ha
    have h1 : readD d (a : Int) = (d.sectors[a]'(by omega), 0) := by
      unfold readD
      rw [hd, if_neg (by simp), if_pos (show hasD d (a : Int) from ⟨by omega, by omega⟩)]
      unfold secAt
      rw [Int.toNat_natCast, List.getElem?_eq_getElem (by omega), Option.getD_some]
    have h2 := ih (a + 1) (by omega)
    unfold secsD
    rw [h1, if_pos rfl, show ((a : Int) + 1) = ((a + 1 : Nat) : Int) by omega, h2, List.drop_eq_getElem_cons (l := d.sectors) (i := a) (by omega), List.take_succ_cons, flat_cons]
theorem part_part (L : List ByteArray) (F N a k : Nat) (h : a + k ≤ N) : (L.drop (F + a)).take k = (((L.drop F).take N).drop a).take k := by
  refine List.ext_getElem? fun i => ?_
  simp only [List.getElem?_take, List.getElem?_drop]
  by_cases h1 : i < k
  · rw [if_pos h1, if_pos h1, if_pos (by omega)]
    congr 1; omega
  · rw [if_neg h1, if_neg h1]
/-- What Open finds is a row, whatever the bytes are. -/
theorem openL_is (s : List UInt8) : ∀ (f a : Nat), a ≤ s.length → Row a (openL s f a).1 ∧ (openL s f a).2 = a + (bytes (openL s f a).1).length ∧ (openL s f a).2 ≤ s.length ∧ s.take (openL s f a).2 = s.take a ++ bytes (openL s f a).1 := by
  intro f
  induction f with
  | zero => intro a ha; unfold openL; exact ⟨trivial, rfl, ha, by simp [bytes]⟩
  | succ f ih =>
    intro a ha
    have hnone : Row a [] ∧ a = a + (bytes []).length ∧ a ≤ s.length ∧ s.take a = s.take a ++ bytes [] := ⟨trivial, rfl, ha, by simp [bytes]⟩
    by_cases hI : Is s a
    · have hg := getO_yes hI
      by_cases hn : (readM true (bodyAt s a)).lsn = (a : Int) + 1
      · have e : openL s (f + 1) a = (readM true (bodyAt s a) :: (openL s f (a + 8 + Oct.getN s a 4)).1, (openL s f (a + 8 + Oct.getN s a 4)).2) := by
          conv => lhs; unfold openL
          rw [hg]; simp only; rw [if_pos hn]
        have hlen : (putR (readM true (bodyAt s a))).length = 8 + Oct.getN s a 4 := by
          rw [putR_len, hI.2.2.2]
          unfold bodyAt
          rw [List.length_take, List.length_drop]
          have := hI.1
          omega
        obtain ⟨h1, h2, h3, h4⟩ := ih (a + 8 + Oct.getN s a 4) hI.1
        rw [e]
        have hb := is_bytes hI
        refine ⟨⟨hI.2.2.1, hn, by rw [hlen, ← Nat.add_assoc]; exact h1⟩, ?_, h3, ?_⟩
        · rw [bytes_cons, List.length_append, hlen, h2]; omega
        · rw [bytes_cons, h4, ← List.append_assoc]
          congr 1
          have h5 := congrArg (List.take (a + 8 + Oct.getN s a 4)) hb
          rw [← List.append_assoc, List.take_left' (by rw [List.length_append, List.length_take, hlen]; omega)] at h5
          exact h5
      · have e : openL s (f + 1) a = ([], a) := by
          conv => lhs; unfold openL
          rw [hg]; simp only; rw [if_neg hn]
        rw [e]; exact hnone
    · have e : openL s (f + 1) a = ([], a) := by
        conv => lhs; unfold openL
        rw [getO_no hI]
      rw [e]; exact hnone
/-- Any log that is opened is one that calls leave. -/
theorem LInv.opened {F N : Nat} {d : Dk} (hd : d.down = false) (hw : Whole d.sectors) (hr : F + N ≤ d.sectors.length) :
    (openD d F N).2 = ((openL (logS F N d) (N * 128 + 1) 0).1, 0) ∧ LInv F N d (openD d F N).1 (openL (logS F N d) (N * 128 + 1) 0).1 [] := by
  have hl := logS_len (N := N) hw hr
  have hs : secsD d (F : Int) (N : Int).toNat = .ok (logS F N d) := by rw [Int.toNat_natCast]; exact secs_ok hd N F hr
  obtain ⟨h1, h2, h3, h4⟩ := openL_is (logS F N d) (N * 128 + 1) 0 (Nat.zero_le _)
  have e : openD d F N = (⟨F, N, ((openL (logS F N d) (N * 128 + 1) 0).2 : Int), ((openL (logS F N d) (N * 128 + 1) 0).2 : Int), ⟨(((logS F N d).take (openL (logS F N d) (N * 128 + 1) 0).2).drop ((openL (logS F N d) (N * 128 + 1) 0).2 - (openL (logS F N d) (N * 128 + 1) 0).2 % 128)).toArray⟩⟩, (openL (logS F N d) (N * 128 + 1) 0).1, 0) := by
    unfold openD
    rw [hs]
    simp only
    rw [hl]
  rw [e]
  rw [Nat.zero_add] at h2
  rw [List.take_zero, List.nil_append] at h4
  refine ⟨rfl, hw, hr, rfl, rfl, by rw [List.append_nil]; exact h1, by rw [← h2]; exact h4, by rw [h2], by rw [List.append_nil, h2], ?_, by rw [List.append_nil]; omega⟩
  rw [List.append_nil, ← h2, h4]
/-- Logs that are left alike are the same. -/
theorem LInv.same {F N : Nat} {d d' : Dk} {g g' : Lo} {r1 r2 : List Rec} (h : LInv F N d g r1 r2) (h' : LInv F N d' g' r1 r2) : g = g' := by
  obtain ⟨a1, a2, a3, a4, a5⟩ := g
  obtain ⟨b1, b2, b3, b4, b5⟩ := g'
  have e1 := h.hf.trans h'.hf.symm
  have e2 := h.hn.trans h'.hn.symm
  have e3 := h.end_.trans h'.end_.symm
  have e4 := h.safe.trans h'.safe.symm
  have e5 := h.tail.trans h'.tail.symm
  simp only at e1 e2 e3 e4 e5
  subst e1 e2 e3 e4 e5
  rfl
theorem LInv.disk {F N : Nat} {d d' : Dk} {g : Lo} {r1 r2 : List Rec} (h : LInv F N d g r1 r2) (he : d'.sectors = d.sectors) : LInv F N d' g r1 r2 :=
  ⟨by rw [he]; exact h.whole, by rw [he]; exact h.room, h.hf, h.hn, h.row, by unfold logS; rw [he]; exact h.pre, h.safe, h.end_, h.tail, h.fit⟩
/-- Each record of the log is read. -/
theorem LInv.read {F N : Nat} {d : Dk} {g : Lo} {r1 r2 : List Rec} (h : LInv F N d g r1 r2) (hd : d.down = false) (x y : List Rec) (r : Rec) (hxy : r1 ++ r2 = x ++ r :: y) :
    r.lsn = ((bytes x).length : Int) + 1 ∧ readL d g (((bytes x).length : Int) + 1) = .ok r := by
  have hrow := h.row
  rw [hxy, row_append] at hrow
  obtain ⟨_, hR, hlsn, _⟩ := hrow
  rw [Nat.zero_add] at hlsn
  refine ⟨hlsn, ?_⟩
  obtain ⟨X, hX⟩ : ∃ X, X = (bytes r1).length := ⟨_, rfl⟩
  obtain ⟨A, hA⟩ : ∃ A, A = (bytes x).length := ⟨_, rfl⟩
  obtain ⟨all, hall⟩ : ∃ all, all = bytes (r1 ++ r2) := ⟨_, rfl⟩
  have hb : all = bytes x ++ (putR r ++ bytes y) := by rw [hall, hxy, bytes_append, bytes_cons]
  have hlen : all.length = A + ((putR r).length + (bytes y).length) := by rw [hb, List.length_append, List.length_append, hA]
  have hpl := putR_len r
  have hle := bytes_le r1 r2
  have hend := h.end_
  have hts := h.tail_size
  have hfit := h.fit
  have hbase : (g.end_ - (g.tail.size : Int)) / 128 = ((X / 128 : Nat) : Int) := by rw [hts, hX]; omega
  rw [← hall] at hend hle hfit
  rw [← hX] at hle
  unfold readL
  rw [if_neg (by omega)]
  simp only
  rw [hbase]
  obtain ⟨a, ha⟩ : ∃ a : Nat, a = min (A / 128) (X / 128) := ⟨_, rfl⟩
  have hmin : min ((((bytes x).length : Int) + 1 - 1) / 128) ((X / 128 : Nat) : Int) = (a : Int) := by rw [← hA]; omega
  rw [hmin]
  have h1 : g.from_ + (a : Int) = ((F + a : Nat) : Int) := by rw [h.hf]; omega
  have h2 : (((X / 128 : Nat) : Int) - (a : Int)).toNat = X / 128 - a := by omega
  have hX128 : X / 128 * 128 ≤ X := by omega
  have hroom := h.room
  rw [h1, h2, secs_ok hd _ _ (by omega), part_part _ F N a _ (by omega)]
  have hpart : flat ((((d.sectors.drop F).take N).drop a).take (X / 128 - a)) = (all.take (X / 128 * 128)).drop (a * 128) := by
    rw [flat_take (((h.whole.drop F).take N).drop a), flat_drop ((h.whole.drop F).take N)]
    show ((logS F N d).drop (a * 128)).take ((X / 128 - a) * 128) = _
    have e1 : all.take (X / 128 * 128) = (logS F N d).take (X / 128 * 128) := by
      have h3 := congrArg (List.take (X / 128 * 128)) h.pre
      rw [List.take_take, Nat.min_eq_left (by omega)] at h3
      rw [h3, hall, bytes_append, List.take_append_of_le_length (by omega)]
    rw [e1, List.drop_take]
    congr 1
    omega
  have htl : g.tail.data.toList = all.drop (X / 128 * 128) := by
    rw [h.tail, ← hall, ← hX, show X - X % 128 = X / 128 * 128 by omega]
  rw [hpart, htl]
  have hjoin : (all.take (X / 128 * 128)).drop (a * 128) ++ all.drop (X / 128 * 128) = all.drop (a * 128) := by
    conv => rhs; rw [← List.take_append_drop (X / 128 * 128) all]
    rw [List.drop_append_of_le_length (by rw [List.length_take]; omega)]
  simp only
  rw [hjoin, getO_drop _ _ _ (by omega)]
  have hpos : a * 128 + (((bytes x).length : Int) + 1 - 1 - (a : Int) * 128).toNat = (bytes x).length := by omega
  rw [hpos, hb, getO_put _ _ hR]
  simp only [Option.map_some]
  rw [if_pos hlsn]
end Lg
/- The plain law of transactions: the list, and what is done with a store. -/
namespace Tx
open Rc Lg
/-- Has a record something to say? -/
def noted (r : Rec) : Prop := 1 ≤ r.txn ∧ 1 ≤ r.kind ∧ r.kind ≤ 7
instance (r : Rec) : Decidable (noted r) := by unfold noted; exact inferInstance
def tuneT (r : Rec) (t : TxnAt) : TxnAt := ⟨t.txn, r.lsn, if r.kind = 1 ∨ r.kind = 2 then r.lsn else if r.kind = 3 ∨ r.kind = 4 then r.next else t.next, if r.kind = 5 then true else t.done⟩
/-- Where a transaction stands. -/
def placeT : List TxnAt → Int → Option Nat
  | [], _ => none
  | t :: l, n => if t.txn = n then some 0 else (placeT l n).map (· + 1)
theorem placeT_some {l : List TxnAt} {n : Int} {i : Nat} (h : placeT l n = some i) : ∃ hi : i < l.length, l[i].txn = n ∧ ∀ j (hj : j < i), l[j].txn ≠ n := by
  induction l generalizing i with
  | nil => cases h
  | cons t l ih =>
    unfold placeT at h
    split at h
    · rename_i ht
      injection h with h; subst h
      exact ⟨by simp, ht, fun j hj => absurd hj (by omega)⟩
    · rename_i ht
      cases hp : placeT l n with
      | none => rw [hp] at h; cases h
      | some k =>
        rw [hp] at h
        injection h with h
        have h4 : i = k + 1 := h.symm
        subst h4
        obtain ⟨h1, h2, h3⟩ := ih hp
        refine ⟨by simpa using h1, by simpa using h2, fun j hj => ?_⟩
        cases j with
        | zero => simpa using ht
        | succ j => simpa using h3 j (by omega)
theorem placeT_none {l : List TxnAt} {n : Int} (h : placeT l n = none) : ∀ t ∈ l, t.txn ≠ n := by
  induction l with
  | nil => intro t ht; cases ht
  | cons t l ih =>
    unfold placeT at h
    split at h
    · cases h
    · rename_i ht
      cases hp : placeT l n with
      | some k => rw [hp] at h; cases h
      | none =>
        intro u hu
        rcases List.mem_cons.1 hu with e | e
        · rw [e]; exact ht
        · exact ih hp u e
theorem placeT_at {l : List TxnAt} {n : Int} {i : Nat} (hi : i < l.length) (h : l[i].txn = n) (h0 : ∀ j (hj : j < i), l[j].txn ≠ n) : placeT l n = some i := by
  cases hp : placeT l n with
  | none => exact absurd h (placeT_none hp _ (List.getElem_mem hi))
  | some k =>
    obtain ⟨h1, h2, h3⟩ := placeT_some hp
    rcases Nat.lt_trichotomy k i with h4 | h4 | h4
    · exact absurd h2 (h0 k h4)
    · rw [h4]
    · exact absurd h (h3 i h4)
theorem placeT_no {l : List TxnAt} {n : Int} (h : ∀ t ∈ l, t.txn ≠ n) : placeT l n = none := by
  cases hp : placeT l n with
  | none => rfl
  | some k => obtain ⟨h1, h2, _⟩ := placeT_some hp; exact absurd h2 (h _ (List.getElem_mem h1))
/-- What a record does to a list. -/
def noteT (l : List TxnAt) (r : Rec) : List TxnAt :=
  if ¬ noted r then l else
  match placeT l r.txn with
  | none => if r.kind = 7 then l else l ++ [tuneT r ⟨r.txn, 0, 0, false⟩]
  | some i => if r.kind = 7 then l.take i ++ l.drop (i + 1) else l.take i ++ tuneT r (l[i]?.getD ⟨0, 0, 0, false⟩) :: l.drop (i + 1)
theorem noteT_len (l : List TxnAt) (r : Rec) : (noteT l r).length ≤ l.length + 1 := by
  unfold noteT
  split
  · omega
  · cases hp : placeT l r.txn with
    | none => simp only; split <;> simp
    | some i =>
      obtain ⟨hi, _⟩ := placeT_some hp
      simp only
      split
      · rw [List.length_append, List.length_take, List.length_drop]; omega
      · rw [List.length_append, List.length_take, List.length_cons, List.length_drop]; omega
/-! ### Stores -/
structure St where
  zlog : Int
  zpages : Int
  zframes : Int
  disk : Dk
  log : Lo
  hand : Int
  txns : List TxnAt
  next : Int
def findS (s : St) (n : Int) : TxnAt × Bool := match placeT s.txns n with
  | none => (⟨0, 0, 0, false⟩, false)
  | some i => (s.txns[i]?.getD ⟨0, 0, 0, false⟩, true)
def markS (s : St) (n : Int) : Int := (findS s n).1.last
/-- A record is appended, and noted. -/
noncomputable def putS (s : St) (r : Rec) : St × Int :=
  if (appendD s.log r).2.2 = 0 then ({ s with log := (appendD s.log r).1, txns := noteT s.txns { r with lsn := (appendD s.log r).2.1 } }, 0) else (s, (appendD s.log r).2.2)
noncomputable def beginS (s : St) : St × Int × Int :=
  if (putS s (bare 1 0 0 s.next)).2 = 0 then ({ (putS s (bare 1 0 0 s.next)).1 with next := s.next + 1 }, s.next, 0) else (s, 0, (putS s (bare 1 0 0 s.next)).2)
/-- A transaction's record; while it is open, if that is asked. -/
noncomputable def ownS (s : St) (n : Int) (opn : Bool) (r : Rec) : St × Int :=
  if (findS s n).2 = false then (s, 21) else if opn = true ∧ (findS s n).1.done = true then (s, 17) else putS s { r with txn := n, prev := (findS s n).1.last }
def nestR (m : Int) : Rec := ⟨0, 0, 0, 4, 0, m, 0, noOp, 0, 0, noKey, [], []⟩
noncomputable def nestS (s : St) (n m : Int) : St × Int := ownS s n true (nestR m)
noncomputable def abortS (s : St) (n : Int) : St × Int := ownS s n true (bare 6 0 0 0)
noncomputable def endS (s : St) (n : Int) : St × Int := ownS s n false (bare 7 0 0 0)
noncomputable def forceS (s : St) : St × Int := ({ s with disk := (forceD s.disk s.log).1, log := (forceD s.disk s.log).2.1 }, (forceD s.disk s.log).2.2)
/-- The end that a commit has behind it. -/
noncomputable def closeS (s : St) (n : Int) : St × Int :=
  if (putS s (bare 7 0 (markS s n) n)).2 = 0 then ((putS s (bare 7 0 (markS s n) n)).1, 0) else ({ s with txns := noteT s.txns (bare 7 0 (markS s n) n) }, 0)
noncomputable def commitS (s : St) (n : Int) : St × Int :=
  if (ownS s n true (bare 5 0 0 0)).2 = 0 then
    if (forceS (ownS s n true (bare 5 0 0 0)).1).2 = 0 then closeS (forceS (ownS s n true (bare 5 0 0 0)).1).1 n else forceS (ownS s n true (bare 5 0 0 0)).1
  else ownS s n true (bare 5 0 0 0)
structure Deed where
  kind : Int
  txn : Int
  n : Int
noncomputable def doS (s : St) (d : Deed) : St × Int × Int :=
  if d.kind = 0 then beginS s
  else if d.kind = 1 then ((nestS s d.txn d.n).1, 0, (nestS s d.txn d.n).2)
  else if d.kind = 2 then ((commitS s d.txn).1, 0, (commitS s d.txn).2)
  else if d.kind = 3 then ((abortS s d.txn).1, 0, (abortS s d.txn).2)
  else if d.kind = 4 then ((endS s d.txn).1, 0, (endS s d.txn).2)
  else if d.kind = 5 then ({ s with disk := armD s.disk d.n }, 0, 0)
  else (s, 0, 0)
def fresh (n : Nat) : St := ⟨n, 0, 0, newD (n + 1), ⟨1, n, 0, 0, ⟨#[]⟩⟩, 0, [], 1⟩
end Tx
/- The plain law of transactions: what deeds leave in the log. -/
namespace Lg
open Rc
theorem manyN (l : List Rec) : l.length * 8 ≤ (bytes l).length := by
  induction l with
  | nil => simp
  | cons r l ih => rw [bytes_cons, List.length_append, putR_len, List.length_cons]; omega
/-- The log of the disk, N sectors from the second one on, is opened as the row l. -/
structure OpensN (N : Nat) (d : Dk) (l : List Rec) : Prop where
  whole : Whole d.sectors
  len : d.sectors.length = N + 1
  opens : (openL (logS 1 N d) (N * 128 + 1) 0).1 = l
theorem opensN_lies {N : Nat} {d : Dk} {l : List Rec} (hw : Whole d.sectors) (hl : d.sectors.length = N + 1) (h : Lies (logS 1 N d) l) : OpensN N d l := by
  refine ⟨hw, hl, ?_⟩
  have h1 := logS_len (F := 1) (N := N) hw (by omega)
  have h2 := h.room
  have h3 := manyN l
  rw [h.opens (f := N * 128 + 1) (by omega)]
theorem opensN_cut {N : Nat} {d : Dk} {s n : List UInt8} {q : Nat} {r1 r2 : List Rec} (hw : Whole d.sectors) (hl : d.sectors.length = N + 1) (hs : Lies s r1) (hn : Lies n (r1 ++ r2)) (h2 : r2 ≠ []) (hsl : s.length = N * 128) (hnl : n.length = N * 128) (hq : logS 1 N d = mix s n q) : OpensN N d r1 ∨ OpensN N d (r1 ++ r2) := by
  have h3 := manyN (r1 ++ r2)
  have h4 := hn.room
  rcases mix_opens (hsl.trans hnl.symm) hs hn h2 q (f := N * 128 + 1) (by omega) with h | h
  · exact .inl ⟨hw, hl, by rw [hq, h]⟩
  · exact .inr (opensN_lies hw hl (by rw [hq, h]; exact hn))
theorem OpensN.start {N : Nat} {d : Dk} {l : List Rec} (h : OpensN N d l) : ∃ o, openD (startD d) 1 N = (o, l, 0) := by
  have hw : Whole (startD d).sectors := h.whole
  have hl : (startD d).sectors.length = N + 1 := h.len
  obtain ⟨h1, _⟩ := LInv.opened (F := 1) (N := N) (d := startD d) rfl hw (by omega)
  have h3 : (openL (logS 1 N (startD d)) (N * 128 + 1) 0).1 = l := h.opens
  rw [h3] at h1
  refine ⟨(openD (startD d) 1 N).1, ?_⟩
  have e : openD (startD d) 1 N = ((openD (startD d) 1 N).1, (openD (startD d) 1 N).2) := rfl
  have h4 : (openD (startD d) 1 N).2 = (l, 0) := h1
  rw [h4] at e
  exact e
theorem OpensN.same {N : Nat} {d e : Dk} {l : List Rec} (h : OpensN N d l) (hs : e.sectors = d.sectors) : OpensN N e l :=
  ⟨by rw [hs]; exact h.whole, by rw [hs]; exact h.len, by unfold logS; rw [hs]; exact h.opens⟩
theorem newD_wholeN (n : Nat) : Whole (newD n).sectors := fun b hb => by
  have : b = zero128 := by
    have h := List.mem_replicate.1 hb
    exact h.2
  rw [this]; exact zero128_size
theorem lies_newN (N : Nat) : Lies (logS 1 N (newD (N + 1))) [] := by
  refine ⟨trivial, rfl, Nat.zero_le _, fun i _ _ hi => ?_⟩
  have h1 : ∀ L : List ByteArray, (∀ b ∈ L, b = zero128) → ∀ i, i < (flat L).length → (flat L)[i]? = some 0 := by
    intro L
    induction L with
    | nil => intro _ i hi; simp [flat] at hi
    | cons b L ih =>
      intro hb i hi
      have h0 : b.data.toList = List.replicate 128 0 := by rw [hb b (List.mem_cons_self ..)]; unfold zero128; rfl
      rw [flat_cons, h0] at hi ⊢
      rw [List.length_append, List.length_replicate] at hi
      by_cases h : i < 128
      · rw [List.getElem?_append_left (by rw [List.length_replicate]; exact h), List.getElem?_replicate, if_pos h]
      · rw [List.getElem?_append_right (by rw [List.length_replicate]; omega), List.length_replicate]
        exact ih (fun x hx => hb x (List.mem_cons_of_mem _ hx)) _ (by omega)
  refine h1 _ (fun b hb => ?_) i hi
  have h2 := List.mem_of_mem_drop (List.mem_of_mem_take hb)
  exact (List.mem_replicate.1 h2).2
theorem LInv.newN (N : Nat) : LInv 1 N (newD (N + 1)) ⟨1, N, 0, 0, ⟨#[]⟩⟩ [] [] :=
  LInv.new (newD_wholeN _) (by show 1 + N ≤ (List.replicate (N + 1) zero128).length; rw [List.length_replicate]; omega)
theorem writeD_20 {d : Dk} {a : Int} {b : ByteArray} (h : (writeD d a b).2 = 20) : (writeD d a b).1.down = true := by
  unfold writeD at h ⊢
  split
  · rename_i h1; exact h1
  · rename_i h1
    rw [if_neg h1] at h
    split
    · rename_i h2; rw [if_pos h2] at h; exact absurd h (by show ¬ (1 : Int) = 20; decide)
    · rename_i h2
      rw [if_neg h2] at h
      split
      · rfl
      · rename_i h3; rw [if_neg h3] at h; exact absurd h (by show ¬ (0 : Int) = 20; decide)
theorem putAll_20 (base : Int) (all : List ByteArray) : ∀ (i : Nat) (d : Dk), (putAll base all i d).2 = 20 → (putAll base all i d).1.down = true := by
  intro i
  induction i with
  | zero => intro d h; exact absurd h (by show ¬ (0 : Int) = 20; decide)
  | succ i ih =>
    intro d h
    unfold putAll at h ⊢
    split
    · rename_i h1; rw [if_pos h1] at h; exact ih _ h
    · rename_i h1; rw [if_neg h1] at h; exact writeD_20 h
theorem force_20 {d : Dk} {g : Lo} (h : (forceD d g).2.2 = 20) : (forceD d g).1.down = true := by
  unfold forceD at h ⊢
  split
  · rename_i h1; rw [if_pos h1] at h; exact absurd h (by show ¬ (0 : Int) = 20; decide)
  · rename_i h1
    rw [if_neg h1] at h
    simp only at h ⊢
    split
    · rename_i h2; rw [if_pos h2] at h; exact absurd h (by show ¬ (0 : Int) = 20; decide)
    · rename_i h2; rw [if_neg h2] at h; exact putAll_20 _ _ _ _ h
/-- Without power nothing is forced. -/
theorem LInv.force_down {F N : Nat} {d0 d : Dk} {g : Lo} {r1 r2 : List Rec} (h : LInv F N d0 g r1 r2) (h2 : r2 ≠ []) (hd : d.down = true) : forceD d g = (d, g, 20) := by
  have hpos : 0 < (bytes r2).length := Nat.pos_of_ne_zero fun hz => h2 (bytes_nil hz)
  have hse : ¬ g.safe = g.end_ := by
    rw [h.safe, h.end_, bytes_le]; omega
  have hts := h.tail_size
  have hend := h.end_
  rw [bytes_le] at hend
  have ht : 0 < g.tail.size := by omega
  have hc := cutB_length g.tail
  have hall : 0 < (allS g).length := by
    unfold allS
    split
    · rw [List.length_append, List.length_singleton]; omega
    · omega
  obtain ⟨m, hm⟩ : ∃ m, (allS g).length = m + 1 := ⟨(allS g).length - 1, by omega⟩
  have hp : putAll (g.from_ + Lg.firstS g) (allS g) (allS g).length d = (d, 20) := by
    rw [hm]
    unfold putAll
    have hwd : ∀ a b, writeD d a b = (d, 20) := fun a b => by unfold writeD; rw [if_pos hd]
    rw [hwd, if_neg (by show ¬ (20 : Int) = 0; decide)]
  unfold forceD
  rw [if_neg hse]
  simp only [hp]
  rw [if_neg (by decide)]
theorem LInv.boundsN {N : Nat} {d : Dk} {g : Lo} {r1 r2 : List Rec} (h : LInv 1 N d g r1 r2) (hN : N ≤ 1000) : 0 ≤ g.end_ ∧ g.end_ ≤ 128000 ∧ (g.tail.size : Int) ≤ g.end_ ∧ g.end_ % 128 ≤ (g.tail.size : Int) ∧ g.from_ = 1 ∧ g.n = (N : Int) ∧ 0 ≤ g.safe ∧ g.safe ≤ g.end_ := by
  have h1 := h.end_
  have h2 := h.tail_size
  have h3 := h.fit
  have h4 := bytes_le r1 r2
  have h5 := h.safe
  exact ⟨by omega, by omega, by omega, by omega, h.hf, h.hn, by omega, by omega⟩
end Lg
namespace Tx
open Rc Lg
/-- The record as the log has it. -/
abbrev atR (s : St) (r : Rec) : Rec := { r with lsn := s.log.end_ + 1 }
theorem putS_cases {F N : Nat} {d : Dk} {s : St} {r1 r2 : List Rec} (h : LInv F N d s.log r1 r2) (r : Rec) :
    (∃ k, k ≠ 0 ∧ putS s r = (s, k)) ∨ ∃ g, putS s r = ({ s with log := g, txns := noteT s.txns (atR s r) }, 0) ∧ LInv F N d g r1 (r2 ++ [atR s r]) := by
  rcases h.append r with h1 | h1 | ⟨h1, h2⟩
  · refine .inl ⟨1, by decide, ?_⟩; unfold putS; rw [h1]; simp only; rw [if_neg (by decide)]
  · refine .inl ⟨18, by decide, ?_⟩; unfold putS; rw [h1]; simp only; rw [if_neg (by decide)]
  · refine .inr ⟨(appendD s.log r).1, ?_, h2⟩
    have e1 : (appendD s.log r).2.1 = s.log.end_ + 1 := by rw [h1]
    have e2 : (appendD s.log r).2.2 = 0 := by rw [h1]
    unfold putS; rw [if_pos e2, e1]
theorem ownS_cases {F N : Nat} {d : Dk} {s : St} {r1 r2 : List Rec} (h : LInv F N d s.log r1 r2) (n : Int) (opn : Bool) (r : Rec) :
    (∃ k, k ≠ 0 ∧ ownS s n opn r = (s, k)) ∨ ∃ g x, x.kind = r.kind ∧ x.txn = n ∧ ownS s n opn r = ({ s with log := g, txns := noteT s.txns x }, 0) ∧ LInv F N d g r1 (r2 ++ [x]) := by
  unfold ownS
  split
  · exact .inl ⟨21, by decide, rfl⟩
  · split
    · exact .inl ⟨17, by decide, rfl⟩
    · rcases putS_cases h { r with txn := n, prev := (findS s n).1.last } with h1 | ⟨g, h1, h2⟩
      · exact .inl h1
      · exact .inr ⟨g, atR s { r with txn := n, prev := (findS s n).1.last }, rfl, rfl, h1, h2⟩
/-! ### The list is what the records make -/
def Good (N : Nat) (s : St) : Prop := ∃ r1 r2, LInv 1 N s.disk s.log r1 r2 ∧ s.disk.down = false ∧ s.disk.left = -1 ∧ s.disk.sectors.length = N + 1 ∧ Lies (logS 1 N s.disk) r1 ∧ (r1 ++ r2).foldl noteT [] = s.txns
theorem good_new (N : Nat) : Good N (fresh N) :=
  ⟨[], [], LInv.newN N, rfl, rfl, by show (List.replicate (N + 1) zero128).length = _; rw [List.length_replicate], lies_newN N, rfl⟩
theorem good_more {N : Nat} {s : St} {r1 r2 : List Rec} {g : Lo} {x : Rec} (h2 : s.disk.down = false) (h3 : s.disk.left = -1) (h4 : s.disk.sectors.length = N + 1) (h5 : Lies (logS 1 N s.disk) r1) (h6 : (r1 ++ r2).foldl noteT [] = s.txns) (hg : LInv 1 N s.disk g r1 (r2 ++ [x])) (n : Int) : Good N { s with log := g, txns := noteT s.txns x, next := n } :=
  ⟨r1, r2 ++ [x], hg, h2, h3, h4, h5, by rw [← List.append_assoc, List.foldl_append, h6]; rfl⟩
theorem good_own {N : Nat} {s : St} (h : Good N s) (n : Int) (opn : Bool) (r : Rec) : Good N (ownS s n opn r).1 := by
  obtain ⟨r1, r2, h1, h2, h3, h4, h5, h6⟩ := h
  rcases ownS_cases h1 n opn r with ⟨k, _, e⟩ | ⟨g, x, _, _, e, hg⟩
  · rw [e]; exact ⟨r1, r2, h1, h2, h3, h4, h5, h6⟩
  · rw [e]; exact good_more h2 h3 h4 h5 h6 hg s.next
theorem good_begin {N : Nat} {s : St} (h : Good N s) : Good N (beginS s).1 := by
  obtain ⟨r1, r2, h1, h2, h3, h4, h5, h6⟩ := h
  unfold beginS
  rcases putS_cases h1 (bare 1 0 0 s.next) with ⟨k, hk, e⟩ | ⟨g, e, hg⟩
  · rw [e]; simp only; rw [if_neg hk]; exact ⟨r1, r2, h1, h2, h3, h4, h5, h6⟩
  · rw [e]; simp only; rw [if_pos trivial]; exact good_more h2 h3 h4 h5 h6 hg (s.next + 1)
theorem good_force {N : Nat} {s : St} (h : Good N s) : (forceS s).2 = 0 ∧ Good N (forceS s).1 ∧ (forceS s).1.log.safe = (forceS s).1.log.end_ := by
  obtain ⟨r1, r2, h1, h2, h3, h4, h5, h6⟩ := h
  rcases h1.force h2 (by omega) with ⟨a1, a2, a3, a4, a5, a6, a7, a8⟩ | ⟨_, _, _, a4, _⟩
  · exact ⟨a1, ⟨r1 ++ r2, [], a2, a3, a5 h3, a6.trans h4, a8 (.inl h5), by rw [List.append_nil]; exact h6⟩, a7⟩
  · exact absurd h3 a4
/-! ### What was answered is there -/
def Has (L : List Rec) (x : Int) : Prop := ∃ r ∈ L, r.kind = 5 ∧ r.txn = x
structure Safe (N : Nat) (s : St) (asked told : List Int) : Prop where
  len : s.disk.sectors.length = N + 1
  whole : Whole s.disk.sectors
  left : -1 ≤ s.disk.left ∧ s.disk.left ≤ 9223372036854775807
  inv : ∃ d0 r1 r2, LInv 1 N d0 s.log r1 r2 ∧ (∀ r ∈ r1 ++ r2, r.kind = 5 → r.txn ∈ asked) ∧
    ((s.disk.down = false ∧ d0 = s.disk ∧ Lies (logS 1 N s.disk) r1 ∧ ∀ x ∈ told, Has r1 x) ∨ (s.disk.down = true ∧ ∃ L, OpensN N s.disk L ∧ (∀ x ∈ told, Has L x) ∧ ∀ r ∈ L, r.kind = 5 → r.txn ∈ asked))
theorem safe_new (N : Nat) : Safe N (fresh N) [] [] :=
  ⟨by show (List.replicate (N + 1) zero128).length = _; rw [List.length_replicate], newD_wholeN _, ⟨Int.le_refl _, by show (-1 : Int) ≤ _; decide⟩, ⟨newD (N + 1), [], [], LInv.newN N, (fun r hr => by cases hr), .inl ⟨rfl, rfl, lies_newN N, (fun x hx => by cases hx)⟩⟩⟩
theorem safe_mono {N : Nat} {s : St} {asked told : List Int} (h : Safe N s asked told) {asked2 : List Int} (ha : ∀ x ∈ asked, x ∈ asked2) : Safe N s asked2 told := by
  obtain ⟨h1, h2, h3, d0, r1, r2, h4, h5, h6⟩ := h
  refine ⟨h1, h2, h3, d0, r1, r2, h4, fun r hr hk => ha _ (h5 r hr hk), ?_⟩
  rcases h6 with h6 | ⟨h6, L, h7, h8, h9⟩
  · exact .inl h6
  · exact .inr ⟨h6, L, h7, h8, fun r hr hk => ha _ (h9 r hr hk)⟩
theorem safe_more {N : Nat} {s : St} {asked told : List Int} {d0 : Dk} {r1 r2 : List Rec} {g : Lo} {x : Rec} (h1 : s.disk.sectors.length = N + 1) (h2 : Whole s.disk.sectors) (h3 : -1 ≤ s.disk.left ∧ s.disk.left ≤ 9223372036854775807) (h5 : ∀ r ∈ r1 ++ r2, r.kind = 5 → r.txn ∈ asked)
    (h6 : (s.disk.down = false ∧ d0 = s.disk ∧ Lies (logS 1 N s.disk) r1 ∧ ∀ x ∈ told, Has r1 x) ∨ (s.disk.down = true ∧ ∃ L, OpensN N s.disk L ∧ (∀ x ∈ told, Has L x) ∧ ∀ r ∈ L, r.kind = 5 → r.txn ∈ asked))
    (hg : LInv 1 N d0 g r1 (r2 ++ [x])) (hx : x.kind = 5 → x.txn ∈ asked) (ts : List TxnAt) (n : Int) : Safe N { s with log := g, txns := ts, next := n } asked told :=
  ⟨h1, h2, h3, d0, r1, r2 ++ [x], hg, fun r hr hk => by
    rw [← List.append_assoc] at hr
    rcases List.mem_append.1 hr with h | h
    · exact h5 r h hk
    · rw [List.mem_singleton.1 h] at hk ⊢; exact hx hk, h6⟩
theorem safe_own {N : Nat} {s : St} {asked told : List Int} (h : Safe N s asked told) (n : Int) (opn : Bool) (r : Rec) (hr : r.kind = 5 → n ∈ asked) : Safe N (ownS s n opn r).1 asked told := by
  obtain ⟨h1, h2, h3, d0, r1, r2, h4, h5, h6⟩ := h
  rcases ownS_cases h4 n opn r with ⟨k, _, e⟩ | ⟨g, x, hx1, hx2, e, hg⟩
  · rw [e]; exact ⟨h1, h2, h3, d0, r1, r2, h4, h5, h6⟩
  · rw [e]; exact safe_more h1 h2 h3 h5 h6 hg (fun hk => by rw [hx2]; exact hr (hx1 ▸ hk)) _ _
theorem safe_begin {N : Nat} {s : St} {asked told : List Int} (h : Safe N s asked told) : Safe N (beginS s).1 asked told := by
  obtain ⟨h1, h2, h3, d0, r1, r2, h4, h5, h6⟩ := h
  unfold beginS
  rcases putS_cases h4 (bare 1 0 0 s.next) with ⟨k, hk, e⟩ | ⟨g, e, hg⟩
  · rw [e]; simp only; rw [if_neg hk]; exact ⟨h1, h2, h3, d0, r1, r2, h4, h5, h6⟩
  · rw [e]; simp only; rw [if_pos trivial]; exact safe_more h1 h2 h3 h5 h6 hg (fun hk => absurd hk (by show ¬ (1 : Int) = 5; decide)) _ _
theorem forceD_leftN {d : Dk} {g : Lo} (h : -1 ≤ d.left ∧ d.left ≤ 9223372036854775807) : -1 ≤ (forceD d g).1.left ∧ (forceD d g).1.left ≤ 9223372036854775807 := by
  have key : ∀ base all i (d : Dk), -1 ≤ d.left ∧ d.left ≤ 9223372036854775807 → -1 ≤ (putAll base all i d).1.left ∧ (putAll base all i d).1.left ≤ 9223372036854775807 := by
    intro base all i
    induction i with
    | zero => intro d h; exact h
    | succ i ih =>
      intro d h
      have hw : -1 ≤ (writeD d (base + (i : Int)) (all[i]?.getD ⟨#[]⟩)).1.left ∧ (writeD d (base + (i : Int)) (all[i]?.getD ⟨#[]⟩)).1.left ≤ 9223372036854775807 := by
        unfold writeD
        split
        · exact h
        · split
          · exact h
          · split
            · exact h
            · simp only; split <;> omega
      unfold putAll
      split
      · exact ih _ hw
      · exact hw
  unfold forceD
  split
  · exact h
  · simp only
    split <;> exact key _ _ _ _ h
theorem safe_commit {N : Nat} {s : St} {asked told : List Int} (h : Safe N s asked told) (n : Int) (hn : n ∈ asked) : ((commitS s n).2 = 0 ∧ Safe N (commitS s n).1 asked (told ++ [n])) ∨ ((commitS s n).2 ≠ 0 ∧ Safe N (commitS s n).1 asked told) := by
  obtain ⟨h1, h2, h3, d0, r1, r2, h4, h5, h6⟩ := h
  unfold commitS
  rcases ownS_cases h4 n true (bare 5 0 0 0) with ⟨k, hk, e⟩ | ⟨g, x, hx1, hx2, e, hg⟩
  · rw [e]; simp only; rw [if_neg hk]; exact .inr ⟨hk, h1, h2, h3, d0, r1, r2, h4, h5, h6⟩
  · have hx1' : x.kind = 5 := hx1
    have h7 := safe_more h1 h2 h3 h5 h6 hg (fun _ => hx2 ▸ hn) (noteT s.txns x) s.next
    rw [e]
    simp only
    rw [if_pos trivial]
    have hin : ∀ r ∈ r1 ++ (r2 ++ [x]), r.kind = 5 → r.txn ∈ asked := fun r hr hk => by
      rw [← List.append_assoc] at hr
      rcases List.mem_append.1 hr with h | h
      · exact h5 r h hk
      · rw [List.mem_singleton.1 h, hx2]; exact hn
    rcases h6 with ⟨hup, rfl, hlies, htold⟩ | ⟨hdn, L, hL, hL1, hL2⟩
    · have hlf := forceD_leftN (g := g) h3
      rcases hg.force hup h3.1 with ⟨a1, a2, a3, a4, _, a6, _, a8⟩ | ⟨a1, a2, a3, _, a5, a6, nn, q, b1, b2, b3⟩
      · have hf : (forceS { s with log := g, txns := noteT s.txns x }).2 = 0 := a1
        rw [if_pos hf]
        have hS : Safe N (forceS { s with log := g, txns := noteT s.txns x }).1 asked (told ++ [n]) :=
          ⟨a6.trans h1, a2.whole, hlf, _, r1 ++ (r2 ++ [x]), [], a2, by rw [List.append_nil]; exact hin, .inl ⟨a3, rfl, a8 (.inl hlies), fun y hy => by
            rcases List.mem_append.1 hy with h | h
            · obtain ⟨r, hr, hr2⟩ := htold y h; exact ⟨r, List.mem_append_left _ hr, hr2⟩
            · exact ⟨x, by simp, hx1', by rw [List.mem_singleton.1 h]; exact hx2⟩⟩⟩
        refine .inl ?_
        obtain ⟨c1, c2, c3, e0, q1, q2, c4, c5, c6⟩ := hS
        unfold closeS
        rcases putS_cases c4 (bare 7 0 (markS (forceS { s with log := g, txns := noteT s.txns x }).1 n) n) with ⟨k, hk, e⟩ | ⟨g2, e, hg2⟩
        · rw [e]; simp only; rw [if_neg hk]; exact ⟨rfl, c1, c2, c3, e0, q1, q2, c4, c5, c6⟩
        · rw [e]; simp only; rw [if_pos trivial]; exact ⟨rfl, safe_more c1 c2 c3 c5 c6 hg2 (fun hk => absurd hk (by show ¬ (7 : Int) = 5; decide)) _ _⟩
      · have hf : ¬ (forceS { s with log := g, txns := noteT s.txns x }).2 = 0 := by
          show ¬ (forceD s.disk g).2.2 = 0
          rw [a1]; decide
        rw [if_neg hf]
        refine .inr ⟨hf, a6.trans h1, a5, hlf, s.disk, r1, r2 ++ [x], ?_, hin, .inr ⟨force_20 a1, ?_⟩⟩
        · show LInv 1 N s.disk (forceD s.disk g).2.1 r1 (r2 ++ [x])
          rw [a3]; exact hg
        · have hsl := logS_len (F := 1) (N := N) h2 (by omega)
          rcases opensN_cut a5 (a6.trans h1) hlies b1 a2 hsl b2 b3 with hO | hO
          · exact ⟨r1, hO, htold, fun r hr hk => hin r (List.mem_append_left _ hr) hk⟩
          · exact ⟨_, hO, fun y hy => by obtain ⟨r, hr, hr2⟩ := htold y hy; exact ⟨r, List.mem_append_left _ hr, hr2⟩, hin⟩
    · have hfd := hg.force_down (by simp) hdn
      have e1 : forceS { s with log := g, txns := noteT s.txns x } = ({ s with log := g, txns := noteT s.txns x }, 20) := by
        unfold forceS
        simp only
        rw [hfd]
      rw [e1]
      simp only
      rw [if_neg (by decide)]
      exact .inr ⟨by show ¬ (20 : Int) = 0; decide, h7⟩
theorem safe_do {N : Nat} {s : St} {asked told : List Int} (h : Safe N s asked told) (d : Deed) (hn : d.n ≤ 9223372036854775807) :
    Safe N (doS s d).1 (if d.kind = 2 then asked ++ [d.txn] else asked) (if d.kind = 2 ∧ (doS s d).2.2 = 0 then told ++ [d.txn] else told) := by
  unfold doS
  split
  · rename_i h0
    rw [if_neg (by omega), if_neg (by omega)]; exact safe_begin h
  split
  · rename_i h0
    rw [if_neg (by omega), if_neg (by omega)]; exact safe_own h _ _ _ (fun hk => absurd hk (by show ¬ (4 : Int) = 5; decide))
  split
  · rename_i h0
    simp only
    rcases safe_commit (safe_mono h (asked2 := asked ++ [d.txn]) (fun x hx => List.mem_append_left _ hx)) d.txn (by simp) with ⟨h1, h2⟩ | ⟨h1, h2⟩
    · rw [if_pos ⟨h0, h1⟩]; exact h2
    · rw [if_neg (fun hc => h1 hc.2)]; exact h2
  split
  · rename_i h2 _
    rw [if_neg (fun hc => h2 hc.1)]; exact safe_own h _ _ _ (fun hk => absurd hk (by show ¬ (6 : Int) = 5; decide))
  split
  · rename_i h2 _ _
    rw [if_neg (fun hc => h2 hc.1)]; exact safe_own h _ _ _ (fun hk => absurd hk (by show ¬ (7 : Int) = 5; decide))
  split
  · rename_i h2 _ _ _
    rw [if_neg (fun hc => h2 hc.1)]
    obtain ⟨h1, h3, h4, d0, r1, r2, h5, h6, h7⟩ := h
    refine ⟨h1, h3, ?_, armD d0 d.n, r1, r2, h5.disk rfl, h6, ?_⟩
    · show -1 ≤ (if d.n < 0 then -1 else d.n) ∧ (if d.n < 0 then -1 else d.n) ≤ _
      split <;> omega
    · rcases h7 with ⟨a1, a2, a3, a4⟩ | ⟨a1, L, a2, a3, a4⟩
      · exact .inl ⟨a1, by rw [a2], a3, a4⟩
      · exact .inr ⟨a1, L, a2.same rfl, a3, a4⟩
  · rename_i h2 _ _ _
    rw [if_neg (fun hc => h2 hc.1)]; exact h
end Tx
/- The plain law of transactions: the page's example. -/
namespace Lg
open Rc
theorem append_okT {l : Lo} {r : Rec} (h : Right { r with lsn := l.end_ + 1 }) (h2 : ¬ l.n * 128 - ((putR { r with lsn := l.end_ + 1 }).length : Int) < l.end_) : appendD l r = ({ l with end_ := l.end_ + ((putR { r with lsn := l.end_ + 1 }).length : Int), tail := l.tail ++ ⟨(putR { r with lsn := l.end_ + 1 }).toArray⟩ }, l.end_ + 1, 0) := by
  unfold appendD
  simp only
  rw [if_neg (fun hn => hn h), if_neg h2]
theorem small_len (kind lsn prev txn : Int) (hk : kind = 1 ∨ kind = 5 ∨ kind = 6 ∨ kind = 7) : (putR (bare kind lsn prev txn)).length = 27 := by
  rw [putR_len]
  unfold bodyB
  rw [List.length_append, headB_len]
  have hr : restB (bare kind lsn prev txn) = [] := by
    unfold restB bare
    simp only
    rw [if_neg (by omega), if_neg (by omega), if_neg (by omega), if_neg (by omega), if_neg (by omega)]
  rw [hr]; rfl
theorem nest_len (lsn prev txn next : Int) : (putR ⟨lsn, prev, txn, 4, 0, next, 0, noOp, 0, 0, noKey, [], []⟩).length = 33 := by
  rw [putR_len]
  unfold bodyB
  rw [List.length_append, headB_len, restB_4 rfl, p_length]
theorem small_ok {F N : Nat} {d : Dk} {g : Lo} {r1 r2 : List Rec} (h : LInv F N d g r1 r2) (kind prev txn : Int) (hk : kind = 1 ∨ kind = 5 ∨ kind = 6 ∨ kind = 7) (h1 : num (g.end_ + 1)) (h2 : num prev) (h3 : num txn) (hf : g.end_ + 27 ≤ g.n * 128) :
    ∃ g2, appendD g (bare kind 0 prev txn) = (g2, g.end_ + 1, 0) ∧ g2.end_ = g.end_ + 27 ∧ g2.n = g.n ∧ LInv F N d g2 r1 (r2 ++ [bare kind (g.end_ + 1) prev txn]) := by
  have hR : Right (bare kind (g.end_ + 1) prev txn) := .small kind _ prev txn hk h1 h2 h3
  have e := append_okT (l := g) (r := bare kind 0 prev txn) hR (by show ¬ g.n * 128 - ((putR (bare kind (g.end_ + 1) prev txn)).length : Int) < g.end_; rw [small_len _ _ _ _ hk]; omega)
  rcases h.append (bare kind 0 prev txn) with h4 | h4 | ⟨h4, h5⟩
  · rw [e] at h4; injection h4 with _ h4; injection h4 with _ h4; exact absurd h4 (by decide)
  · rw [e] at h4; injection h4 with _ h4; injection h4 with _ h4; exact absurd h4 (by decide)
  · refine ⟨_, e, ?_, rfl, ?_⟩
    · show g.end_ + ((putR (bare kind (g.end_ + 1) prev txn)).length : Int) = _
      rw [small_len _ _ _ _ hk]; rfl
    · rw [e] at h5; exact h5
theorem nest_ok {F N : Nat} {d : Dk} {g : Lo} {r1 r2 : List Rec} (h : LInv F N d g r1 r2) (prev txn next : Int) (h1 : num (g.end_ + 1)) (h2 : num prev) (h3 : num txn) (h6 : num next) (hf : g.end_ + 33 ≤ g.n * 128) :
    ∃ g2, appendD g ⟨0, prev, txn, 4, 0, next, 0, noOp, 0, 0, noKey, [], []⟩ = (g2, g.end_ + 1, 0) ∧ g2.end_ = g.end_ + 33 ∧ g2.n = g.n ∧ LInv F N d g2 r1 (r2 ++ [⟨g.end_ + 1, prev, txn, 4, 0, next, 0, noOp, 0, 0, noKey, [], []⟩]) := by
  have hR : Right ⟨g.end_ + 1, prev, txn, 4, 0, next, 0, noOp, 0, 0, noKey, [], []⟩ := .nest _ prev txn next h1 h2 h3 h6
  have e := append_okT (l := g) (r := ⟨0, prev, txn, 4, 0, next, 0, noOp, 0, 0, noKey, [], []⟩) hR (by show ¬ g.n * 128 - ((putR ⟨g.end_ + 1, prev, txn, 4, 0, next, 0, noOp, 0, 0, noKey, [], []⟩).length : Int) < g.end_; rw [nest_len]; omega)
  rcases h.append ⟨0, prev, txn, 4, 0, next, 0, noOp, 0, 0, noKey, [], []⟩ with h4 | h4 | ⟨h4, h5⟩
  · rw [e] at h4; injection h4 with _ h4; injection h4 with _ h4; exact absurd h4 (by decide)
  · rw [e] at h4; injection h4 with _ h4; injection h4 with _ h4; exact absurd h4 (by decide)
  · refine ⟨_, e, ?_, rfl, ?_⟩
    · show g.end_ + ((putR ⟨g.end_ + 1, prev, txn, 4, 0, next, 0, noOp, 0, 0, noKey, [], []⟩).length : Int) = _
      rw [nest_len]; rfl
    · rw [e] at h5; exact h5
end Lg
namespace Tx
open Rc Lg
theorem numB (n : Int) (h0 : 0 ≤ n) (h1 : n ≤ 1000) : num n := ⟨h0, by omega⟩
theorem putS_of {s : St} {r : Rec} {g : Lo} (h : appendD s.log r = (g, s.log.end_ + 1, 0)) : putS s r = ({ s with log := g, txns := noteT s.txns { r with lsn := s.log.end_ + 1 } }, 0) := by
  unfold putS; rw [h]; simp only; rw [if_pos trivial]
/-- A store's log as a call finds it. -/
structure LogB (s : St) : Prop where
  e0 : 0 ≤ s.log.end_
  e1 : s.log.end_ ≤ 128000
  t0 : (s.log.tail.size : Int) ≤ s.log.end_
  t1 : s.log.end_ % 128 ≤ (s.log.tail.size : Int)
  f : s.log.from_ = 1
  n0 : 0 ≤ s.log.n
  n1 : s.log.n ≤ 1000
  s0 : 0 ≤ s.log.safe
  s1 : s.log.safe ≤ s.log.end_
theorem logB_of {N : Nat} {d : Dk} {s : St} {r1 r2 : List Rec} (h : LInv 1 N d s.log r1 r2) (hN : N ≤ 1000) : LogB s := by
  obtain ⟨a1, a2, a3, a4, a5, a6, a7, a8⟩ := h.boundsN hN
  exact ⟨a1, a2, a3, a4, a5, by omega, by omega, a7, a8⟩
theorem awake_txn : ∃ s1 s2 s3, beginS (fresh 9) = (s1, 1, 0) ∧ findS s1 1 = (⟨1, 1, 1, false⟩, true) ∧ nestS s1 1 0 = (s2, 0) ∧ findS s2 1 = (⟨1, 28, 0, false⟩, true) ∧ commitS s2 1 = (s3, 0) ∧ s3.txns = [] ∧ s3.next = 2 ∧ abortS s3 1 = (s3, 21) ∧ s1.txns.length = 1 ∧ s2.txns.length = 1 ∧ Good 9 s1 ∧ Good 9 s2 ∧ Good 9 s3 := by
  have h0 := LInv.newN 9
  have good0 := good_new 9
  obtain ⟨g1, e1, n1, m1, i1⟩ := small_ok h0 1 0 1 (.inl rfl) (numB _ (by decide) (by decide)) (numB _ (by decide) (by decide)) (numB _ (by decide) (by decide)) (by decide)
  have b1 : beginS (fresh 9) = ({ fresh 9 with log := g1, txns := [⟨1, 1, 1, false⟩], next := 2 }, 1, 0) := by
    have p := putS_of (s := fresh 9) (r := bare 1 0 0 1) e1
    unfold beginS
    have e : (fresh 9).next = 1 := rfl
    rw [e, p]
    rfl
  have good1 := good_begin good0
  rw [b1] at good1
  simp only at good1
  obtain ⟨s1, hs1⟩ : ∃ s, s = ({ fresh 9 with log := g1, txns := [⟨1, 1, 1, false⟩], next := 2 } : St) := ⟨_, rfl⟩
  rw [← hs1] at b1 good1
  have l1 : s1.log = g1 := by rw [hs1]
  have t1 : s1.txns = [⟨1, 1, 1, false⟩] := by rw [hs1]
  have x1 : s1.next = 2 := by rw [hs1]
  have f1 : findS s1 1 = (⟨1, 1, 1, false⟩, true) := by unfold findS; rw [t1]; rfl
  clear hs1
  have n1' : g1.end_ = 27 := n1
  have m1' : g1.n = 9 := m1
  obtain ⟨g2, e2, n2, m2, i2⟩ := nest_ok i1 1 1 0 (numB _ (by omega) (by omega)) (numB _ (by decide) (by decide)) (numB _ (by decide) (by decide)) (numB _ (by decide) (by decide)) (by omega)
  have b2 : nestS s1 1 0 = ({ s1 with log := g2, txns := [⟨1, 28, 0, false⟩] }, 0) := by
    unfold nestS ownS
    rw [f1]
    simp only
    rw [if_neg (by decide), if_neg (by decide)]
    have p := putS_of (s := s1) (r := ⟨0, 1, 1, 4, 0, 0, 0, noOp, 0, 0, noKey, [], []⟩) (by rw [l1]; exact e2)
    unfold nestR
    rw [p, t1, l1, n1']
    rfl
  have good2 : Good 9 (nestS s1 1 0).1 := good_own good1 _ _ _
  rw [b2] at good2
  simp only at good2
  obtain ⟨s2, hs2⟩ : ∃ s, s = ({ s1 with log := g2, txns := [⟨1, 28, 0, false⟩] } : St) := ⟨_, rfl⟩
  rw [← hs2] at b2 good2
  have l2 : s2.log = g2 := by rw [hs2]
  have t2 : s2.txns = [⟨1, 28, 0, false⟩] := by rw [hs2]
  have x2 : s2.next = 2 := by rw [hs2]; exact x1
  have f2 : findS s2 1 = (⟨1, 28, 0, false⟩, true) := by unfold findS; rw [t2]; rfl
  clear hs2
  have n2' : g2.end_ = 60 := by omega
  have m2' : g2.n = 9 := by omega
  obtain ⟨g3, e3, n3, m3, i3⟩ := small_ok i2 5 28 1 (.inr (.inl rfl)) (numB _ (by omega) (by omega)) (numB _ (by decide) (by decide)) (numB _ (by decide) (by decide)) (by omega)
  have b3 : ownS s2 1 true (bare 5 0 0 0) = ({ s2 with log := g3, txns := [⟨1, 61, 0, true⟩] }, 0) := by
    unfold ownS
    rw [f2]
    simp only
    rw [if_neg (by decide), if_neg (by decide)]
    have p := putS_of (s := s2) (r := bare 5 0 28 1) (by rw [l2]; exact e3)
    have e : ({ bare 5 0 0 0 with txn := 1, prev := 28 } : Rec) = bare 5 0 28 1 := rfl
    rw [e, p, t2, l2, n2']
    rfl
  have good3 : Good 9 (ownS s2 1 true (bare 5 0 0 0)).1 := good_own good2 _ _ _
  obtain ⟨s3, hs3⟩ : ∃ s, s = (ownS s2 1 true (bare 5 0 0 0)).1 := ⟨_, rfl⟩
  rw [← hs3] at good3
  have t3 : s3.txns = [⟨1, 61, 0, true⟩] := by rw [hs3, b3]
  have x3 : s3.next = 2 := by rw [hs3, b3]; exact x2
  have l3 : s3.log.end_ = 87 := by rw [hs3, b3]; show g3.end_ = 87; omega
  have m3' : s3.log.n = 9 := by rw [hs3, b3]; show g3.n = 9; omega
  obtain ⟨q1, good4, q3⟩ := good_force good3
  obtain ⟨s4, hs4⟩ : ∃ s, s = (forceS s3).1 := ⟨_, rfl⟩
  have t4 : s4.txns = [⟨1, 61, 0, true⟩] := by rw [hs4]; exact t3
  have x4 : s4.next = 2 := by rw [hs4]; exact x3
  have fe : ∀ d g, (forceD d g).2.1.end_ = g.end_ ∧ (forceD d g).2.1.n = g.n := by
    intro d g
    unfold forceD forcedL
    split
    · exact ⟨rfl, rfl⟩
    · simp only
      split <;> exact ⟨rfl, rfl⟩
  have l4 : s4.log.end_ = 87 := by rw [hs4]; exact (fe _ _).1.trans l3
  have m4 : s4.log.n = 9 := by rw [hs4]; exact (fe _ _).2.trans m3'
  rw [← hs4] at good4
  have hmark : markS s4 1 = 61 := by unfold markS findS; rw [t4]; rfl
  have b5 : ∃ s5, closeS s4 1 = (s5, 0) ∧ s5.txns = [] ∧ s5.next = 2 ∧ Good 9 s5 := by
    obtain ⟨r1, r2, h1, h2, h3, h4, h5, h6⟩ := good4
    obtain ⟨g5, e5, n5, m5, i5⟩ := small_ok h1 7 61 1 (.inr (.inr (.inr rfl))) (numB _ (by omega) (by omega)) (numB _ (by decide) (by decide)) (numB _ (by decide) (by decide)) (by omega)
    have p := putS_of (s := s4) (r := bare 7 0 61 1) e5
    refine ⟨{ s4 with log := g5, txns := noteT s4.txns (bare 7 (s4.log.end_ + 1) 61 1) }, ?_, ?_, x4, good_more h2 h3 h4 h5 h6 i5 s4.next⟩
    · unfold closeS
      rw [hmark, p]
      simp only
      rw [if_pos trivial]
      rfl
    · show noteT s4.txns (bare 7 (s4.log.end_ + 1) 61 1) = []
      rw [t4]; rfl
  obtain ⟨s5, b5, t5, x5, good5⟩ := b5
  have b6 : commitS s2 1 = (s5, 0) := by
    unfold commitS
    rw [← hs3, if_pos (by rw [b3]), if_pos q1, ← hs4, b5]
  have b7 : abortS s5 1 = (s5, 21) := by
    unfold abortS ownS findS
    rw [t5]
    rfl
  exact ⟨s1, s2, s5, b1, f1, b2, f2, b6, t5, x5, b7, by rw [t1]; rfl, by rw [t2]; rfl, good1, good2, good5⟩
end Tx
/- The walks over package txn: place. -/
namespace Tx
def placeI : Option Nat → Int
  | none => -1
  | some k => (k : Int)
end Tx
namespace Go.Proofs.YthfglhafphfhiaaGreat
open Go.RowKit
theorem tplace_fn (t : Rc.TxnAt) (n : Int) (g : Nat) (w : World) (h : w.cell? ⟨g, 0, none⟩ = some (.int .i64 n)) :
    Calls Tryz.prog 61 #[txV t, .pointer (some ⟨g, 0, none⟩)] w fun e w' => e = .returned (.bool (decide (t.txn = n))) ∧ Below w.heap.size w w' := by
  obtain ⟨a, b, c, d⟩ := t
  have hg : g < w.heap.size := by
    rcases Nat.lt_or_ge g w.heap.size with h1 | h1
    · exact h1
    · unfold World.cell? at h
      rw [Array.getElem?_eq_none h1] at h
      cases h
  have h2 : (w.alloc (.cells #[.int .i64 a, .int .i64 b, .int .i64 c, .bool d] 45)).cell? ⟨g, 0, none⟩ = some (.int .i64 n) := ((allocB w _).cell (p := ⟨g, 0, none⟩) hg).trans h
  simp only
  by_cases he : a = n
  · subst he
    rw [decide_eq_true rfl]
    have hs : (a == a) = true := by simp
    go_enter Tryz.func61, Tryz.ntmps61
    go_wp2_with fail
    go_ret
    exact ⟨by simp, allocB _ _⟩
  · rw [decide_eq_false he]
    have hs : (a == n) = false := by simpa using he
    clear he
    go_enter Tryz.func61, Tryz.ntmps61
    go_wp2_with fail
    go_ret
    exact ⟨by simp [*], allocB _ _⟩
/-- Where it stands; -1: nowhere. -/
def PlaceOut (o : Option Nat) (w : World) (e : Ending) (w' : World) : Prop := e = .returned (.int .i64 (Tx.placeI o)) ∧ Below w.heap.size w w'
set_option maxRecDepth 100000 in
theorem tindex_any (l : List Rc.TxnAt) (n : Int) (hn : l.length ≤ 140737488355328) (A : Option Addr) (c g : Nat) (w : World) (hr : TxR w A c l) (hg : w.cell? ⟨g, 0, none⟩ = some (.int .i64 n)) (hgl : g < w.heap.size) :
    Calls Tryz.prog 60 #[.slice A l.length c, .func (.func 61) #[] #[.pointer (some ⟨g, 0, none⟩)]] w (PlaceOut (Tx.placeT l n) w) := by
  have HR := Lib.hid hr
  have HO := Lib.hid (fun t W (hb : Below w.heap.size w W) => tplace_fn t n g W ((hb.cell (p := ⟨g, 0, none⟩) hgl).trans hg))
  have HQ := Lib.hid (fun (k : Nat) w' (hk : k < l.length) (h1 : l[k].txn = n) (h2 : ∀ j (hj : j < k), l[j].txn ≠ n) (hb : Below w.heap.size w w') => show PlaceOut (Tx.placeT l n) w (.returned (.int .i64 (k : Int))) w' from ⟨by rw [Tx.placeT_at hk h1 h2]; rfl, hb⟩)
  have HZ := Lib.hid (fun w' (h2 : ∀ j (hj : j < l.length), l[j].txn ≠ n) (hb : Below w.heap.size w w') => show PlaceOut (Tx.placeT l n) w (.returned (.int .i64 (-1))) w' from ⟨by
    rw [Tx.placeT_no fun t ht => by
      obtain ⟨j, hj, rfl⟩ := List.getElem_of_mem ht
      exact h2 j hj]
    rfl, hb⟩)
  generalize PlaceOut (Tx.placeT l n) w = Q at HQ HZ ⊢
  clear hr hg hgl
  go_enter Tryz.func60, Tryz.ntmps60
  go_wp2_with fail
  go_loopw [8] (fun i wr => ∃ k : Nat, k ≤ l.length ∧ i = .int .i64 k ∧ (∀ j (hj : j < l.length), j < k → l[j].txn ≠ n) ∧ Below w.heap.size w wr) (fun i _ => l.length - (intOf i).toNat)
  case atStart => exact ⟨0, Nat.zero_le _, rfl, fun _ _ h => absurd h (by omega), Below.refl _ _⟩
  case round =>
    obtain ⟨k, hk, rfl, hall, hbw⟩ := hrel
    have HA := Lib.hid hall
    have HBW := Lib.hid hbw
    clear hall
    by_cases hlt : k < l.length
    · obtain ⟨b', off, rfl, hc, hbl, hcell⟩ := read_at txC_len (HR.out.below hbw) hlt
      have q0 := hcell 0 _ rfl
      have q1 := hcell 1 _ rfl
      have q2 := hcell 2 _ rfl
      have q3 := hcell 3 _ rfl
      clear hcell hbw
      simp only [Nat.add_zero] at q0
      have HY := Lib.hid (show ¬ l[k].txn = n → ∀ j (hj : j < l.length), j < k + 1 → l[j].txn ≠ n from fun h j hj hjk => by
        rcases Nat.lt_or_eq_of_le (Nat.le_of_lt_succ hjk) with h1 | h1
        · exact HA.out j hj h1
        · subst h1; exact h)
      have HF := Lib.hid (show l[k].txn = n → ∀ w', Below w.heap.size w w' → Q (.returned (.int .i64 (k : Int))) w' from fun h w' hb => HQ.out k w' hlt h (fun j hj => HA.out j (by omega) hj) hb)
      have HOk := Lib.hid (fun W hb => HO.out l[k] W hb)
      generalize l[k] = x at q0 q1 q2 q3 HF HY HOk
      have hwk : IntKind.i64.wrap ((k : Int) + 1) = (k : Int) + 1 := IntWalk.i64_in _ (by omega)
      by_cases hd : x.txn = n
      · have HF2 := Lib.hid (HF.out hd)
        rw [decide_eq_true hd] at HOk
        clear HF HY hd
        obtain ⟨fa, fb, fc, fd⟩ := x
        go_wp2_with ((go_at_call 61; (with_reducible refine (HOk.out _ HBW.out).mono ?_); rintro e w' ⟨rfl, hb2⟩))
        exact HF2.out _ (joinB HBW.out hb2)
      · have HY2 := Lib.hid (HY.out hd)
        rw [decide_eq_false hd] at HOk
        clear HF HY hd
        obtain ⟨fa, fb, fc, fd⟩ := x
        go_wp2_with ((go_at_call 61; (with_reducible refine (HOk.out _ HBW.out).mono ?_); rintro e w' ⟨rfl, hb2⟩))
        go_roundw
        case rel => exact ⟨k + 1, by omega, by go_num, HY2.out, joinB HBW.out hb2⟩
        case measure => simp [intOf]; omega
    · obtain rfl : k = l.length := by omega
      have HE := Lib.hid (HZ.out wr (fun j hj => HA.out j hj hj) HBW.out)
      clear hbw
      go_wp2_with fail
      exact HE.out
set_option maxRecDepth 100000 in
theorem tplace_any (l : List Rc.TxnAt) (n : Int) (hn : l.length ≤ 140737488355328) (A : Option Addr) (c : Nat) (w : World) (hr : TxR w A c l) :
    Calls Tryz.prog 35 #[.slice A l.length c, .int .i64 n] w (PlaceOut (Tx.placeT l n) w) := by
  have HI := Lib.hid (tindex_any l n hn A c w.heap.size (w.alloc (.cells #[.int .i64 n] 3)) (hr.below (allocB w _)) (by rw [World.cell?_alloc_new]; rfl) (by simp))
  have HQ := Lib.hid (fun w' (hb : Below w.heap.size w w') => show PlaceOut (Tx.placeT l n) w (.returned (.int .i64 (Tx.placeI (Tx.placeT l n)))) w' from ⟨rfl, hb⟩)
  generalize PlaceOut (Tx.placeT l n) w = Q at HQ ⊢
  unfold PlaceOut at HI
  generalize Tx.placeI (Tx.placeT l n) = r at HI HQ
  clear hr
  go_enter Tryz.func35, Tryz.ntmps35
  go_wp2_with ((go_at_call 60; (with_reducible refine HI.out.mono ?_); rintro e w' ⟨rfl, hb⟩))
  exact HQ.out _ (joinB (allocB _ _) hb)
end Go.Proofs.YthfglhafphfhiaaGreat
/- The walks over the library's Clone and Delete of transactions; words for memory. -/
namespace Go.Proofs.YthfglhafphfhiaaGreat
open Go.RowKit
theorem info_tx : (Tryz.prog.info? 45).map (fun i => (i.zero, i.size, i.bytes)) = some (some (.agg #[.int .i64 0, .int .i64 0, .int .i64 0, .bool false]), 4, 32) := by kernel_rfl
theorem txC_one (t : Rc.TxnAt) : ∀ u ∈ txC t, u.oneCell' = true := by
  intro u hu
  simp only [txC, List.mem_cons, List.not_mem_nil, or_false] at hu
  rcases hu with rfl | rfl | rfl | rfl <;> rfl
theorem txC_all (l : List Rc.TxnAt) : ∀ u ∈ l.flatMap txC, u.oneCell' = true := by
  intro u hu
  obtain ⟨t, _, ht⟩ := List.mem_flatMap.1 hu
  exact txC_one t u ht
/-- One cell of a row of the call's own is written. -/
theorem ownSetAt {w : World} {B size n c g : Nat} {e : TypeId} {xs : List Value} (h : w.ownsRow B e size (.slice (some ⟨g, 0, none⟩) n c) n xs) (j : Nat) (hj : j < n * size) :
    w.cell? ⟨g, j, none⟩ = xs[j]? ∧ w.frozen? ⟨g, j, none⟩ = false ∧ ∀ x, (w.setCell ⟨g, j, none⟩ x).ownsRow B e size (.slice (some ⟨g, 0, none⟩) n c) n (xs.set j x) := by
  obtain ⟨hl, h2⟩ := h
  rcases h2 with ⟨h0, _⟩ | ⟨g', cap, cur, hv, hg, hh, hn, hcap, hsz, htake⟩
  · cases h0
  · injection hv with hv1 hv2 hv3
    injection hv1 with hv1
    injection hv1 with hv1 _ _
    subst hv1 hv3
    have hnc : n * size ≤ c * size := Nat.mul_le_mul_right _ hn
    refine ⟨?_, blkFrozen hh j, fun x => ⟨by rw [List.length_set]; exact hl, .inr ⟨g, c, cur.setIfInBounds j x, rfl, hg, blkSet j hh x, hn, hcap, by rw [Array.size_setIfInBounds]; exact hsz, ?_⟩⟩⟩
    · rw [blkCell hh j, ← htake, List.getElem?_take, if_pos hj, Array.getElem?_toList]
    · rw [← htake]
      refine List.ext_getElem? fun i => ?_
      rw [List.getElem?_set, List.getElem?_take, List.length_take, List.getElem?_take, Array.toList_setIfInBounds, List.getElem?_set]
      have hs : cur.toList.length = cur.size := by simp
      by_cases h1 : j = i
      · subst h1
        rw [if_pos rfl, if_pos rfl, if_pos hj, if_pos (by omega), if_pos (by omega)]
      · rw [if_neg h1, if_neg h1]
theorem flat_set {α : Type} {enc : α → List Value} {k : Nat} (hk : ∀ x, (enc x).length = k) : ∀ (l : List α) (j f : Nat) (y : α) (x : Value) (hj : j < l.length), f < k → enc y = (enc l[j]).set f x → (l.flatMap enc).set (j * k + f) x = (l.set j y).flatMap enc := by
  intro l
  induction l with
  | nil => intro j f y x hj; simp at hj
  | cons a l ih =>
    intro j f y x hj hf he
    cases j with
    | zero =>
      simp only [List.getElem_cons_zero] at he
      rw [List.flatMap_cons, List.set_cons_zero, List.flatMap_cons, he, Nat.zero_mul, Nat.zero_add, List.set_append_left _ _ (by rw [hk]; exact hf)]
    | succ j =>
      simp only [List.getElem_cons_succ] at he
      rw [List.flatMap_cons, List.set_cons_succ, List.flatMap_cons, List.set_append_right _ _ (by rw [hk, Nat.succ_mul]; omega)]
      congr 1
      rw [show (j + 1) * k + f - (enc a).length = j * k + f by rw [hk, Nat.succ_mul]; omega]
      exact ih j f y x (by simpa using hj) hf he
theorem setCells_blk {g : Nat} {T : TypeId} {fr : Nat × Nat} : ∀ (vs : List Value) (o : Nat) (cs : Array Value) (w : World), w.heap[g]? = some (.cells cs T fr) → ∃ cs' : Array Value, (w.setCells g o vs).heap[g]? = some (.cells cs' T fr) ∧ cs'.size = cs.size ∧ ∀ j, cs'[j]? = if o ≤ j ∧ j < o + vs.length ∧ j < cs.size then vs[j - o]? else cs[j]? := by
  intro vs
  induction vs with
  | nil => intro o cs w h; exact ⟨cs, h, rfl, fun j => by rw [if_neg (by simp; omega)]⟩
  | cons v vs ih =>
    intro o cs w h
    obtain ⟨cs', h1, h2, h3⟩ := ih (o + 1) _ _ (blkSet o h v)
    refine ⟨cs', h1, by rw [h2, Array.size_setIfInBounds], fun j => ?_⟩
    rw [h3, Array.size_setIfInBounds, Array.getElem?_setIfInBounds]
    by_cases hj : j = o
    · subst hj
      rw [if_neg (by omega), if_pos rfl]
      by_cases hb : j < cs.size
      · rw [if_pos hb, if_pos ⟨Nat.le_refl _, by simp, hb⟩, Nat.sub_self]; rfl
      · rw [if_neg hb, if_neg (by omega), Array.getElem?_eq_none (by omega)]
    · by_cases hc : o + 1 ≤ j ∧ j < o + 1 + vs.length ∧ j < cs.size
      · rw [if_pos hc, if_pos (by simp; omega)]
        obtain ⟨m, rfl⟩ : ∃ m, j = o + 1 + m := ⟨j - (o + 1), by omega⟩
        rw [show o + 1 + m - (o + 1) = m by omega, show o + 1 + m - o = m + 1 by omega, List.getElem?_cons_succ]
      · rw [if_neg hc, if_neg (fun e => hj e.symm), if_neg (by simp; omega)]
theorem setCells_below {B g : Nat} (hg : B ≤ g) : ∀ (vs : List Value) (o : Nat) (w : World), Below B w (w.setCells g o vs) := by
  intro vs
  induction vs with
  | nil => intro o w; exact Below.refl _ _
  | cons v vs ih =>
    intro o w
    exact ((Below.refl B w).setCell (p := ⟨g, o, none⟩) hg v).trans (ih (o + 1) _)
set_option maxRecDepth 100000 in
theorem tclone_any (l : List Rc.TxnAt) (hl : l.length ≤ 1000000) (A : Option Addr) (c : Nat) (w : World) (hr : TxR w A c l) :
    Calls Tryz.prog 84 #[.slice A l.length c] w fun e w' => ∃ v, e = .returned v ∧ OwnL txC 4 45 w.heap.size w' v l ∧ Below w.heap.size w w' := by
  obtain ⟨i0, hi, hz0, hz1, hz2⟩ := info_parts info_tx
  have HR := Lib.hid hr
  cases A with
  | none =>
    have hl0 : l = [] := by
      rcases Nat.eq_zero_or_pos l.length with h0 | h0
      · exact List.eq_nil_of_length_eq_zero h0
      · obtain ⟨b, off, e, _⟩ := hr h0
        cases e
    subst hl0
    clear hr HR
    have hq : ∀ w, (binOp .eql 35 (.slice none 0 c) (.slice none 0 0)).run Tryz.prog w = .ok (.bool true) w := fun w => Lib.run_eql_slice_nil w 35 45 none 0 c 0 0 Tryz.underlying35
    simp only [List.length_nil]
    go_enter Tryz.func84, Tryz.ntmps84
    go_wp2_with fail
    go_ret
    exact ⟨_, rfl, ownNil _ _ _ _, Below.refl _ _⟩
  | some ad =>
    have HRD := Lib.hid (hr.below (allocB w (.cells #[] 45)))
    have hq : ∀ w, (binOp .eql 35 (.slice (some ad) l.length c) (.slice none 0 0)).run Tryz.prog w = .ok (.bool false) w := fun w => Lib.run_eql_slice_nil w 35 45 (some ad) l.length c 0 0 Tryz.underlying35
    clear hr
    go_enter Tryz.func84, Tryz.ntmps84
    go_wp2_with (at_builtin; refine listWants (by kernel_rfl) fun K hK => wp_appR (w.alloc (.cells #[] 45)) (.tmp 5) (.tmp 6) 35 45 i0 (.agg #[.int .i64 0, .int .i64 0, .int .i64 0, .bool false]) 4 32 Tryz.underlying35 hi hz0 hz1 hz2 rfl (by omega) rfl w.heap.size _ 0 [] rfl (ownEmpty w 45 4) (some ad) l.length c (l.flatMap txC) rfl HRD.out (by rw [flat_len txC_len]) (txC_all l) (by omega) (by omega) (by simp) ?_; intro v2 w2 ho hg hb; refine hK _ _ ?_)
    go_ret
    rw [List.nil_append, Nat.zero_add] at ho
    exact ⟨_, rfl, ho, (allocB w (.cells #[] 45)).trans hb⟩
/-- Cells of n transactions that are nothing. -/
def txZ (n : Nat) : List Value := (Builtin.zeroCells (Value.cells (.agg #[.int .i64 0, .int .i64 0, .int .i64 0, .bool false])) n).toList
theorem txZ_len (n : Nat) : (txZ n).length = n * 4 := by simp [txZ, Builtin.zeroCells, Value.cells]
/-- The last elements' cells are cleared. -/
theorem run_clear_tx (w : World) (b o n c : Nat) (hn : 0 < n) (hc : ∀ j, j < n * 4 → (w.cell? ⟨b, o + j, none⟩).isSome = true) (hf : ∀ j, j < n * 4 → w.frozen? ⟨b, o + j, none⟩ = false) (ty : TypeId) :
    (Builtin.clear_ #[35] ty #[.slice (some ⟨b, o, none⟩) n c]).run Tryz.prog w = .ok (.tuple #[]) (w.setCells b o (txZ n)) := by
  have hv : ∀ w, (zeroValue 45).run Tryz.prog w = .ok (.agg #[.int .i64 0, .int .i64 0, .int .i64 0, .bool false]) w := Tryz.zeroValue45
  have hst := run_storeCells_cells (P := Tryz.prog) b o (txZ n) 0 w (by rw [txZ_len]; simpa using hc) (by rw [txZ_len]; simpa using hf) (by
    intro v hv'
    simp [txZ, Builtin.zeroCells, Value.cells] at hv'
    obtain ⟨i, _, rfl⟩ := hv'
    have hi4 : i % 4 < 4 := Nat.mod_lt _ (by omega)
    generalize i % 4 = k at hi4
    rcases k with _ | _ | _ | _ | k
    · rfl
    · rfl
    · rfl
    · rfl
    · omega)
  simp only [Nat.add_zero] at hst
  unfold txZ at hst ⊢
  obtain ⟨m, rfl⟩ : ∃ m, n = m + 1 := ⟨n - 1, by omega⟩
  simp [Builtin.clear_, run_underlying Tryz.underlying35, hv, hst]
set_option maxRecDepth 100000 in
set_option maxHeartbeats 2000000 in
/-- One transaction is taken out of a row of the call's own. -/
theorem tdelete_any (l : List Rc.TxnAt) (hl : l.length ≤ 1000000) (i : Nat) (hi : i < l.length) (B g c : Nat) (w : World) (ho : OwnL txC 4 45 B w (.slice (some ⟨g, 0, none⟩) l.length c) l) :
    Calls Tryz.prog 83 #[.slice (some ⟨g, 0, none⟩) l.length c, .int .i64 (i : Int), .int .i64 ((i : Int) + 1)] w fun e w' => ∃ v, e = .returned v ∧ OwnL txC 4 45 B w' v (l.take i ++ l.drop (i + 1)) ∧ Below B w w' := by
  obtain ⟨i0, hi0, hz0, hz1, hz2⟩ := info_parts info_tx
  obtain ⟨n, hn⟩ : ∃ n, n = l.length := ⟨_, rfl⟩
  obtain ⟨j, hj⟩ : ∃ j, j = i + 1 := ⟨_, rfl⟩
  have hjI : ((i : Int) + 1) = (j : Int) := by omega
  rw [hjI]
  have HO := Lib.hid ho
  obtain ⟨hxl, h2⟩ := ho
  rcases h2 with ⟨h0, _⟩ | ⟨g', cap, cur, hv, hgB, hh, hnc, hcap, hsz, htake⟩
  · cases h0
  injection hv with hv1 hv2 hv3
  injection hv1 with hv1
  injection hv1 with hv1 _ _
  subst hv1 hv3
  rw [← hn] at hnc htake hxl hl hi ⊢
  have HH := Lib.hid hh
  have HT := Lib.hid htake
  have hij : i ≤ j := by omega
  have hjn : j ≤ n := by omega
  have hne : ((i : Int) == (j : Int)) = false := by simp; omega
  have hijI : (i : Int) ≤ (j : Int) := by omega
  have hjnI : (j : Int) ≤ (n : Int) := by omega
  have hncI : (n : Int) ≤ (c : Int) := by omega
  have hjcI : (j : Int) ≤ (c : Int) := by omega
  have hicI : (i : Int) ≤ (c : Int) := by omega
  have hmx : c ≤ maxLen := hcap
  have HN := Lib.hid hn
  have HJ := Lib.hid hj
  clear hxl hh htake hcap HO hn hj hjI
  go_enter Tryz.func83, Tryz.ntmps83
  obtain ⟨news, hnews⟩ : ∃ news, news = (l.drop j).flatMap txC := ⟨_, rfl⟩
  have hnl : news.length = (n - j) * 4 := by rw [hnews, flat_len txC_len, List.length_drop, HN.out]
  have HNE := Lib.hid hnews
  have H1C := Lib.hid (show ∀ u ∈ news, u.oneCell' = true from by rw [hnews]; exact txC_all _)
  obtain ⟨AD, hAD, hsrc⟩ : ∃ AD : Addr, (if c = j then (some ⟨g, 0, none⟩ : Option Addr) else some ⟨g, j * 4, none⟩) = some AD ∧ ∀ t u, news[t]? = some u → w.drew.cell? (AD.add t) = some u := by
    by_cases hcj : c = j
    · refine ⟨_, by rw [if_pos hcj], fun t u hu => ?_⟩
      have h0 : news.length = 0 := by rw [hnl]; omega
      rw [List.length_eq_zero_iff.1 h0] at hu
      simp at hu
    · refine ⟨_, by rw [if_neg hcj], fun t u hu => ?_⟩
      have ht : t < (n - j) * 4 := by rw [← hnl]; exact (List.getElem?_eq_some_iff.1 hu).1
      rw [Addr.add_mid]
      show w.cell? ⟨g, j * 4 + t, none⟩ = some u
      rw [blkCell HH.out, ← hu, hnews]
      have h5 : (l.flatMap txC)[j * 4 + t]? = ((l.drop j).flatMap txC)[t]? := by
        have h6 : l.flatMap txC = (l.take j).flatMap txC ++ (l.drop j).flatMap txC := by rw [← List.flatMap_append, List.take_append_drop]
        have h7 : ((l.take j).flatMap txC).length = j * 4 := by rw [flat_len txC_len, List.length_take]; have := HN.out; omega
        rw [h6, List.getElem?_append_right (by omega), h7, Nat.add_sub_cancel_left]
      rw [← h5, ← HT.out, List.getElem?_take, if_pos (by omega), Array.getElem?_toList]
  have HSRC := Lib.hid hsrc
  have HSP := Lib.hid (show ∀ t, t < news.length → (w.drew.cell? ⟨g, 0 + i * 4 + t, none⟩).isSome = true ∧ w.drew.frozen? ⟨g, 0 + i * 4 + t, none⟩ = false from fun t ht => by
    rw [hnl] at ht
    refine ⟨?_, blkFrozen (show w.drew.heap[g]? = _ from HH.out) _⟩
    show (w.cell? ⟨g, 0 + i * 4 + t, none⟩).isSome = true
    rw [blkCell HH.out, Array.getElem?_eq_getElem (by omega)]
    rfl)
  obtain ⟨m, hm⟩ : ∃ m, m = i + (n - j) := ⟨_, rfl⟩
  have hmn : m < n := by have := HJ.out; omega
  have hmn1 : m + 1 = n := by have := HJ.out; omega
  obtain ⟨W1, hW1⟩ : ∃ W1, W1 = w.drew.setCells g (0 + i * 4) news := ⟨_, rfl⟩
  obtain ⟨cur1, k1, k2, k3⟩ := setCells_blk news (0 + i * 4) cur w.drew HH.out
  rw [← hW1] at k1
  have hcl := fun ty => run_clear_tx W1 g (m * 4) (n - m) (c - m) (by omega) (fun t ht => by rw [blkCell k1, Array.getElem?_eq_getElem (by omega)]; rfl) (fun t ht => blkFrozen k1 _) ty
  have HK1 := Lib.hid k1
  have HK2 := Lib.hid k2
  have HK3 := Lib.hid k3
  have HW1 := Lib.hid hW1
  have HM := Lib.hid hm
  have HNL := Lib.hid hnl
  have hroom : i + (n - j) ≤ c := by omega
  have hmc : (m : Int) ≤ (n : Int) := by omega
  have hmcc : (m : Int) ≤ (c : Int) := by omega
  have hmn2 : ¬ c = m := by omega
  clear hnews hsrc hm hmn1 hW1 k1 k2 k3 hnl hmn
  go_upto_region 5 with fail
  refine wp_region_held_drew (S := (fun _ => True)) (by kernel_rfl) ?_ (fun hHeld => ?_)
  · trivial
  refine tkW 0 (some 20) (v := ?_) rfl ?_ ?_
  rotate_left
  · intro u hSu; clear hSu; go_simp; (try with_reducible rfl)
  try simp only [Act.put, List.setIfInBounds_toArray, List.set_cons_zero, List.set_cons_succ]
  refine tkW 1 (some 21) (v := ?_) rfl ?_ ?_
  rotate_left
  · intro u hSu; clear hSu; go_simp; (try with_reducible rfl)
  try simp only [Act.put, List.setIfInBounds_toArray, List.set_cons_zero, List.set_cons_succ]
  refine tkW 2 (some 22) (v := ?_) rfl ?_ ?_
  rotate_left
  · intro u hSu; clear hSu; go_simp; (try with_reducible rfl)
  try simp only [Act.put, List.setIfInBounds_toArray, List.set_cons_zero, List.set_cons_succ]
  refine tkW 3 (some 23) (v := ?_) rfl ?_ ?_
  rotate_left
  · intro u hSu; clear hSu; go_simp; (try with_reducible rfl)
  try simp only [Act.put, List.setIfInBounds_toArray, List.set_cons_zero, List.set_cons_succ]
  refine tkW 4 (some 24) (v := ?_) rfl ?_ ?_
  rotate_left
  · intro u hSu; clear hSu; go_simp; (try with_reducible rfl)
  try simp only [Act.put, List.setIfInBounds_toArray, List.set_cons_zero, List.set_cons_succ]
  refine tkW 5 (some 25) (v := ?_) rfl ?_ ?_
  rotate_left
  · intro u hSu; clear hSu; go_simp; (try with_reducible rfl)
  try simp only [Act.put, List.setIfInBounds_toArray, List.set_cons_zero, List.set_cons_succ]
  refine rdH 6 (some 26) rfl (fun K hK => ?_)
  try rw [hAD]
  refine step_append_room rfl (.tmp 22) (.tmp 25) 35 rfl 45 i0 4 Tryz.underlying35 hi0 hz1 g 0 i c rfl AD (n - j) (c - j) news rfl HNL.out HSRC.out H1C.out hroom HSP.out ?_
  rw [← HW1.out, ← HM.out]
  refine hK.out _ _ ?_ (fun hHeld => ?_)
  · trivial
  clear hK K
  try simp only [Act.put, List.setIfInBounds_toArray, List.set_cons_zero, List.set_cons_succ]
  refine tkW 7 (some 0) (v := ?_) rfl ?_ ?_
  rotate_left
  · intro u hSu; clear hSu; go_simp; (try with_reducible rfl)
  try simp only [Act.put, List.setIfInBounds_toArray, List.set_cons_zero]
  refine wpAnyH_done (by kernel_rfl) ?_ _
  clear hHeld
  go_wp2_with fail
  go_ret
  obtain ⟨cur2, q1, q2, q3⟩ := setCells_blk (txZ (n - m)) (m * 4) cur1 W1 HK1.out
  have hnn := HN.out
  have hjj := HJ.out
  have hmm := HM.out
  have hk2 := HK2.out
  refine ⟨_, rfl, ?_, ?_⟩
  · have hlen : (l.take i ++ l.drop (i + 1)).length = m := by rw [List.length_append, List.length_take, List.length_drop]; omega
    show World.ownsRow _ B 45 4 _ (l.take i ++ l.drop (i + 1)).length ((l.take i ++ l.drop (i + 1)).flatMap txC)
    rw [hlen]
    refine ⟨by rw [flat_len txC_len, hlen], .inr ⟨g, c, cur2, rfl, hgB, q1, by omega, hmx, by rw [q2, hk2]; exact hsz, ?_⟩⟩
    have e1 : ((l.take i).flatMap txC).length = i * 4 := by rw [flat_len txC_len, List.length_take]; omega
    have e2 : l.flatMap txC = (l.take i).flatMap txC ++ (l.drop i).flatMap txC := by rw [← List.flatMap_append, List.take_append_drop]
    refine List.ext_getElem? fun t => ?_
    rw [List.getElem?_take]
    by_cases ht : t < m * 4
    · rw [if_pos ht, Array.getElem?_toList, q3, if_neg (by omega), HK3.out, List.flatMap_append]
      by_cases hti : t < i * 4
      · rw [if_neg (by omega), List.getElem?_append_left (by omega)]
        have h8 := congrArg (fun L => L[t]?) HT.out
        simp only [List.getElem?_take] at h8
        rw [if_pos (by omega), Array.getElem?_toList, e2, List.getElem?_append_left (by omega)] at h8
        exact h8
      · have hnl := HNL.out
        rw [if_pos (by omega), List.getElem?_append_right (by omega), e1, HNE.out, hjj]
        congr 1
        omega
    · rw [if_neg ht, List.getElem?_eq_none (by rw [flat_len txC_len, hlen]; omega)]
  · rw [HW1.out]
    exact (((Below.refl B w).drew).trans (setCells_below hgB _ _ _)).trans (setCells_below hgB _ _ _)
end Go.Proofs.YthfglhafphfhiaaGreat
