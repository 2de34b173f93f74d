/- The walks over package octet: numbers in bytes. -/
import Derived.Test.YtgbihdlahghonaaProg
import Derived.Test.YtgbihdlahghonaaOctPlain
import Derived.WalkKit
import Derived.WalkSpells
import Derived.WalkLawsBesides
import Derived.Lib.Hide
import Derived.Lib.ConvBytes
namespace Go.Proofs.Ytgbihdlahghonaa
open Go.RowKit

/-- One byte of the number, as the walk writes it. -/
def byteI (n : Int) (size i : Nat) : Int := IntKind.u64.wrap n / 2 ^ (8 * (size - 1 - i)) % 256
theorem wrap_word (n : Int) : IntKind.u64.wrap n = (Oct.word n : Int) := by
  show n % 18446744073709551616 = _
  unfold Oct.word; omega
theorem byteI_eq (n : Int) (size i : Nat) : byteI n size i = ((Oct.word n / 256 ^ (size - 1 - i) % 256 : Nat) : Int) := by
  have e : (256 : Nat) ^ (size - 1 - i) = 2 ^ (8 * (size - 1 - i)) := by rw [Nat.pow_mul]
  rw [byteI, wrap_word, e]
  simp
/-- The cells of the bytes that octet.Put makes, once k of them are stored. -/
def fillA (n : Int) (size k : Nat) : Array Value := ((List.range size).map fun i => Value.int .u8 (if i < k then byteI n size i else 0)).toArray

theorem Try.elem8 : (Try.prog.info? 5).map (fun i => (i.zero, i.size, i.bytes)) = some (some (.int .u8 0), 1, 1) := by kernel_rfl

theorem fillA_start (n : Int) (size : Nat) : madeCells (Value.int .u8 0).cells (size * 1) = fillA n size 0 := by
  apply Array.ext_getElem?
  intro i
  simp only [madeCells, fillA, Nat.mul_one]
  by_cases h : i < size
  · simp [h, Value.cells, Nat.mod_one]
  · simp [h]
theorem fillA_store (n : Int) (size k : Nat) (_hk : k < size) : (fillA n size k).setIfInBounds k (.int .u8 (byteI n size k)) = fillA n size (k + 1) := by
  apply Array.ext_getElem?
  intro i
  simp only [fillA, List.setIfInBounds_toArray, List.getElem?_toArray, List.getElem?_set, List.getElem?_map, List.length_map, List.length_range]
  by_cases hi : k = i
  · subst hi
    simp [_hk]
  · rw [if_neg hi]
    by_cases h : i < size
    · simp only [List.getElem?_range h, Option.map_some]
      by_cases h2 : i < k
      · rw [if_pos h2, if_pos (by omega)]
      · rw [if_neg h2, if_neg (by omega)]
    · simp [h]
theorem fillA_cell (n : Int) (size k j : Nat) (hj : j < size) : (fillA n size k)[j]? = some (.int .u8 (if j < k then byteI n size j else 0)) := by
  simp [fillA, hj]
theorem fillA_end (n : Int) (size j : Nat) (hj : j < (Oct.putL (Oct.word n) size).length) : (fillA n size size)[j]? = some (.int .u8 ((Oct.putL (Oct.word n) size)[j].toNat : Int)) := by
  have hl := Oct.putL_length (Oct.word n) size
  rw [fillA_cell n size size j (by omega), if_pos (by omega), byteI_eq]
  have h := Oct.putL_get size (Oct.word n) j (by omega)
  rw [List.getElem?_eq_getElem hj] at h
  injection h with h
  rw [h, UInt8.toNat_ofNat']
  have : Oct.word n / 256 ^ (size - 1 - j) % 256 % 2 ^ 8 = Oct.word n / 256 ^ (size - 1 - j) % 256 := by omega
  rw [this]

theorem make_run (n : Int) (size : Nat) (hs : size ≤ 8) (W : World) : (Instr.makeSlice 30 (.int .i64 (size : Int)) (.int .i64 (size : Int))).run Try.prog W = .ok (.slice (some ⟨W.heap.size, 0, none⟩) size size) (W.alloc (.cells (fillA n size 0) 5)) := by
  obtain ⟨i0, hi, hz0, hz1, hz2⟩ := info_parts Try.elem8
  have h := run_make (P := Try.prog) W 30 5 i0 (.int .u8 0) Try.underlying30 hi hz0 .i64 .i64 size size (by omega) (by omega) (by rw [hz2]; omega) (by omega)
  rw [hz1, Int.toNat_natCast, fillA_start n size] at h
  exact h

theorem convert_run (n : Int) (size : Nat) (w : World) : (convert 30 9 (.slice (some ⟨w.heap.size, 0, none⟩) size size)).run Try.prog (w.alloc (.cells (fillA n size size) 5)) = .ok (.string ⟨(Oct.putL (Oct.word n) size).toArray⟩) (w.alloc (.cells (fillA n size size) 5)) := by
  have hl := Oct.putL_length (Oct.word n) size
  have h := run_convert_bytes_back (P := Try.prog) (w.alloc (.cells (fillA n size size) 5)) 30 9 5 ⟨w.heap.size, 0, none⟩ size (Oct.putL (Oct.word n) size) Try.underlying30 Try.underlying5 Try.underlying9 (fun j hj => by
    have ha : (⟨w.heap.size, 0, none⟩ : Addr).add j = ⟨w.heap.size, j, none⟩ := by
      unfold Addr.add; split
      · rename_i h; rw [h]
      · simp
    rw [ha, World.cell?_alloc_new]
    exact fillA_end n size j hj)
  rw [hl] at h
  exact h

theorem put_walk (n : Int) (size : Nat) (hs : size ≤ 8) (w : World) :
    Calls Try.prog 106 #[.int .i64 n, .int .i64 size] w fun e w' => e = .returned (.string (Oct.putB n size)) ∧ Below w.heap.size w w' := by
  have hmk := make_run n size hs
  have HP := Lib.hid (show Oct.putB n size = ⟨(Oct.putL (Oct.word n) size).toArray⟩ from by rw [Oct.putB, if_neg (by omega), Int.toNat_natCast])
  go_enter Try.func106, Try.ntmps106
  go_wp2_with fail
  clear hmk
  go_loopw [17] (fun i wr => ∃ k : Nat, k ≤ size ∧ i = .int .i64 k ∧ wr = w.alloc (.cells (fillA n size k) 5)) (fun i _ => size - (intOf i).toNat)
  case atStart => exact ⟨0, Nat.zero_le _, rfl, rfl⟩
  case round =>
    obtain ⟨k, hk, rfl, rfl⟩ := hrel
    by_cases hlt : k < size
    · have hc : (fillA n size k)[k]? = some (.int .u8 0) := by rw [fillA_cell n size k k hlt, if_neg (by omega)]
      have HS := Lib.hid (fillA_store n size k hlt)
      go_wp2_with fail
      go_roundw
      case rel => exact ⟨k + 1, by omega, by go_num, by rw [← HS.out]; rfl⟩
      case measure => simp [intOf]; omega
    · obtain rfl : size = k := by omega
      have hcv := convert_run n size w
      go_wp2_with fail
      go_ret
      exact ⟨by rw [HP.out]; rfl, (Below.refl _ _).alloc (Nat.le_refl _) _⟩
/-- octet.Put, of as many bytes as fit. -/
theorem put_any (n size : Int) (h0 : 0 ≤ size) (h8 : size ≤ 8) (w : World) :
    Calls Try.prog 106 #[.int .i64 n, .int .i64 size] w fun e w' => e = .returned (.string (Oct.putB n size)) ∧ Below w.heap.size w w' := by
  obtain ⟨k, rfl⟩ := Int.eq_ofNat_of_zero_le h0
  exact put_walk n k (by omega) w

/-- The number of the first k bytes, as the walk carries it. -/
def accI (t : ByteArray) (k : Nat) : Int := (Oct.getL (t.data.toList.take k) : Int)

theorem or_step (x c : Nat) (hx : x < 72057594037927936) (hc : c < 256) : bits .or .u64 (IntKind.u64.wrap ((x : Int) * 256)) (IntKind.u64.wrap (c : Int)) = ((256 * x + c : Nat) : Int) := by
  rw [IntKind.wrap_u64, IntKind.wrap_u64, show (x : Int) * 256 % 18446744073709551616 = ((256 * x : Nat) : Int) by omega, show (c : Int) % 18446744073709551616 = (c : Int) by omega, bits_or_u64_nat _ _ (by omega) (by omega), Oct.or_byte x c hc]
theorem accI_step (t : ByteArray) (k : Nat) (hk : k < t.size) (h8 : k < 8) : bits .or .u64 (IntKind.u64.wrap (accI t k * 256)) (IntKind.u64.wrap ((t.data[k]?.getD 0).toNat : Int)) = accI t (k + 1) := by
  have hl : k < t.data.toList.length := by simpa using hk
  have e : t.data.toList[k]?.getD 0 = t.data[k]?.getD 0 := by simp
  unfold accI
  rw [Oct.getL_take _ k hl, e, or_step _ _ (Oct.getL_take_lt _ k h8) (t.data[k]?.getD 0).toNat_lt]
theorem wrap_int (u : Nat) (h : u < 18446744073709551616) : wrap64 (u : Int) = Oct.intOf u := by
  unfold Oct.intOf wrap64
  split <;> omega
theorem below_bytes (w : World) (e : TypeId) (s : ByteArray) : Below w.heap.size w (Lib.bytesWorld w e s) :=
  ⟨rfl, rfl, rfl, by rw [Lib.bytesWorld_size]; omega, fun j hj => Lib.bytesWorld_at_old w e s j hj⟩
theorem get_yes (s : ByteArray) (a size : Nat) (hs1 : 1 ≤ size) (hs8 : size ≤ 8) (hin : a + size ≤ s.size) (hm : s.size ≤ 281474976710656) (w : World) :
    Calls Try.prog 101 #[.string s, .int .i64 (a : Int), .int .i64 (size : Int)] w fun e w' => e = .returned (.tuple #[.int .i64 (Oct.intOf (Oct.getN s.data.toList a size)), .bool true]) ∧ Below w.heap.size w w' := by
  obtain ⟨t, ht⟩ : ∃ t : ByteArray, t = s.extract a (a + size) := ⟨_, rfl⟩
  have htl : t.data.toList = (s.data.toList.drop a).take size := by rw [ht]; simp
  have hts : t.size = size := by rw [ht, ByteArray.size_extract]; omega
  have hcv := fun W => Lib.run_convert_string_bytes (P := Try.prog) W 9 30 5 (s.extract a (a + size)) Try.underlying9 Try.underlying30 Try.underlying5
  have HT := Lib.hid ht
  have HL := Lib.hid htl
  have HS := Lib.hid hts
  clear ht htl hts
  go_enter Try.func101, Try.ntmps101
  go_wp2_with fail
  clear hcv
  generalize hwt : Lib.bytesWorld w 5 (s.extract a (a + size)) = wt
  have HW := Lib.hid hwt
  clear hwt
  have HC := Lib.hid (show ∀ k, k < size → wt.cell? ⟨w.heap.size, k, none⟩ = some (.int .u8 ((t.data.toList.getD k 0).toNat : Int)) from fun k hk => by
    rw [← HW.out, ← HT.out]
    exact Lib.bytesWorld_cell w 5 t k (by rw [HS.out]; exact hk))
  go_loop [8, 43] (fun n i => ∃ k : Nat, k ≤ size ∧ i = .int .i64 k ∧ n = .int .u64 (accI t k)) (fun _ i => size - (intOf i).toNat)
  case atStart => exact ⟨0, Nat.zero_le _, rfl, rfl⟩
  case round =>
    obtain ⟨k, hk, rfl, rfl⟩ := hrel
    by_cases hlt : k < size
    · have hc := HC.out k hlt
      have HA := Lib.hid (accI_step t k (by rw [HS.out]; exact hlt) (by omega))
      go_wp2_with fail
      go_round
      case rel => exact ⟨k + 1, by omega, by go_num, by rw [HA.out]⟩
      case measure => simp [intOf]; omega
    · obtain rfl : size = k := by omega
      have HE := Lib.hid (show wrap64 (accI t size) = Oct.intOf (Oct.getN s.data.toList a size) by
        have h1 : t.data.toList.take size = t.data.toList := List.take_of_length_le (by have := HS.out; simp; omega)
        have h2 : Oct.getL t.data.toList < 18446744073709551616 := by
          have := Oct.getL_lt t.data.toList
          have h3 : 256 ^ t.data.toList.length ≤ 256 ^ 8 := Nat.pow_le_pow_right (by omega) (by have := HS.out; simp; omega)
          omega
        rw [accI, h1, wrap_int _ h2, HL.out]; rfl)
      go_wp2_with fail
      go_ret2
      refine ⟨by rw [← HE.out]; rfl, ?_⟩
      rw [← HW.out]
      exact below_bytes _ _ _

theorem get_no (s : ByteArray) (a size : Int) (hm : s.size ≤ 281474976710656) (hb1 : -4611686018427387904 ≤ a) (hb2 : a ≤ 4611686018427387904) (hn : Oct.there s.size a size = false) (w : World) :
    Calls Try.prog 101 #[.string s, .int .i64 a, .int .i64 size] w fun e w' => e = .returned (.tuple #[.int .i64 0, .bool false]) ∧ w = w' := by
  have hcase : size < 1 ∨ (1 ≤ size ∧ 8 < size) ∨ (1 ≤ size ∧ size ≤ 8 ∧ a < 0) ∨ (1 ≤ size ∧ size ≤ 8 ∧ 0 ≤ a ∧ (s.size : Int) < a) ∨ (1 ≤ size ∧ size ≤ 8 ∧ 0 ≤ a ∧ a ≤ (s.size : Int) ∧ (s.size : Int) - a < size) := by
    simp only [Oct.there, Bool.and_eq_false_iff, decide_eq_false_iff_not] at hn
    omega
  clear hn
  rcases hcase with h | ⟨h1, h2⟩ | ⟨h1, h2, h3⟩ | ⟨h1, h2, h3, h4⟩ | ⟨h1, h2, h3, h4, h5⟩
  all_goals
    go_enter Try.func101, Try.ntmps101
    go_wp2_with fail
    go_ret2
    exact ⟨rfl, rfl⟩

theorem xor_byte (n : Nat) (c : UInt8) (hn : n < 4294967296) : bits .xor .u32 (n : Int) ((c.toNat : Int) % 4294967296) = ((n ^^^ c.toNat : Nat) : Int) := by
  have := c.toNat_lt
  rw [show (c.toNat : Int) % 4294967296 = (c.toNat : Int) by omega, u32_xor_nat _ _ hn (by omega)]
/-- A sum's own arithmetic: one bit. -/
theorem and_one (n : Nat) (hn : n < 4294967296) : bits .and .u32 (n : Int) 1 = ((n % 2 : Nat) : Int) := by
  have h := u32_and_nat n 1 hn (by omega)
  rw [Nat.and_one_is_mod] at h
  exact h
theorem crc_bit (n : Nat) (hn : n < 4294967296) : bits .xor .u32 ((n : Int) / 2) (3988292384 * bits .and .u32 (n : Int) 1 % 4294967296) = (Oct.bit1 n : Int) := by
  rw [and_one n hn]
  unfold Oct.bit1
  by_cases h : n % 2 = 1
  · rw [if_pos h, h, show (3988292384 * ((1 : Nat) : Int)) % 4294967296 = ((3988292384 : Nat) : Int) by omega, show (n : Int) / 2 = ((n / 2 : Nat) : Int) by omega, u32_xor_nat _ _ (by omega) (by omega)]
  · have h0 : n % 2 = 0 := by omega
    rw [if_neg h, h0, show (3988292384 * ((0 : Nat) : Int)) % 4294967296 = ((0 : Nat) : Int) by omega, show (n : Int) / 2 = ((n / 2 : Nat) : Int) by omega, u32_xor_nat _ _ (by omega) (by omega), Nat.xor_zero]
theorem crc_not (n : Nat) (hn : n < 4294967296) : wrap64 (bits .xor .u32 IntKind.u32.max (n : Int)) = ((n ^^^ 4294967295 : Nat) : Int) := by
  have hx : 4294967295 ^^^ n < 2 ^ 32 := Nat.xor_lt_two_pow (by omega) hn
  have h := u32_xor_nat 4294967295 n (by omega) hn
  rw [show IntKind.u32.max = ((4294967295 : Nat) : Int) from rfl, h, Nat.xor_comm]
  rw [Nat.xor_comm] at hx
  exact IntWalk.wrap64_in _ ⟨by omega, by omega⟩
theorem crc_snoc (s : ByteArray) (k : Nat) (h : k < s.size) : Oct.crcFrom 4294967295 (s.data.toList.take (k + 1)) = Oct.crcByte (Oct.crcFrom 4294967295 (s.data.toList.take k)) s[k] := by
  rw [List.take_succ_eq_append_getElem (by simpa using h), Oct.crcFrom_snoc]; rfl

set_option maxHeartbeats 400000 in
theorem sum_any (s : ByteArray) (hm : s.size ≤ 281474976710656) (w : World) :
    Calls Try.prog 110 #[.string s] w fun e w' => e = .returned (.int .i64 (Oct.sumN s.data.toList)) ∧ w = w' := by
  go_enter Try.func110, Try.ntmps110
  go_wp2_with fail
  go_loop [3, 4] (fun n i => ∃ k : Nat, k ≤ s.size ∧ i = .int .i64 k ∧ n = .int .u32 (Oct.crcFrom 4294967295 (s.data.toList.take k))) (fun _ i => s.size - (intOf i).toNat)
  case atStart => exact ⟨0, Nat.zero_le _, rfl, rfl⟩
  case round =>
    obtain ⟨k, hk, rfl, rfl⟩ := hrel
    have hr := Oct.crcFrom_lt (s.data.toList.take k) (n := 4294967295) (by omega)
    by_cases hlt : k < s.size
    · have HX := Lib.hid (xor_byte (Oct.crcFrom 4294967295 (s.data.toList.take k)) s[k] hr)
      have hr2 : Oct.crcFrom 4294967295 (s.data.toList.take k) ^^^ s[k].toNat < 4294967296 := Nat.xor_lt_two_pow (n := 32) hr (by have := s[k].toNat_lt; omega)
      have HN := Lib.hid (crc_snoc s k hlt)
      go_wp2_with fail
      rw [HX.out]
      generalize hg : Oct.crcFrom 4294967295 (s.data.toList.take k) ^^^ s[k].toNat = r0 at hr2 ⊢
      have HG := Lib.hid hg
      clear hg
      go_loop [3, 18] (fun n i => ∃ j : Nat, j ≤ 8 ∧ i = .int .i64 j ∧ n = .int .u32 (Oct.bits8 j r0)) (fun _ i => 8 - (intOf i).toNat)
      case atStart => exact ⟨0, Nat.zero_le _, rfl, rfl⟩
      case round =>
        obtain ⟨j, hj, rfl, rfl⟩ := hrel
        have hb := Oct.bits8_lt j hr2
        by_cases hjt : j < 8
        · have HB := Lib.hid (crc_bit (Oct.bits8 j r0) hb)
          have HB2 := Lib.hid (Oct.bits8_succ j r0)
          go_wp2_with fail
          go_round
          case rel => exact ⟨j + 1, by omega, by go_num, by rw [HB2.out, ← HB.out]⟩
          case measure => simp [intOf]; omega
        · obtain rfl : j = 8 := by omega
          go_wp2_with fail
          go_round
          case rel => exact ⟨k + 1, by omega, by go_num, by rw [HN.out, Oct.crcByte, HG.out]⟩
          case measure => simp [intOf]; omega
    · obtain rfl : k = s.size := by omega
      go_wp2_with fail
      have HF := Lib.hid (crc_not _ hr)
      have HA := Lib.hid (show Oct.crcFrom 4294967295 (s.data.toList.take s.size) ^^^ 4294967295 = Oct.sumN s.data.toList by rw [List.take_of_length_le (by simp)]; rfl)
      go_ret
      exact ⟨by rw [← HA.out, ← HF.out]; rfl, rfl⟩
end Go.Proofs.Ytgbihdlahghonaa
