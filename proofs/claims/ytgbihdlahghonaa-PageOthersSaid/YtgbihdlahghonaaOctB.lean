/- The walks over the reference of chapter 5: numbers in bytes, the sum. -/
import Derived.Test.YtgbihdlahghonaaOctA
namespace Go.Proofs.Ytgbihdlahghonaa
open Go.RowKit

/-- What the reference's Put has gathered after k rounds. -/
theorem putL_step (u k : Nat) : Oct.putL u (k + 1) = UInt8.ofNat (u / 256 ^ k % 256) :: Oct.putL u k := by
  induction k generalizing u with
  | zero => simp [Oct.putL]
  | succ k ih =>
    rw [Oct.putL, ih, Oct.putL]
    simp only [List.cons_append]
    rw [Nat.div_div_eq_div_mul, Nat.pow_succ, Nat.mul_comm 256]

/-- string([]byte{c}). -/
theorem one_byte (c : Nat) (hc : c < 256) (W : World) : (convert 30 9 (.slice (some ⟨W.heap.size, 0, none⟩) 1 1)).run Try.prog (W.alloc (.cells #[.int .u8 (c : Int)] 5)) = .ok (.string ⟨#[UInt8.ofNat c]⟩) (W.alloc (.cells #[.int .u8 (c : Int)] 5)) := by
  have h := run_convert_bytes_back (P := Try.prog) (W.alloc (.cells #[.int .u8 (c : Int)] 5)) 30 9 5 ⟨W.heap.size, 0, none⟩ 1 [UInt8.ofNat c] Try.underlying30 Try.underlying5 Try.underlying9 (fun j hj => by
    obtain rfl : j = 0 := by simpa using hj
    show World.cell? _ ⟨W.heap.size, 0, none⟩ = _
    rw [World.cell?_alloc_new]
    have e : (UInt8.ofNat c).toNat = c := by rw [UInt8.toNat_ofNat']; omega
    simp [e])
  exact h

theorem rput_walk (n : Int) (size : Nat) (hs : size ≤ 8) (w : World) :
    Calls Try.prog 82 #[.int .i64 n, .int .i64 size] w fun e w' => e = .returned (.string (Oct.putB n size)) ∧ Below w.heap.size w w' := by
  have HP := Lib.hid (show Oct.putB n size = ⟨(Oct.putL (Oct.word n) size).toArray⟩ from by rw [Oct.putB, if_neg (by omega), Int.toNat_natCast])
  go_enter Try.func82, Try.ntmps82
  go_wp2_with fail
  go_loopw [5, 6, 7] (fun o u i wr => ∃ k x : Nat, k ≤ size ∧ i = .int .i64 k ∧ u = .int .u64 (x : Int) ∧ x = Oct.word n / 256 ^ k ∧ o = .string ⟨(Oct.putL (Oct.word n) k).toArray⟩ ∧ Below w.heap.size w wr) (fun _ _ i _ => size - (intOf i).toNat)
  case atStart => exact ⟨0, Oct.word n, Nat.zero_le _, rfl, by rw [← wrap_word], by simp, rfl, Below.refl _ _⟩
  case round =>
    obtain ⟨k, x, hk, rfl, rfl, hx, rfl, hb⟩ := hrel
    have HX := Lib.hid hx
    have hxl : x < 18446744073709551616 := by
      rw [hx]; exact Nat.lt_of_le_of_lt (Nat.div_le_self _ _) (Oct.word_lt n)
    clear hx
    by_cases hlt : k < size
    · obtain ⟨c, hc⟩ : ∃ c : Nat, c = x % 256 := ⟨_, rfl⟩
      obtain ⟨y, hy⟩ : ∃ y : Nat, y = x / 256 := ⟨_, rfl⟩
      have hand : bits .and .u64 (x : Int) 255 = (c : Int) := by
        have h := bits_and_u64_nat x 255 hxl (by omega)
        rw [show x &&& 255 = x % 256 from Nat.and_two_pow_sub_one_eq_mod x 8, ← hc] at h
        exact h
      have hdiv : (x : Int) / 256 = (y : Int) := by omega
      have hc256 : c < 256 := by omega
      have hci : (c : Int) < 256 := by omega
      have hmod : (c : Int) % 256 = (c : Int) := by omega
      have hcv := one_byte c hc256
      have hsz : (Oct.putL (Oct.word n) k).length ≤ 8 := by rw [Oct.putL_length]; omega
      generalize hl : Oct.putL (Oct.word n) k = l at hsz ⊢
      have HL := Lib.hid hl
      have HC := Lib.hid hc
      have HY := Lib.hid hy
      clear hl hc hy
      obtain ⟨t, ht⟩ : ∃ t : ByteArray, t = ⟨l.toArray⟩ := ⟨_, rfl⟩
      have hadd : ∀ W : World, (Op.stringOp .add ⟨#[UInt8.ofNat c]⟩ t).run Try.prog W = .ok (.string (⟨#[UInt8.ofNat c]⟩ ++ t)) W := fun W => run_string_add_sum W _ _ (by
        rw [ht]
        show 1 + l.toArray.size ≤ _
        simp; omega)
      rw [← ht]
      have HT := Lib.hid ht
      clear ht
      go_wp2_with fail
      go_roundw
      case rel => exact ⟨k + 1, y, by omega, by go_num, rfl, by rw [HY.out, HX.out, Nat.pow_succ, Nat.div_div_eq_div_mul], by
        rw [putL_step, HL.out, HT.out, HC.out, HX.out]
        exact congrArg Value.string (ByteArray.ext (by simp)), hb.alloc hb.size _⟩
      case measure => simp [intOf]; omega
    · obtain rfl : size = k := by omega
      go_wp2_with fail
      go_ret
      exact ⟨by rw [HP.out]; rfl, hb⟩
theorem rput_any (n size : Int) (h0 : 0 ≤ size) (h8 : size ≤ 8) (w : World) :
    Calls Try.prog 82 #[.int .i64 n, .int .i64 size] w fun e w' => e = .returned (.string (Oct.putB n size)) ∧ Below w.heap.size w w' := by
  obtain ⟨k, rfl⟩ := Int.eq_ofNat_of_zero_le h0
  exact rput_walk n k (by omega) w

theorem there_yes (len : Nat) (s : ByteArray) (a size : Nat) (hl : len = s.size) (hin : a + size ≤ s.size) (hm : s.size ≤ 281474976710656) (w : World) :
    Calls Try.prog 121 #[.string s, .int .i64 (a : Int), .int .i64 (size : Int)] w fun e w' => e = .returned (.bool true) ∧ w = w' := by
  clear hl
  go_enter Try.func121, Try.ntmps121
  go_wp2_with fail
  go_ret
  exact ⟨congrArg (fun b => Ending.returned (.bool b)) (decide_eq_true (by omega)), rfl⟩

theorem rget_yes (s : ByteArray) (a size : Nat) (hs1 : 1 ≤ size) (hs8 : size ≤ 8) (hin : a + size ≤ s.size) (hm : s.size ≤ 281474976710656) (w : World) :
    Calls Try.prog 102 #[.string s, .int .i64 (a : Int), .int .i64 (size : Int)] w fun e w' => e = .returned (.tuple #[.int .i64 (Oct.intOf (Oct.getN s.data.toList a size)), .bool true]) ∧ w = w' := by
  obtain ⟨t, ht⟩ : ∃ t : ByteArray, t = s.extract a (a + size) := ⟨_, rfl⟩
  have htl : t.data.toList = (s.data.toList.drop a).take size := by rw [ht]; simp
  have hts : t.size = size := by rw [ht, ByteArray.size_extract]; omega
  have hlt : ∀ k, k < size → a + k < s.size := fun k h => by omega
  have htb : ∀ k (h : k < size), (t.data[k]?.getD 0) = s[a + k]'(hlt k h) := by
    intro k h
    have h1 : t.data.toList[k]? = s.data.toList[a + k]? := by
      rw [htl, List.getElem?_take_of_lt h, List.getElem?_drop]
    have h2 : t.data[k]? = s.data[a + k]? := by simpa using h1
    rw [h2, Array.getElem?_eq_getElem (show a + k < s.data.size from by show a + k < s.size; omega)]
    rfl
  have HT := Lib.hid htb
  have HL := Lib.hid htl
  have HS := Lib.hid hts
  clear ht htl hts htb
  go_enter Try.func102, Try.ntmps102
  go_wp2_with (go_at_call 121; refine (there_yes _ s a size rfl hin hm _).mono ?_; rintro e w' ⟨rfl, rfl⟩)
  go_loop [8, 9] (fun n i => ∃ k : Nat, k ≤ size ∧ i = .int .i64 k ∧ n = .int .u64 (accI t k)) (fun _ i => size - (intOf i).toNat)
  case atStart => exact ⟨0, Nat.zero_le _, rfl, rfl⟩
  case round =>
    obtain ⟨k, hk, rfl, rfl⟩ := hrel
    by_cases hlt : k < size
    · have HA := Lib.hid (accI_step t k (by rw [HS.out]; exact hlt) (by omega))
      have HB := Lib.hid (HT.out k hlt)
      go_wp2_with fail
      go_round
      case rel => exact ⟨k + 1, by omega, by go_num, by rw [← HA.out, HB.out]⟩
      case measure => simp [intOf]; omega
    · obtain rfl : size = k := by omega
      have HE := Lib.hid (show wrap64 (accI t size) = Oct.intOf (Oct.getN s.data.toList a size) by
        have h1 : t.data.toList.take size = t.data.toList := List.take_of_length_le (by have := HS.out; simp; omega)
        have h2 : Oct.getL t.data.toList < 18446744073709551616 := by
          have := Oct.getL_lt t.data.toList
          have h3 : 256 ^ t.data.toList.length ≤ 256 ^ 8 := Nat.pow_le_pow_right (by omega) (by have := HS.out; simp; omega)
          omega
        rw [accI, h1, wrap_int _ h2, HL.out]; rfl)
      go_wp2_with fail
      go_ret2
      exact ⟨by rw [← HE.out]; rfl, rfl⟩

theorem step_any (n : Nat) (hn : n < 4294967296) (w : World) :
    Calls Try.prog 111 #[.int .u64 (n : Int)] w fun e w' => e = .returned (.int .u64 (Oct.bit1 n : Int)) ∧ w = w' := by
  have hand : bits .and .u64 (n : Int) 1 = ((n % 2 : Nat) : Int) := by
    have h := bits_and_u64_nat n 1 (by omega) (by omega)
    rw [Nat.and_one_is_mod] at h
    exact h
  by_cases h : n % 2 = 1
  · rw [h] at hand
    have hx := bits_xor_u64_nat (n / 2) 3988292384 (by omega) (by omega)
    have HX := Lib.hid (show bits .xor .u64 ((n : Int) / 2) 3988292384 = (Oct.bit1 n : Int) by rw [Oct.bit1, if_pos h, ← hx]; simp)
    clear hx h
    go_enter Try.func111, Try.ntmps111
    go_wp2_with fail
    go_ret
    exact ⟨by rw [← HX.out]; rfl, rfl⟩
  · have h0 : n % 2 = 0 := by omega
    rw [h0] at hand
    have HX := Lib.hid (show (n : Int) / 2 = (Oct.bit1 n : Int) by rw [Oct.bit1, if_neg h]; simp)
    clear h h0
    go_enter Try.func111, Try.ntmps111
    go_wp2_with fail
    go_ret
    exact ⟨by rw [← HX.out]; rfl, rfl⟩

theorem xor_byte64 (n : Nat) (c : UInt8) (hn : n < 4294967296) : bits .xor .u64 (n : Int) (IntKind.u64.wrap (c.toNat : Int)) = ((n ^^^ c.toNat : Nat) : Int) := by
  have := c.toNat_lt
  rw [IntKind.wrap_u64, show (c.toNat : Int) % 18446744073709551616 = (c.toNat : Int) by omega, bits_xor_u64_nat _ _ (by omega) (by omega)]
theorem crc_not64 (n : Nat) (hn : n < 4294967296) : wrap64 (bits .xor .u64 (n : Int) 4294967295) = ((n ^^^ 4294967295 : Nat) : Int) := by
  have hx : n ^^^ 4294967295 < 2 ^ 32 := Nat.xor_lt_two_pow hn (by omega)
  have h := bits_xor_u64_nat n 4294967295 (by omega) (by omega)
  rw [show (4294967295 : Int) = ((4294967295 : Nat) : Int) from rfl, h]
  exact IntWalk.wrap64_in _ ⟨by omega, by omega⟩

set_option maxHeartbeats 400000 in
theorem rsum_any (s : ByteArray) (hm : s.size ≤ 281474976710656) (w : World) :
    Calls Try.prog 83 #[.string s] w fun e w' => e = .returned (.int .i64 (Oct.sumN s.data.toList)) ∧ w = w' := by
  go_enter Try.func83, Try.ntmps83
  go_wp2_with fail
  go_loop [3, 4] (fun n i => ∃ k : Nat, k ≤ s.size ∧ i = .int .i64 k ∧ n = .int .u64 (Oct.crcFrom 4294967295 (s.data.toList.take k))) (fun _ i => s.size - (intOf i).toNat)
  case atStart => exact ⟨0, Nat.zero_le _, rfl, rfl⟩
  case round =>
    obtain ⟨k, hk, rfl, rfl⟩ := hrel
    have hr := Oct.crcFrom_lt (s.data.toList.take k) (n := 4294967295) (by omega)
    by_cases hlt : k < s.size
    · have HX := Lib.hid (xor_byte64 (Oct.crcFrom 4294967295 (s.data.toList.take k)) s[k] hr)
      have hr2 : Oct.crcFrom 4294967295 (s.data.toList.take k) ^^^ s[k].toNat < 4294967296 := Nat.xor_lt_two_pow (n := 32) hr (by have := s[k].toNat_lt; omega)
      have HN := Lib.hid (crc_snoc s k hlt)
      go_wp2_with fail
      rw [HX.out]
      generalize hg : Oct.crcFrom 4294967295 (s.data.toList.take k) ^^^ s[k].toNat = r0 at hr2 ⊢
      have HG := Lib.hid hg
      clear hg
      go_loop [3, 5] (fun n i => ∃ j : Nat, j ≤ 8 ∧ i = .int .i64 j ∧ n = .int .u64 (Oct.bits8 j r0)) (fun _ i => 8 - (intOf i).toNat)
      case atStart => exact ⟨0, Nat.zero_le _, rfl, rfl⟩
      case round =>
        obtain ⟨j, hj, rfl, rfl⟩ := hrel
        have hb := Oct.bits8_lt j hr2
        by_cases hjt : j < 8
        · have HB2 := Lib.hid (Oct.bits8_succ j r0)
          go_wp2_with (go_at_call 111; refine (step_any _ hb _).mono ?_; rintro e w' ⟨rfl, rfl⟩)
          go_round
          case rel => exact ⟨j + 1, by omega, by go_num, by rw [HB2.out]⟩
          case measure => simp [intOf]; omega
        · obtain rfl : j = 8 := by omega
          go_wp2_with fail
          go_round
          case rel => exact ⟨k + 1, by omega, by go_num, by rw [HN.out, Oct.crcByte, HG.out]⟩
          case measure => simp [intOf]; omega
    · obtain rfl : k = s.size := by omega
      have HF := Lib.hid (crc_not64 _ hr)
      have HA := Lib.hid (show Oct.crcFrom 4294967295 (s.data.toList.take s.size) ^^^ 4294967295 = Oct.sumN s.data.toList by rw [List.take_of_length_le (by simp)]; rfl)
      go_wp2_with fail
      go_ret
      exact ⟨by rw [← HA.out, ← HF.out]; rfl, rfl⟩
end Go.Proofs.Ytgbihdlahghonaa
