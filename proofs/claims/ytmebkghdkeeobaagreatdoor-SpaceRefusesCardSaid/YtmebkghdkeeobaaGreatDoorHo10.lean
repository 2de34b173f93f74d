import Derived.Test.YtmebkghdkeeobaaGreatDoorHo00
import Derived.Lib.Small
set_option maxRecDepth 100000
set_option maxHeartbeats 16000000
set_option linter.unusedSimpArgs false
namespace Sc
def bit (b : ByteArray) (p : Nat) : Bool := (b.data.toList[p / 8]?.getD 0).toNat.testBit (p % 8)
def flipB (b : ByteArray) (p : Nat) : ByteArray := ⟨(b.data.toList.set (p / 8) (UInt8.ofNat ((b.data.toList[p / 8]?.getD 0).toNat ^^^ 2 ^ (p % 8)))).toArray⟩
theorem flip_size (b : ByteArray) (p : Nat) : (flipB b p).size = b.size := by
  show (List.set _ _ _).toArray.size = b.data.size
  simp
theorem xor_small (x : UInt8) {k : Nat} (hk : k < 8) : x.toNat ^^^ 2 ^ k < 256 := by
  have h1 : x.toNat < 2 ^ 8 := x.toNat_lt
  have h2 : 2 ^ k < 2 ^ 8 := Nat.pow_lt_pow_right (by omega) hk
  exact Nat.xor_lt_two_pow h1 h2
theorem bit_flip {b : ByteArray} {p : Nat} (h : p / 8 < b.size) (q : Nat) : bit (flipB b p) q = if q = p then !bit b p else bit b q := by
  have hl : p / 8 < b.data.toList.length := by simpa using h
  have hs := xor_small (b.data.toList[p / 8]?.getD 0) (k := p % 8) (by omega)
  unfold bit
  show ((b.data.toList.set (p / 8) _)[q / 8]?.getD 0).toNat.testBit (q % 8) = _
  by_cases e : p / 8 = q / 8
  · rw [← e, List.getElem?_set_self hl, Option.getD_some]
    rw [show (UInt8.ofNat ((b.data.toList[p / 8]?.getD 0).toNat ^^^ 2 ^ (p % 8))).toNat = (b.data.toList[p / 8]?.getD 0).toNat ^^^ 2 ^ (p % 8) from by rw [UInt8.toNat_ofNat']; exact Nat.mod_eq_of_lt hs]
    rw [Nat.testBit_xor, Nat.testBit_two_pow]
    by_cases hq : q = p
    · subst hq
      rw [if_pos rfl, decide_eq_true rfl, Bool.xor_true]
    · rw [if_neg hq, decide_eq_false (by omega), Bool.xor_false]
  · rw [List.getElem?_set_ne e, if_neg (by intro h; exact e (by rw [h]))]
def freshB (m : Nat) : ByteArray := ⟨(1 :: List.replicate (m - 1) 0).toArray⟩
theorem fresh_size {m : Nat} (h : 1 ≤ m) : (freshB m).size = m := by
  show (1 :: List.replicate (m - 1) (0 : UInt8)).toArray.size = m
  simp; omega
theorem fresh_bit (m q : Nat) : bit (freshB m) q = decide (q = 0) := by
  unfold bit
  show (((1 : UInt8) :: List.replicate (m - 1) 0)[q / 8]?.getD 0).toNat.testBit (q % 8) = _
  by_cases h : q / 8 = 0
  · rw [h]
    show (1 : Nat).testBit (q % 8) = _
    rw [show (1 : Nat) = 2 ^ 0 from rfl, Nat.testBit_two_pow]
    by_cases h0 : q = 0
    · subst h0; rfl
    · rw [decide_eq_false (by omega), decide_eq_false h0]
  · obtain ⟨j, hj⟩ : ∃ j, q / 8 = j + 1 := ⟨q / 8 - 1, by omega⟩
    rw [hj, List.getElem?_cons_succ, decide_eq_false (by omega)]
    by_cases hm : j < m - 1
    · rw [List.getElem?_replicate, if_pos hm]
      show (0 : Nat).testBit _ = _
      exact Nat.zero_testBit _
    · rw [List.getElem?_eq_none (by simp; omega)]
      exact Nat.zero_testBit _
end Sc
