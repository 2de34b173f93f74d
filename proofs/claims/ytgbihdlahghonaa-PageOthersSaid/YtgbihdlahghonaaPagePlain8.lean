/- The plain laws of pages: the room; one byte that turns is told by the sum. -/
import Derived.Test.YtgbihdlahghonaaPagePlain7
namespace Oct
theorem xor_cancel {a b c : Nat} (h : a ^^^ c = b ^^^ c) : a = b := by
  have h1 := congrArg (fun x => x ^^^ c) h
  simpa [Nat.xor_assoc] using h1
theorem bit1_top {n : Nat} (h : n < 4294967296) : (2147483648 ≤ bit1 n) ↔ n % 2 = 1 := by
  unfold bit1
  have key : ∀ m, m < 2147483648 → 2147483648 ≤ m ^^^ 3988292384 := by
    intro m hm
    rcases Nat.lt_or_ge (m ^^^ 3988292384) 2147483648 with h1 | h1
    · exfalso
      have h2 : (m ^^^ (m ^^^ 3988292384)) < 2 ^ 31 := Nat.xor_lt_two_pow (by omega) (by omega)
      rw [← Nat.xor_assoc, Nat.xor_self, Nat.zero_xor] at h2
      omega
    · exact h1
  split
  · rename_i h1
    exact ⟨fun _ => h1, fun _ => key _ (by omega)⟩
  · rename_i h1
    exact ⟨fun h2 => by omega, fun h2 => absurd h2 h1⟩
theorem bit1_inj {n m : Nat} (hn : n < 4294967296) (hm : m < 4294967296) (h : bit1 n = bit1 m) : n = m := by
  have h1 := bit1_top hn
  have h2 := bit1_top hm
  rw [h] at h1
  unfold bit1 at h
  by_cases hp : n % 2 = 1
  · have hq : m % 2 = 1 := h2.1 (h1.2 hp)
    rw [if_pos hp, if_pos hq] at h
    have := xor_cancel h
    omega
  · have hq : ¬ m % 2 = 1 := fun hq => hp (h1.1 (h2.2 hq))
    rw [if_neg hp, if_neg hq] at h
    omega
theorem bits8_inj (k : Nat) : ∀ {n m : Nat}, n < 4294967296 → m < 4294967296 → bits8 k n = bits8 k m → n = m := by
  induction k with
  | zero => intro n m _ _ h; exact h
  | succ k ih =>
    intro n m hn hm h
    exact bit1_inj hn hm (ih (bit1_lt hn) (bit1_lt hm) h)
theorem xor_byte_lt {n : Nat} (h : n < 4294967296) (c : UInt8) : n ^^^ c.toNat < 4294967296 :=
  Nat.xor_lt_two_pow (n := 32) h (by have := c.toNat_lt; omega)
theorem crcByte_inj {n m : Nat} (hn : n < 4294967296) (hm : m < 4294967296) (c : UInt8) (h : crcByte n c = crcByte m c) : n = m :=
  xor_cancel (bits8_inj 8 (xor_byte_lt hn c) (xor_byte_lt hm c) h)
theorem crcByte_byte {n : Nat} (hn : n < 4294967296) {c d : UInt8} (h : crcByte n c = crcByte n d) : c = d := by
  have h1 := bits8_inj 8 (xor_byte_lt hn c) (xor_byte_lt hn d) h
  rw [Nat.xor_comm n, Nat.xor_comm n] at h1
  exact UInt8.toNat_inj.1 (xor_cancel h1)
theorem crcFrom_inj (l : List UInt8) : ∀ {n m : Nat}, n < 4294967296 → m < 4294967296 → crcFrom n l = crcFrom m l → n = m := by
  induction l with
  | nil => intro n m _ _ h; exact h
  | cons c l ih =>
    intro n m hn hm h
    exact crcByte_inj hn hm c (ih (crcByte_lt hn c) (crcByte_lt hm c) h)
theorem crcFrom_app (n : Nat) (a b : List UInt8) : crcFrom n (a ++ b) = crcFrom (crcFrom n a) b := by
  unfold crcFrom; rw [List.foldl_append]
/-- One byte that turns, turns the sum. -/
theorem sumN_byte (a b : List UInt8) (c d : UInt8) (h : sumN (a ++ c :: b) = sumN (a ++ d :: b)) : c = d := by
  have h1 : crcFrom 4294967295 (a ++ c :: b) = crcFrom 4294967295 (a ++ d :: b) := xor_cancel h
  rw [crcFrom_app, crcFrom_app] at h1
  have ha : crcFrom 4294967295 a < 4294967296 := crcFrom_lt a (by omega)
  have h2 : crcFrom (crcByte (crcFrom 4294967295 a) c) b = crcFrom (crcByte (crcFrom 4294967295 a) d) b := h1
  exact crcByte_byte ha (crcFrom_inj b (crcByte_lt ha c) (crcByte_lt ha d) h2)
theorem word4_inj {n m : Nat} (hn : n < 4294967296) (hm : m < 4294967296) (h : putL (word n) 4 = putL (word m) 4) : n = m := by
  have h1 := congrArg getL h
  rw [getL_putL, getL_putL, word_nat n (by omega), word_nat m (by omega)] at h1
  omega
end Oct
namespace Go.Proofs.Ytgbihdlahghonaa
open Go.RowKit

/-- A page with its sum, of which one byte is another one, is no page with its sum. -/
theorem turned_no {s b : ByteArray} {k : Nat} {c d : UInt8} (hs : sealedP s = true) (hz : s.size = 512) {l1 l2 : List UInt8} (h1 : s.data.toList = l1 ++ c :: l2) (h2 : b.data.toList = l1 ++ d :: l2) (hk : l1.length = k) (hcd : c ≠ d) : sealedP b = false := by
  have hbz : b.size = 512 := by
    rw [← size_list, h2]
    have := size_list s
    rw [h1, hz] at this
    simpa using this
  cases hb : sealedP b with
  | false => rfl
  | true =>
    exfalso
    unfold sealedP at hs hb
    rw [Bool.and_eq_true] at hs hb
    have e1 := congrArg (fun q => q.data.toList) (of_decide_eq_true hs.2)
    have e2 := congrArg (fun q => q.data.toList) (of_decide_eq_true hb.2)
    simp only [sealT_list, extract_list _ hz, extract_list _ hbz] at e1 e2
    by_cases hk4 : k < 4
    · have hd : s.data.toList.drop 4 = b.data.toList.drop 4 := by
        rw [h1, h2, List.drop_append, List.drop_append, hk]
        obtain ⟨m, hm⟩ : ∃ m, 4 - k = m + 1 := ⟨3 - k, by omega⟩
        rw [hm, List.drop_succ_cons, List.drop_succ_cons]
      rw [hd, e2] at e1
      rw [h1, h2] at e1
      have h3 := List.append_cancel_left e1
      injection h3 with h4 _
      exact hcd h4.symm
    · have t1 := congrArg (fun l => l.take 4) e1
      have t2 := congrArg (fun l => l.take 4) e2
      simp only [List.take_left' (Oct.putL_length _ 4)] at t1 t2
      have ht : s.data.toList.take 4 = b.data.toList.take 4 := by
        rw [h1, h2, List.take_append, List.take_append, hk, show 4 - k = 0 by omega]; rfl
      rw [ht, ← t2] at t1
      have h3 := Oct.word4_inj (Oct.sumN_lt _) (Oct.sumN_lt _) t1
      rw [h1, h2, List.drop_append_of_le_length (by omega), List.drop_append_of_le_length (by omega)] at h3
      exact hcd (Oct.sumN_byte _ _ _ _ h3)

/-- So many zero bytes. -/
def zerosB (n : Nat) : ByteArray := ⟨(List.replicate n (0 : UInt8)).toArray⟩
theorem zerosB_size (n : Nat) : (zerosB n).size = n := by
  rw [← size_list]; show (List.replicate n (0 : UInt8)).length = n; simp
theorem room_bounds {p : ByteArray} (h : isPg p = true) : ∃ n : Nat, roomP p = n ∧ n ≤ 400 := by
  unfold roomP roomI
  rw [if_pos h]
  exact ⟨(max 0 (min (493 - 4 * (max ((leafP p).recs.length : Int) ((Pg.freeN (leafP p).recs : Int) + 1)) - (Pg.sumSizes (leafP p).recs : Int)) 400)).toNat, by omega, by omega⟩
theorem putAt_free_sum (rs : List ByteArray) (r : ByteArray) : Pg.sumSizes (Pg.putAt rs (Pg.freeN rs) r) = Pg.sumSizes rs + r.size := by
  have hf := Pg.freeN_rec rs
  unfold Pg.putAt
  have hlt : Pg.freeN rs < (rs ++ List.replicate (Pg.freeN rs + 1 - rs.length) (⟨#[]⟩ : ByteArray)).length := by simp; omega
  have h1 := Pg.sumSizes_set _ (Pg.freeN rs) r hlt
  rw [Pg.sumSizes_append, Pg.sumSizes_replicate] at h1
  have h2 : ((rs ++ List.replicate (Pg.freeN rs + 1 - rs.length) (⟨#[]⟩ : ByteArray))[Pg.freeN rs]).size = 0 := by
    by_cases h : Pg.freeN rs < rs.length
    · rw [List.getElem_append_left h]
      rw [Pg.rec_in h] at hf; exact hf
    · rw [List.getElem_append_right (by omega), List.getElem_replicate]; rfl
  omega
/-- A record of as many bytes as there is room comes in; one of one more does not. -/
theorem room_put {p : ByteArray} (h : isPg p = true) (n : Nat) (hn : roomP p = n) : (n ≠ 0 → (putO p (Pg.freeN (leafP p).recs : Nat) (zerosB n)).2 = 0) ∧ (n = 0 → (putO p (Pg.freeN (leafP p).recs : Nat) (zerosB n)).2 = 1) ∧ (putO p (Pg.freeN (leafP p).recs : Nat) (zerosB (n + 1))).2 ≠ 0 := by
  have hg := leafP_good p
  have hl := hg.fine.len
  have hfl := Pg.freeN_le (leafP p).recs
  have hf := Pg.freeN_rec (leafP p).recs
  unfold roomP roomI at hn
  rw [if_pos h] at hn
  refine ⟨fun h0 => ?_, fun h0 => ?_, ?_⟩
  · have hm : mayB (zerosB n) = true := by
      unfold mayB; apply decide_eq_true; rw [zerosB_size]; omega
    rw [putO_do h hf hm (by omega)]
    have hsz : Pg.sizeN (Pg.trim (withRecs p (Pg.putAt (leafP p).recs (Pg.freeN (leafP p).recs) (zerosB n))).recs) ≤ 512 := by
      refine Nat.le_trans (Pg.sizeN_trim _) ?_
      show Pg.sizeN (Pg.putAt (leafP p).recs (Pg.freeN (leafP p).recs) (zerosB n)) ≤ 512
      unfold Pg.sizeN
      rw [Pg.putAt_length, putAt_free_sum, zerosB_size]; omega
    rw [fullO_pageB hsz]
  · have hm : mayB (zerosB n) = false := by
      unfold mayB; apply decide_eq_false; rw [zerosB_size]; omega
    unfold putO
    rw [if_neg (by rw [h]; simp), if_neg (by omega), if_neg (by rw [Pg.slotAt_rec]; omega), if_pos hm]
  · by_cases h4 : n + 1 ≤ 400
    · have hm : mayB (zerosB (n + 1)) = true := by
        unfold mayB; apply decide_eq_true; rw [zerosB_size]; omega
      rw [putO_do h hf hm (by omega)]
      have ht : Pg.trim (Pg.putAt (leafP p).recs (Pg.freeN (leafP p).recs) (zerosB (n + 1))) = Pg.putAt (leafP p).recs (Pg.freeN (leafP p).recs) (zerosB (n + 1)) :=
        Pg.trim_of_tight (Pg.putAt_tight hg.tight _ (by rw [zerosB_size]; omega))
      rw [Pg.fullO_no]
      · show (18 : Int) ≠ 0; omega
      · show 512 < Pg.sizeN (Pg.trim (Pg.putAt (leafP p).recs (Pg.freeN (leafP p).recs) (zerosB (n + 1))))
        rw [ht]
        unfold Pg.sizeN
        rw [Pg.putAt_length, putAt_free_sum, zerosB_size]; omega
    · have hm : mayB (zerosB (n + 1)) = false := by
        unfold mayB; apply decide_eq_false; rw [zerosB_size]; omega
      unfold putO
      rw [if_neg (by rw [h]; simp), if_neg (by omega), if_neg (by rw [Pg.slotAt_rec]; omega), if_pos hm]
      show (1 : Int) ≠ 0; omega
end Go.Proofs.Ytgbihdlahghonaa
