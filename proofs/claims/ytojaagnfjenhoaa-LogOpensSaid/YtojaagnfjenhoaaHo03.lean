/- The plain law of the log: records one behind the other, read again. -/
import Derived.Test.YtojaagnfjenhoaaHo02
import Derived.Test.YtojaagnfjenhoaaHo01
import Derived.OrdersHeld
import Derived.Deep.RegionHeld3
import Derived.BigRegion
namespace Rc
theorem t_len (s : ByteArray) : (t s).length = 2 + s.size := by
  unfold t; rw [List.length_append, p_length]; simp
theorem opB_len {o : Op} (h : opR o) : (opB o).length ≤ 1031 := by
  obtain ⟨_, _, _, h4, h5⟩ := h
  unfold opB
  simp only [List.length_append, p_length, t_len]
  omega
theorem flat_len {α : Type} (f : α → List UInt8) (k : Nat) (hf : ∀ x, (f x).length = k) : ∀ l : List α, (l.flatMap f).length = l.length * k := by
  intro l
  induction l with
  | nil => simp
  | cons x l ih => rw [List.flatMap_cons, List.length_append, hf, ih, List.length_cons, Nat.add_mul]; omega
theorem txnB_len (x : TxnAt) : (txnB x).length = 19 := by
  unfold txnB; simp only [List.length_append, p_length]
theorem dirtyB_len (x : DirtyAt) : (dirtyB x).length = 9 := by
  unfold dirtyB; simp only [List.length_append, p_length]
theorem headB_len (r : Rec) : (headB r).length = 19 := by
  unfold headB; simp only [List.length_append, p_length]
theorem listsB_len {r : Rec} (h : listsR r) : (listsB r).length ≤ 37010 := by
  obtain ⟨h1, h2, _⟩ := h
  unfold listsB
  simp only [List.length_append, p_length, flat_len txnB 19 txnB_len, flat_len dirtyB 9 dirtyB_len]
  omega
/-- A record's bytes are few. -/
theorem bodyB_len {r : Rec} (h : Right r) : 19 ≤ (bodyB r).length ∧ (bodyB r).length ≤ 40000 := by
  unfold bodyB
  rw [List.length_append, headB_len]
  refine ⟨by omega, ?_⟩
  cases h with
  | small kind lsn prev txn hk h1 h2 h3 =>
    have hk2 : restB (bare kind lsn prev txn) = [] := by
      unfold restB bare
      simp only
      rw [if_neg (by omega), if_neg (by omega), if_neg (by omega), if_neg (by omega), if_neg (by omega)]
    rw [hk2]; simp
  | change lsn prev txn page op how root e h1 h2 h3 h4 h5 h6 =>
    rw [restB_2 rfl]
    have ho := opB_len h5
    have ht : (treeB ⟨lsn, prev, txn, 2, page, 0, 0, op, how, root, e, [], []⟩).length ≤ 200 := by
      unfold treeB
      rcases h6 with ⟨h7, _⟩ | ⟨h7, h8, h9, h10, h11⟩
      · simp only at h7; subst h7; simp
      · simp only at h7 h11
        rw [if_neg (show ¬ how = 1 by omega)]
        simp only [List.length_append, p_length, t_len]
        omega
    simp only [List.length_append, p_length]
    omega
  | clr lsn prev txn page op next h1 h2 h3 h4 h5 h6 =>
    rw [restB_3 rfl]
    have ho := opB_len h5
    simp only [List.length_append, p_length]
    omega
  | nest lsn prev txn next h1 h2 h3 h6 =>
    rw [restB_4 rfl]
    simp only [p_length]
    omega
  | image lsn prev txn page op h1 h2 h3 h4 h5 =>
    rw [restB_8 rfl]
    have ho := opB_len h5
    simp only [List.length_append, p_length]
    omega
  | check lsn prev txn n ts ds h1 h2 h3 h4 h5 =>
    rw [restB_9 rfl]
    have := listsB_len h5
    omega
theorem not_right_zero {r : Rec} (h : r.kind = 0) : ¬ Right r := by
  intro hr
  cases hr with
  | small kind lsn prev txn hk h1 h2 h3 => have : kind = 0 := h; omega
  | change lsn prev txn page op how root e h1 h2 h3 h4 h5 h6 => exact absurd (show (2 : Int) = 0 from h) (by omega)
  | clr lsn prev txn page op next h1 h2 h3 h4 h5 h6 => exact absurd (show (3 : Int) = 0 from h) (by omega)
  | nest lsn prev txn next h1 h2 h3 h6 => exact absurd (show (4 : Int) = 0 from h) (by omega)
  | image lsn prev txn page op h1 h2 h3 h4 h5 => exact absurd (show (8 : Int) = 0 from h) (by omega)
  | check lsn prev txn n ts ds h1 h2 h3 h4 h5 => exact absurd (show (9 : Int) = 0 from h) (by omega)
end Rc
namespace Lg
open Rc
/-- A record as it is written. -/
def putR (r : Rec) : List UInt8 := Oct.putL (bodyB r).length 4 ++ (Oct.putL (Oct.sumN (bodyB r)) 4 ++ bodyB r)
theorem putR_len (r : Rec) : (putR r).length = 8 + (bodyB r).length := by
  unfold putR; simp only [List.length_append, Oct.putL_length]; omega
/-- The bytes that a length tells. -/
def bodyAt (s : List UInt8) (a : Nat) : List UInt8 := (s.drop (a + 8)).take (Oct.getN s a 4)
/-- Is a record there? -/
def Is (s : List UInt8) (a : Nat) : Prop :=
  a + 8 + Oct.getN s a 4 ≤ s.length ∧ Oct.getN s (a + 4) 4 = Oct.sumN (bodyAt s a) ∧ Right (readM true (bodyAt s a)) ∧ bodyB (readM true (bodyAt s a)) = bodyAt s a
open Classical in
/-- The record at a place, and the place behind it. -/
noncomputable def getO (s : List UInt8) (a : Nat) : Option (Rec × Nat) := if Is s a then some (readM true (bodyAt s a), a + 8 + Oct.getN s a 4) else none
theorem getO_yes {s : List UInt8} {a : Nat} (h : Is s a) : getO s a = some (readM true (bodyAt s a), a + 8 + Oct.getN s a 4) := if_pos h
theorem getO_no {s : List UInt8} {a : Nat} (h : ¬ Is s a) : getO s a = none := if_neg h
theorem drop_app (x y : List UInt8) (k : Nat) : (x ++ y).drop (x.length + k) = y.drop k := by
  rw [← List.drop_drop, List.drop_left]
theorem getN_app2 (x y : List UInt8) (k n : Nat) : Oct.getN (x ++ y) (x.length + k) n = Oct.getN y k n := by
  unfold Oct.getN; rw [drop_app]
theorem getN_put (u k : Nat) (y : List UInt8) (h : u < 256 ^ k) : Oct.getN (Oct.putL u k ++ y) 0 k = u := by
  unfold Oct.getN
  rw [List.drop_zero, List.take_left' (Oct.putL_length u k), Oct.getL_putL, Nat.mod_eq_of_lt h]
theorem is_put (x y : List UInt8) {r : Rec} (h : Right r) : Is (x ++ (putR r ++ y)) x.length ∧ bodyAt (x ++ (putR r ++ y)) x.length = bodyB r ∧ Oct.getN (x ++ (putR r ++ y)) x.length 4 = (bodyB r).length := by
  have hlen := bodyB_len h
  have hg : Oct.getN (x ++ (putR r ++ y)) x.length 4 = (bodyB r).length := by
    have h1 := getN_app2 x (putR r ++ y) 0 4
    rw [Nat.add_zero] at h1
    rw [h1]
    unfold putR
    rw [List.append_assoc]
    exact getN_put _ _ _ (by show _ < 4294967296; omega)
  have hs : Oct.getN (x ++ (putR r ++ y)) (x.length + 4) 4 = Oct.sumN (bodyB r) := by
    rw [getN_app2]
    unfold putR
    have h2 := getN_app2 (Oct.putL (bodyB r).length 4) (Oct.putL (Oct.sumN (bodyB r)) 4 ++ (bodyB r ++ y)) 0 4
    rw [Oct.putL_length] at h2
    simp only [List.append_assoc]
    rw [h2]
    exact getN_put _ _ _ (Oct.sumN_lt _)
  have hb : bodyAt (x ++ (putR r ++ y)) x.length = bodyB r := by
    unfold bodyAt
    rw [hg, drop_app]
    unfold putR
    have e : (Oct.putL (bodyB r).length 4 ++ (Oct.putL (Oct.sumN (bodyB r)) 4 ++ bodyB r) ++ y) = (Oct.putL (bodyB r).length 4 ++ Oct.putL (Oct.sumN (bodyB r)) 4) ++ (bodyB r ++ y) := by simp [List.append_assoc]
    rw [e, List.drop_left' (by rw [List.length_append, Oct.putL_length, Oct.putL_length]), List.take_left]
  refine ⟨⟨?_, ?_, ?_, ?_⟩, hb, hg⟩
  · rw [hg]; simp only [List.length_append, putR_len]; omega
  · rw [hs, hb]
  · rw [hb, read_body true h]; exact h
  · rw [hb, read_body true h]
theorem getO_put (x y : List UInt8) {r : Rec} (h : Right r) : getO (x ++ (putR r ++ y)) x.length = some (r, x.length + (putR r).length) := by
  obtain ⟨h1, h2, h3⟩ := is_put x y h
  rw [getO_yes h1, h2, h3, read_body true h, putR_len, Nat.add_assoc]
theorem take_join (s : List UInt8) (a n : Nat) : (s.drop a).take n ++ s.drop (a + n) = s.drop a := by
  rw [← List.drop_drop, List.take_append_drop]
/-- Behind the place where a record is, it is whole. -/
theorem is_bytes {s : List UInt8} {a : Nat} (h : Is s a) : s = s.take a ++ (putR (readM true (bodyAt s a)) ++ s.drop (a + 8 + Oct.getN s a 4)) := by
  obtain ⟨h1, h2, h3, h4⟩ := h
  have hbl : (bodyAt s a).length = Oct.getN s a 4 := by unfold bodyAt; rw [List.length_take, List.length_drop]; omega
  have e1 : Oct.putL (bodyAt s a).length 4 = (s.drop a).take 4 := by
    rw [hbl]; unfold Oct.getN
    exact Oct.putL_getL 4 _ (by rw [List.length_take, List.length_drop]; omega)
  have e2 : Oct.putL (Oct.sumN (bodyAt s a)) 4 = (s.drop (a + 4)).take 4 := by
    rw [← h2]; unfold Oct.getN
    exact Oct.putL_getL 4 _ (by rw [List.length_take, List.length_drop]; omega)
  unfold putR
  rw [h4, e1, e2]
  have e3 : bodyAt s a ++ s.drop (a + 8 + Oct.getN s a 4) = s.drop (a + 8) := take_join s (a + 8) _
  have e4 : (s.drop (a + 4)).take 4 ++ s.drop (a + 8) = s.drop (a + 4) := take_join s (a + 4) 4
  have e5 : (s.drop a).take 4 ++ s.drop (a + 4) = s.drop a := take_join s a 4
  rw [List.append_assoc, List.append_assoc, e3, e4, e5, List.take_append_drop]
/-- Zeros, or too few bytes, are no record. -/
theorem is_zero {s : List UInt8} {a : Nat} (h : Oct.getN s a 4 = 0) : ¬ Is s a := by
  rintro ⟨_, _, h3, _⟩
  have hb : bodyAt s a = [] := by unfold bodyAt; rw [h, List.take_zero]
  rw [hb] at h3
  exact not_right_zero (by rfl) h3
/-! ### Opening -/
/-- The records from a place on, and the place behind them. -/
noncomputable def openL (s : List UInt8) : Nat → Nat → List Rec × Nat
  | 0, a => ([], a)
  | f + 1, a => match getO s a with
    | none => ([], a)
    | some (r, b) => if r.lsn = (a : Int) + 1 then (r :: (openL s f b).1, (openL s f b).2) else ([], a)
/-- Records one behind the other, the first one at a place. -/
def Row (a : Nat) : List Rec → Prop
  | [] => True
  | r :: l => Right r ∧ r.lsn = (a : Int) + 1 ∧ Row (a + (putR r).length) l
def bytes (l : List Rec) : List UInt8 := l.flatMap putR
theorem bytes_cons (r : Rec) (l : List Rec) : bytes (r :: l) = putR r ++ bytes l := rfl
theorem bytes_append (l m : List Rec) : bytes (l ++ m) = bytes l ++ bytes m := List.flatMap_append
theorem row_append {a : Nat} {l m : List Rec} : Row a (l ++ m) ↔ Row a l ∧ Row (a + (bytes l).length) m := by
  induction l generalizing a with
  | nil => simp [Row, bytes]
  | cons r l ih =>
    show (Right r ∧ r.lsn = (a : Int) + 1 ∧ Row (a + (putR r).length) (l ++ m)) ↔ (Right r ∧ r.lsn = (a : Int) + 1 ∧ Row (a + (putR r).length) l) ∧ _
    rw [ih, bytes_cons, List.length_append, Nat.add_assoc]
    constructor
    · rintro ⟨h1, h2, h3, h4⟩; exact ⟨⟨h1, h2, h3⟩, h4⟩
    · rintro ⟨⟨h1, h2, h3⟩, h4⟩; exact ⟨h1, h2, h3, h4⟩
end Lg
/- The plain law of the log: wherever the power goes while it is forced, what is opened is the old row or the new one. -/
namespace Lg
open Rc
/-- Bytes that read as zeros from a place on, so many of them, as far as there are any. -/
def Zeros (s : List UInt8) (a k : Nat) : Prop := ∀ i, a ≤ i → i < a + k → i < s.length → s[i]? = some 0
theorem getL_zero : ∀ l : List UInt8, (∀ i, i < l.length → l[i]? = some 0) → Oct.getL l = 0 := by
  intro l
  induction l with
  | nil => intro _; rfl
  | cons c l ih =>
    intro h
    have h0 := h 0 (by simp)
    simp only [List.getElem?_cons_zero, Option.some.injEq] at h0
    have h1 := ih (fun i hi => by have := h (i + 1) (by simpa using hi); simpa using this)
    subst h0
    unfold Oct.getL at h1 ⊢
    simpa using h1
theorem getN_zero {s : List UInt8} {a : Nat} (h : Zeros s a 4) : Oct.getN s a 4 = 0 := by
  unfold Oct.getN
  refine getL_zero _ (fun i hi => ?_)
  rw [List.length_take, List.length_drop] at hi
  rw [List.getElem?_take, if_pos (by omega), List.getElem?_drop]
  exact h _ (by omega) (by omega) (by omega)
/-- The row l1 lies in the bytes s, with zeros behind. -/
structure Lies (s : List UInt8) (l : List Rec) : Prop where
  row : Row 0 l
  pre : s.take (bytes l).length = bytes l
  room : (bytes l).length ≤ s.length
  zero : Zeros s (bytes l).length 128
theorem Lies.not {s : List UInt8} {l : List Rec} (h : Lies s l) : ¬ Is s (bytes l).length :=
  is_zero (getN_zero fun i h1 h2 h3 => h.zero i h1 (by omega) h3)
theorem Lies.split {s : List UInt8} {l : List Rec} (h : Lies s l) : s = [] ++ (bytes l ++ s.drop (bytes l).length) := by
  rw [List.nil_append]
  conv => lhs; rw [← List.take_append_drop (bytes l).length s, h.pre]
/-- What is there while the sectors are written from the last one to the first: the old bytes up to q, the new ones behind. -/
def mix (s n : List UInt8) (q : Nat) : List UInt8 := s.take q ++ n.drop q
end Lg
/- The plain law of the log: sectors, and the bytes that they are together. -/
namespace Lg
/-- The bytes of some sectors. -/
def flat (L : List ByteArray) : List UInt8 := L.flatMap (·.data.toList)
def Whole (L : List ByteArray) : Prop := ∀ b ∈ L, b.size = 128
theorem flat_cons (b : ByteArray) (L : List ByteArray) : flat (b :: L) = b.data.toList ++ flat L := rfl
theorem Whole.tail {b : ByteArray} {L : List ByteArray} (h : Whole (b :: L)) : b.data.toList.length = 128 ∧ Whole L :=
  ⟨by have := h b (List.mem_cons_self ..); simpa using this, fun x hx => h x (List.mem_cons_of_mem _ hx)⟩
theorem Whole.set {L : List ByteArray} (h : Whole L) (k : Nat) {b : ByteArray} (hb : b.size = 128) : Whole (L.set k b) := fun x hx => by
  rcases List.mem_or_eq_of_mem_set hx with h1 | h1
  · exact h x h1
  · rw [h1]; exact hb
theorem Whole.take {L : List ByteArray} (h : Whole L) (k : Nat) : Whole (L.take k) := fun x hx => h x (List.mem_of_mem_take hx)
theorem Whole.drop {L : List ByteArray} (h : Whole L) (k : Nat) : Whole (L.drop k) := fun x hx => h x (List.mem_of_mem_drop hx)
theorem flat_len {L : List ByteArray} (h : Whole L) : (flat L).length = L.length * 128 := by
  induction L with
  | nil => rfl
  | cons b L ih =>
    obtain ⟨h1, h2⟩ := h.tail
    rw [flat_cons, List.length_append, h1, ih h2, List.length_cons]; omega
/-- The bytes from a sector on. -/
theorem flat_drop {L : List ByteArray} (h : Whole L) (k : Nat) : flat (L.drop k) = (flat L).drop (k * 128) := by
  induction k generalizing L with
  | zero => simp
  | succ k ih =>
    cases L with
    | nil => simp [flat]
    | cons b L =>
      obtain ⟨h1, h2⟩ := h.tail
      rw [List.drop_succ_cons, ih h2, flat_cons, show (k + 1) * 128 = 128 + k * 128 by omega, ← List.drop_drop, List.drop_left' h1]
theorem flat_take {L : List ByteArray} (h : Whole L) (k : Nat) : flat (L.take k) = (flat L).take (k * 128) := by
  induction k generalizing L with
  | zero => simp [flat]
  | succ k ih =>
    cases L with
    | nil => simp [flat]
    | cons b L =>
      obtain ⟨h1, h2⟩ := h.tail
      rw [List.take_succ_cons, flat_cons, ih h2, flat_cons, show (k + 1) * 128 = 128 + k * 128 by omega, List.take_append, h1, Nat.add_sub_cancel_left, List.take_of_length_le (l := b.data.toList) (by omega)]
/-- A record is read in the bytes from a sector on as it is in all. -/
theorem getO_drop (s : List UInt8) (d a : Nat) (h : d ≤ s.length) : getO (s.drop d) a = (getO s (d + a)).map fun x => (x.1, x.2 - d) := by
  have hg : ∀ k m, Oct.getN (s.drop d) k m = Oct.getN s (d + k) m := fun k m => by unfold Oct.getN; rw [List.drop_drop]
  have hb : bodyAt (s.drop d) a = bodyAt s (d + a) := by unfold bodyAt; rw [hg, List.drop_drop, Nat.add_assoc]
  have hI : Is (s.drop d) a ↔ Is s (d + a) := by
    unfold Is
    rw [hg, hg, hb, List.length_drop, Nat.add_assoc d a 4]
    constructor
    · rintro ⟨h1, h2⟩; exact ⟨by omega, h2⟩
    · rintro ⟨h1, h2⟩; exact ⟨by omega, h2⟩
  by_cases h1 : Is s (d + a)
  · rw [getO_yes h1, getO_yes (hI.2 h1), hb, hg]
    simp only [Option.map_some]
    congr 2; omega
  · rw [getO_no h1, getO_no (fun h => h1 (hI.1 h))]; rfl
end Lg
/- The plain law of the disk and of what the log does with it. -/
namespace Lg
structure Dk where
  sectors : List ByteArray
  left : Int
  down : Bool
structure Lo where
  from_ : Int
  n : Int
  end_ : Int
  safe : Int
  tail : ByteArray
instance : DecidableEq Lo := fun a b =>
  if h : a.from_ = b.from_ ∧ a.n = b.n ∧ a.end_ = b.end_ ∧ a.safe = b.safe ∧ a.tail = b.tail then
    .isTrue (by obtain ⟨a1, a2, a3, a4, a5⟩ := a; obtain ⟨b1, b2, b3, b4, b5⟩ := b; simp only at h; obtain ⟨rfl, rfl, rfl, rfl, rfl⟩ := h; rfl)
  else .isFalse (fun e => h (by subst e; exact ⟨rfl, rfl, rfl, rfl, rfl⟩))
def noLog : Lo := ⟨0, 0, 0, 0, ⟨#[]⟩⟩
/-- Is there such a sector? -/
def hasD (d : Dk) (at_ : Int) : Prop := 0 ≤ at_ ∧ at_ < (d.sectors.length : Int)
instance (d : Dk) (a : Int) : Decidable (hasD d a) := by unfold hasD; exact inferInstance
def secAt (d : Dk) (at_ : Int) : ByteArray := d.sectors[at_.toNat]?.getD ⟨#[]⟩
def readD (d : Dk) (at_ : Int) : ByteArray × Int := if d.down then (⟨#[]⟩, 20) else if hasD d at_ then (secAt d at_, 0) else (⟨#[]⟩, 1)
/-- Some sectors, one behind the other: their bytes, or the first fault. -/
def secsD (d : Dk) (from_ : Int) : Nat → Except Int (List UInt8)
  | 0 => .ok []
  | n + 1 => if (readD d from_).2 = 0 then match secsD d (from_ + 1) n with
    | .ok l => .ok ((readD d from_).1.data.toList ++ l)
    | .error e => .error e
    else .error (readD d from_).2
noncomputable def openD (d : Dk) (from_ n : Int) : Lo × List Rc.Rec × Int :=
  match secsD d from_ n.toNat with
  | .error e => (noLog, [], e)
  | .ok s =>
    let x := openL s (s.length + 1) 0
    (⟨from_, n, (x.2 : Int), (x.2 : Int), ⟨((s.take x.2).drop (x.2 - x.2 % 128)).toArray⟩⟩, x.1, 0)
open Classical in
noncomputable def appendD (l : Lo) (r : Rc.Rec) : Lo × Int × Int :=
  let r' : Rc.Rec := { r with lsn := l.end_ + 1 }
  if ¬ Rc.Right r' then (l, 0, 1) else
  if l.n * 128 - ((putR r').length : Int) < l.end_ then (l, 0, 18) else
  ({ l with end_ := l.end_ + ((putR r').length : Int), tail := l.tail ++ ⟨(putR r').toArray⟩ }, l.end_ + 1, 0)
/-- What Read answers: a record, or a fault. -/
noncomputable def readL (d : Dk) (l : Lo) (lsn : Int) : Except Int Rc.Rec :=
  if lsn < 1 ∨ l.end_ < lsn then .error 21 else
  let base := (l.end_ - (l.tail.size : Int)) / 128
  let first := min ((lsn - 1) / 128) base
  match secsD d (l.from_ + first) (base - first).toNat with
  | .error e => .error e
  | .ok s => match getO (s ++ l.tail.data.toList) (lsn - 1 - first * 128).toNat with
    | none => .error 21
    | some (r, _) => if r.lsn = lsn then .ok r else .error 21
end Lg
/- Words for memory that serve every seat: one element is appended, whatever it is. -/
namespace Go.Proofs.Ytojaagnfjenhoaa
open Go.RowKit
theorem wantedIf {c : Prop} [Decidable c] {p q : Prop} (hc : c) (h : p) : if c then p else q := by rw [if_pos hc]; exact h
/-- One element is appended to a row of the call's own. -/
theorem wp_push {P : Program} {o : Oper} {a : Act} {K : Act → World → Prop} {Q : Exit → Act → World → Prop} (w : World) (s x : Operand) (t e : TypeId) {z : Value} {size bytes : Nat}
    (ht : P.underlying t = some (.slice e)) (hi : (P.info? e).map (fun i => (i.zero, i.size, i.bytes)) = some (some z, size, bytes)) (hzc : z.cells.size = size) (hpos : 0 < size) (hby : bytes ≤ 1024)
    (ho : o.op = .call { callee := .builtin .append, args := #[s, x], argTypes := #[t, t] })
    (B : Nat) (v : Value) (n : Nat) (xs : List Value) (hs : a.eval s = v) (hown : w.ownsRow B e size v n xs) (g : Nat) (cs : List Value) (T : TypeId) (hx : a.eval x = .slice (some ⟨g, 0, none⟩) 1 1) (hg : w.heap[g]? = some (.cells cs.toArray T (0, 0)))
    (hcl : cs.length = size) (h1 : ∀ u ∈ cs, u.oneCell' = true) (hlen : n + 1 ≤ 1048576) (hbase : B ≤ w.heap.size)
    (h : ∀ v' w', w'.ownsRow B e size v' (n + 1) (xs ++ cs) → w.grownBy w' v.ownBlock → Below B w w' → K (a.put o.dst v') w') : o.wp P a w K Q := by
  obtain ⟨i0, hi, hz0, hz1, hz2⟩ := info_parts hi
  exact wp_appR w s x t e i0 _ size bytes ht hi hz0 hz1 hz2 hzc hpos ho B v n xs hs hown _ 1 1 cs hx (reads_blk (cs := cs) hg (Nat.le_refl _)) (by omega) h1 hlen hby hbase h
theorem wpList_push {P : Program} {ops : Array Oper} {rest : List Oper} {o : Oper} {a : Act} {Q : Exit → Act → World → Prop} {w : World} (hw : Region.wanted o (yielded ops a.tmps) = true) (s x : Operand) (t e : TypeId) {z : Value} {size bytes : Nat}
    (ht : P.underlying t = some (.slice e)) (hi : (P.info? e).map (fun i => (i.zero, i.size, i.bytes)) = some (some z, size, bytes)) (hzc : z.cells.size = size) (hpos : 0 < size) (hby : bytes ≤ 1024)
    (ho : o.op = .call { callee := .builtin .append, args := #[s, x], argTypes := #[t, t] })
    (B : Nat) (v : Value) (n : Nat) (xs : List Value) (hs : a.eval s = v) (hown : w.ownsRow B e size v n xs) (g : Nat) (cs : List Value) (T : TypeId) (hx : a.eval x = .slice (some ⟨g, 0, none⟩) 1 1) (hg : w.heap[g]? = some (.cells cs.toArray T (0, 0)))
    (hcl : cs.length = size) (h1 : ∀ u ∈ cs, u.oneCell' = true) (hlen : n + 1 ≤ 1048576) (hbase : B ≤ w.heap.size)
    (h : ∀ v' w', w'.ownsRow B e size v' (n + 1) (xs ++ cs) → w.grownBy w' v.ownBlock → Below B w w' → wpList P ops Q rest (a.put o.dst v') w') : wpList P ops Q (o :: rest) a w :=
  listWants hw fun _ hK => wp_push w s x t e ht hi hzc hpos hby ho B v n xs hs hown g cs T hx hg hcl h1 hlen hbase (fun v' w' a b c => hK _ _ (h v' w' a b c))
/-- The slice v is a row of the call's own that reads as the list l. -/
abbrev OwnL {α : Type} (enc : α → List Value) (k : Nat) (e : TypeId) (B : Nat) (w : World) (v : Value) (l : List α) : Prop := w.ownsRow B e k v l.length (l.flatMap enc)
theorem OwnL.push {α : Type} {enc : α → List Value} {k : Nat} {e : TypeId} {B : Nat} {w : World} {v : Value} {l : List α} {x : α} (h : w.ownsRow B e k v (l.length + 1) (l.flatMap enc ++ enc x)) : OwnL enc k e B w v (l ++ [x]) := by
  unfold OwnL
  rw [List.length_append, List.flatMap_append]
  simpa using h
theorem OwnL.form {α : Type} {enc : α → List Value} {k : Nat} {e : TypeId} {B : Nat} {w : World} {v : Value} {l : List α} (h : OwnL enc k e B w v l) : ∃ A c, v = .slice A l.length c ∧ Reads w A c l.length (l.flatMap enc) := by
  obtain ⟨A, c, rfl⟩ := ownLen h
  exact ⟨A, c, rfl, own_reads h⟩
/-- A row of the call's own, where one older block alone turns. -/
theorem ownKept {w w' : World} {B b : Nat} {e : TypeId} {size n : Nat} {v : Value} {xs : List Value} (h : w.ownsRow B e size v n xs) (hb : b < B) (hk : KeptB w.heap.size b w w') : w'.ownsRow B e size v n xs := by
  refine ⟨h.1, ?_⟩
  rcases h.2 with hz | ⟨g, cap, cur, hv, hg, hh, r⟩
  · exact .inl hz
  · exact .inr ⟨g, cap, cur, hv, hg, (hk.block g (heapLt hh) (by omega)).trans hh, r⟩
/-- A row of the call's own and a block of another kind are apart. -/
theorem ownApart {w : World} {B g n size : Nat} {e t : TypeId} {v : Value} {xs : List Value} {cs : Array Value} {fr : Nat × Nat} (h : w.ownsRow B e size v n xs) (hg : w.heap[g]? = some (.cells cs t fr)) (hne : e ≠ t) : v.ownBlock ≠ some g := by
  rcases h.2 with ⟨rfl, _⟩ | ⟨g', cap, cur, rfl, _, hh, _⟩
  · simp [Value.ownBlock]
  · intro he
    have hgg : g' = g := by simpa [Value.ownBlock] using he
    subst hgg
    rw [hh] at hg
    injection hg with hg
    injection hg with _ ht
    exact hne ht
/-- Two rows of the call's own, of unlike kinds: the one grows, the other stays. -/
theorem ownGrown {w w' : World} {B n m size size' : Nat} {e e' : TypeId} {v v' : Value} {xs xs' : List Value} (h : w.ownsRow B e size v n xs) (h' : w.ownsRow B e' size' v' m xs') (hne : e ≠ e') (hg : w.grownBy w' v'.ownBlock) : w'.ownsRow B e size v n xs := by
  refine ⟨h.1, ?_⟩
  rcases h.2 with hz | ⟨g, cap, cur, hv, hgB, hh, r⟩
  · exact .inl hz
  · exact .inr ⟨g, cap, cur, hv, hgB, (hg.block g (heapLt hh) (fun e1 => ownApart h' hh (fun e2 => hne e2.symm) e1.symm)).trans hh, r⟩
end Go.Proofs.Ytojaagnfjenhoaa
/- The walks over package disk: Read. -/
namespace Go.Proofs.Ytojaagnfjenhoaa
open Go.RowKit
def strC (b : ByteArray) : List Value := [.string b]
theorem strC_len (b : ByteArray) : (strC b).length = 1 := rfl
abbrev diskV (d : Lg.Dk) (A : Option Addr) (c : Nat) : Value := .agg #[.slice A d.sectors.length c, .int .i64 d.left, .bool d.down]
/-- A disk in memory. -/
structure DiskR (w : World) (d : Lg.Dk) (A : Option Addr) (c : Nat) : Prop where
  secs : Reads w A c d.sectors.length (d.sectors.flatMap strC)
  small : d.sectors.length ≤ 1000000
theorem DiskR.below {w w' : World} {d : Lg.Dk} {A : Option Addr} {c : Nat} (h : DiskR w d A c) (hb : Below w.heap.size w w') : DiskR w' d A c := ⟨h.secs.below hb, h.small⟩
set_option maxRecDepth 100000 in
theorem has_any (d : Lg.Dk) (A : Option Addr) (c : Nat) (a : Int) (w : World) :
    Calls Try.prog 51 #[diskV d A c, .int .i64 a] w fun e w' => e = .returned (.bool (decide (Lg.hasD d a))) ∧ Below w.heap.size w w' := by
  obtain ⟨L, left, down⟩ := d
  by_cases h0 : 0 ≤ a
  · by_cases h1 : a < (L.length : Int)
    · rw [decide_eq_true (show Lg.hasD ⟨L, left, down⟩ a from And.intro h0 h1)]
      go_enter Try.func51, Try.ntmps51
      go_wp2_with fail
      go_ret
      exact ⟨by simp, allocB _ _⟩
    · rw [decide_eq_false (show ¬ Lg.hasD ⟨L, left, down⟩ a from fun h => h1 h.2)]
      go_enter Try.func51, Try.ntmps51
      go_wp2_with fail
      go_ret
      exact ⟨by simp, allocB _ _⟩
  · rw [decide_eq_false (show ¬ Lg.hasD ⟨L, left, down⟩ a from fun h => h0 h.1)]
    go_enter Try.func51, Try.ntmps51
    go_wp2_with fail
    go_ret
    exact ⟨by simp, allocB _ _⟩
set_option maxRecDepth 100000 in
set_option maxHeartbeats 1000000 in
theorem dread_any (d : Lg.Dk) (A : Option Addr) (c : Nat) (a : Int) (w : World) (h : DiskR w d A c) :
    Calls Try.prog 31 #[diskV d A c, .int .i64 a] w fun e w' => e = .returned (.tuple #[.string (Lg.readD d a).1, .int .i64 (Lg.readD d a).2]) ∧ Below w.heap.size w w' := by
  have HH := Lib.hid (fun W => has_any d A c a W)
  have HR := Lib.hid h.secs
  clear h
  unfold Lg.readD
  cases hd : d.down with
  | true =>
    obtain ⟨L, left, down⟩ := d
    simp only at hd
    subst hd
    rw [if_pos rfl]
    dsimp only [diskV]
    go_enter Try.func31, Try.ntmps31
    go_wp2_with fail
    go_ret2
    exact ⟨rfl, allocB _ _⟩
  | false =>
    rw [if_neg (by simp)]
    by_cases hh : Lg.hasD d a
    · rw [if_pos hh]
      rw [decide_eq_true hh] at HH
      obtain ⟨L, left, down⟩ := d
      simp only at hd
      subst hd
      unfold Lg.hasD at hh
      unfold Lg.secAt
      dsimp only [diskV] at hh HH HR ⊢
      obtain ⟨h0, h1⟩ := hh
      obtain ⟨k, rfl⟩ := Int.eq_ofNat_of_zero_le h0
      have hk : k < L.length := by omega
      obtain ⟨b, off, rfl, hc, hbl, hcell⟩ := read_at strC_len HR.out hk
      have q0 := hcell 0 _ rfl
      simp only [Nat.mul_one, Nat.add_zero] at q0
      rw [Int.toNat_natCast, List.getElem?_eq_getElem hk, Option.getD_some]
      generalize L[k] = x at q0 ⊢
      have Q0 := Lib.hid q0
      clear q0 hcell h0
      go_enter Try.func31, Try.ntmps31
      go_upto_region 5 with (go_at_call 51; (with_reducible refine (HH.out _).mono ?_); rintro e w1 ⟨rfl, hb1⟩; have hbx := blkCell (blkNew hb1))
      have q1 : w1.cell? ⟨b, off + k, none⟩ = some (.string x) := (joinB (allocB w _) hb1).cell (p := ⟨b, off + k, none⟩) hbl |>.trans Q0.out
      have HB1 := Lib.hid (joinB (allocB w _) hb1)
      clear hb1
      go_wp2_with fail
      go_ret2
      exact ⟨rfl, HB1.out⟩
    · rw [if_neg hh]
      rw [decide_eq_false hh] at HH
      clear hh
      obtain ⟨L, left, down⟩ := d
      simp only at hd
      subst hd
      dsimp only [diskV] at HH ⊢
      go_enter Try.func31, Try.ntmps31
      go_wp2_with (go_at_call 51; (with_reducible refine (HH.out _).mono ?_); rintro e w1 ⟨rfl, hb1⟩)
      go_ret2
      exact ⟨rfl, joinB (allocB _ _) hb1⟩
end Go.Proofs.Ytojaagnfjenhoaa
/- Words for memory that serve every seat: the boxes of a call, one behind the other. -/
namespace Go.Proofs.Ytojaagnfjenhoaa
open Go.RowKit
theorem heap_setRow_other (w : World) (b : Nat) (cs : Array Value) (k : Nat) (h : k ≠ b) : (w.setRow b cs).heap[k]? = w.heap[k]? := by
  show (w.heap.modify b _)[k]? = _
  rw [Array.getElem?_modify, if_neg (fun e => h e.symm)]
/-- The boxes l lie one behind the other from block B on; nothing ahead of w's end has turned. -/
structure BxL (B : Nat) (w : World) (l : List (Array Value × TypeId)) (u : World) : Prop where
  get : ∀ i p, l[i]? = some p → u.heap[B + i]? = some (.cells p.1 p.2 (0, 0))
  low : w.heap.size ≤ B
  below : Below w.heap.size w u
theorem BxL.get0 {B : Nat} {w u : World} {l : List (Array Value × TypeId)} {c0 : Array Value} {T0 : TypeId} (h : BxL B w ((c0, T0) :: l) u) : u.heap[B]? = some (.cells c0 T0 (0, 0)) := h.get 0 _ rfl
theorem BxL.get1 {B : Nat} {w u : World} {l : List (Array Value × TypeId)} {p : Array Value × TypeId} {c1 : Array Value} {T1 : TypeId} (h : BxL B w (p :: (c1, T1) :: l) u) : u.heap[B + 1]? = some (.cells c1 T1 (0, 0)) := h.get 1 _ rfl
theorem BxL.get2 {B : Nat} {w u : World} {l : List (Array Value × TypeId)} {p q : Array Value × TypeId} {c2 : Array Value} {T2 : TypeId} (h : BxL B w (p :: q :: (c2, T2) :: l) u) : u.heap[B + 2]? = some (.cells c2 T2 (0, 0)) := h.get 2 _ rfl
theorem BxL.nil {w u : World} (h : Below w.heap.size w u) : BxL u.heap.size w [] u := ⟨fun i p h => (by simp at h), h.size, h⟩
theorem BxL.lt {B : Nat} {w u : World} {l : List (Array Value × TypeId)} (h : BxL B w l u) {i : Nat} (hi : i < l.length) : B + i < u.heap.size := heapLt (h.get i _ (List.getElem?_eq_getElem hi))
theorem BxL.new {B : Nat} {w u : World} {l : List (Array Value × TypeId)} (h : BxL B w l u) (hs : u.heap.size = B + l.length) (cs : Array Value) (T : TypeId) : BxL B w (l ++ [(cs, T)]) (u.alloc (.cells cs T)) := by
  refine ⟨fun i p hp => ?_, h.low, pastAlloc h.below⟩
  by_cases hi : i < l.length
  · rw [List.getElem?_append_left hi] at hp
    exact blkOld (h.get i p hp) (allocB _ _)
  · rw [List.getElem?_append_right (by omega)] at hp
    have h0 : i - l.length = 0 := by
      have := (List.getElem?_eq_some_iff.1 hp).1
      simpa using this
    rw [h0] at hp
    simp only [List.getElem?_cons_zero, Option.some.injEq] at hp
    subst hp
    rw [show B + i = u.heap.size by omega]
    exact heap_alloc_new u _
theorem BxL.step {B : Nat} {w u v : World} {l : List (Array Value × TypeId)} (h : BxL B w l u) (hb : Below u.heap.size u v) : BxL B w l v :=
  ⟨fun i p hp => blkOld (h.get i p hp) hb, h.low, joinB h.below hb⟩
theorem BxL.under {B : Nat} {w u v : World} {l : List (Array Value × TypeId)} (h : BxL B w l u) {M : Nat} (hM : B + l.length ≤ M) (hb : Below M u v) : BxL B w l v := by
  have hl := h.low
  refine ⟨fun i p hp => ?_, h.low, h.below.trans (hb.mono (by omega))⟩
  have hi := (List.getElem?_eq_some_iff.1 hp).1
  exact (hb.block _ (by omega)).trans (h.get i p hp)
theorem BxL.drew {B : Nat} {w u : World} {l : List (Array Value × TypeId)} (h : BxL B w l u) : BxL B w l u.drew := h.step (Below.refl _ _).drew
theorem BxL.set {B : Nat} {w u : World} {l : List (Array Value × TypeId)} (h : BxL B w l u) (i j : Nat) (v : Value) (p : Array Value × TypeId) (hi : l[i]? = some p) : BxL B w (l.set i (p.1.setIfInBounds j v, p.2)) (u.setCell ⟨B + i, j, none⟩ v) := by
  have hil := (List.getElem?_eq_some_iff.1 hi).1
  refine ⟨fun k q hq => ?_, h.low, h.below.setCell (by have := h.low; show _ ≤ B + i; omega) v⟩
  by_cases hk : i = k
  · subst hk
    rw [List.getElem?_set_self hil] at hq
    injection hq with hq
    subst hq
    exact blkSet j (h.get i p hi) v
  · rw [List.getElem?_set_ne hk] at hq
    rw [Below.heap_setCell _ _ _ _ (by show B + k ≠ B + i; omega)]
    exact h.get k q hq
theorem BxL.row {B : Nat} {w u : World} {l : List (Array Value × TypeId)} (h : BxL B w l u) (i : Nat) (cs : Array Value) (p : Array Value × TypeId) (hi : l[i]? = some p) : BxL B w (l.set i (cs, p.2)) (u.setRow (B + i) cs) := by
  have hil := (List.getElem?_eq_some_iff.1 hi).1
  have hl := h.low
  refine ⟨fun k q hq => ?_, h.low, ⟨h.below.os, h.below.tape, h.below.output, by show _ ≤ (u.heap.modify _ _).size; have := h.below.size; simpa using this, fun k hk => (heap_setRow_other _ _ _ _ (by omega)).trans (h.below.block k hk)⟩⟩
  by_cases hk : i = k
  · subst hk
    rw [List.getElem?_set_self hil] at hq
    injection hq with hq
    subst hq
    exact setRow_heap _ _ _ _ _ _ (h.get i p hi)
  · rw [List.getElem?_set_ne hk] at hq
    rw [heap_setRow_other _ _ _ _ (by omega)]
    exact h.get k q hq
/-- What is read at A stays behind a store into a block elsewhere. -/
theorem Reads.off {w : World} {A : Option Addr} {c n : Nat} {vs : List Value} (h : Reads w A c n vs) (b j : Nat) (v : Value) (ha : 0 < n → ∀ ad, A = some ad → ad.block ≠ b) : Reads (w.setCell ⟨b, j, none⟩ v) A c n vs := fun h0 => by
  obtain ⟨g, off, e, hc, hlt, hcell⟩ := h h0
  have hne := ha h0 _ e
  refine ⟨g, off, e, hc, by simpa [World.setCell] using hlt, fun k u hk => ?_⟩
  have := hcell k u hk
  unfold World.cell? at this ⊢
  rw [Below.heap_setCell _ _ _ _ hne]
  exact this
theorem Reads.old {w : World} {A : Option Addr} {c n : Nat} {vs : List Value} (h : Reads w A c n vs) (h0 : 0 < n) : ∀ ad, A = some ad → ad.block < w.heap.size := fun ad e => by
  obtain ⟨g, off, e2, _, hlt, _⟩ := h h0
  rw [e2] at e
  injection e with e
  rw [← e]; exact hlt
/-- From w to v only blocks from lo to hi, and new ones, may have turned. -/
structure Apart (lo hi : Nat) (w v : World) : Prop where
  size : w.heap.size ≤ v.heap.size
  block : ∀ k, k < w.heap.size → (k < lo ∨ hi ≤ k) → v.heap[k]? = w.heap[k]?
theorem Apart.refl (lo hi : Nat) (w : World) : Apart lo hi w w := ⟨Nat.le_refl _, fun _ _ _ => rfl⟩
theorem Apart.trans {lo hi : Nat} {u v w : World} (h : Apart lo hi u v) (k : Apart lo hi v w) : Apart lo hi u w := ⟨Nat.le_trans h.size k.size, fun i h1 h2 => (k.block i (Nat.lt_of_lt_of_le h1 h.size) h2).trans (h.block i h1 h2)⟩
theorem Apart.below {lo hi : Nat} {w v : World} (hb : Below w.heap.size w v) : Apart lo hi w v := ⟨hb.size, fun k h1 _ => hb.block k h1⟩
theorem Apart.cell {lo hi : Nat} {u v : World} (h : Apart lo hi u v) (b j : Nat) (x : Value) (h1 : lo ≤ b) (h2 : b < hi) : Apart lo hi u (v.setCell ⟨b, j, none⟩ x) :=
  h.trans ⟨by simp [World.setCell], fun k _ hk => Below.heap_setCell _ _ _ _ (by show k ≠ b; omega)⟩
theorem Apart.row {lo hi : Nat} {u v : World} (h : Apart lo hi u v) (b : Nat) (cs : Array Value) (h1 : lo ≤ b) (h2 : b < hi) : Apart lo hi u (v.setRow b cs) :=
  h.trans ⟨by show _ ≤ (v.heap.modify _ _).size; simp, fun k _ hk => heap_setRow_other _ _ _ _ (by omega)⟩
theorem Apart.drew {lo hi : Nat} {u v : World} (h : Apart lo hi u v) : Apart lo hi u v.drew := h.trans (Apart.below (Below.refl _ _).drew)
theorem Reads.apart {lo hi : Nat} {w v : World} {A : Option Addr} {c n : Nat} {vs : List Value} (h : Reads w A c n vs) (ha : Apart lo hi w v) (hA : 0 < n → ∀ ad, A = some ad → ad.block < lo ∨ hi ≤ ad.block) : Reads v A c n vs := fun h0 => by
  obtain ⟨g, off, e, hc, hlt, hcell⟩ := h h0
  have hne := hA h0 _ e
  refine ⟨g, off, e, hc, Nat.lt_of_lt_of_le hlt ha.size, fun k u hk => ?_⟩
  have := hcell k u hk
  unfold World.cell? at this ⊢
  rw [ha.block _ hlt hne]
  exact this
theorem ownRowOff {w : World} {B : Nat} {e : TypeId} {size n : Nat} {v : Value} {xs : List Value} (h : w.ownsRow B e size v n xs) (b : Nat) (cs : Array Value) (hb : b < B) : (w.setRow b cs).ownsRow B e size v n xs := by
  refine ⟨h.1, ?_⟩
  rcases h.2 with hz | ⟨g, cap, cur, hv, hg, hh, r⟩
  · exact .inl hz
  · exact .inr ⟨g, cap, cur, hv, hg, by rw [heap_setRow_other _ _ _ _ (by omega)]; exact hh, r⟩
/-- What lies at A is elsewhere than the blocks from lo to hi. -/
def AwayA (lo hi : Nat) (A : Option Addr) : Prop := ∀ ad, A = some ad → ad.block < lo ∨ hi ≤ ad.block
theorem AwayA.none_ (lo hi : Nat) : AwayA lo hi none := fun _ h => by cases h
/-- What lies at A is no older than block number n. -/
def NewA (n : Nat) (A : Option Addr) : Prop := ∀ ad, A = some ad → n ≤ ad.block
theorem NewA.none_ (n : Nat) : NewA n none := fun _ h => by cases h
theorem NewA.mono {n m : Nat} {A : Option Addr} (h : NewA n A) (hm : m ≤ n) : NewA m A := fun ad e => Nat.le_trans hm (h ad e)
/-- What lies at A is no older than block n, and a row of such a type. -/
def NewT (n : Nat) (w : World) (T : TypeId) (A : Option Addr) : Prop := ∀ ad, A = some ad → n ≤ ad.block ∧ ∃ cs fr, w.heap[ad.block]? = some (.cells cs T fr)
theorem NewT.none_ (n : Nat) (w : World) (T : TypeId) : NewT n w T none := fun _ h => by cases h
theorem NewT.mono {n m : Nat} {w : World} {T : TypeId} {A : Option Addr} (h : NewT n w T A) (hm : m ≤ n) : NewT m w T A := fun ad e => ⟨Nat.le_trans hm (h ad e).1, (h ad e).2⟩
theorem NewT.below {n : Nat} {w w' : World} {T : TypeId} {A : Option Addr} (h : NewT n w T A) (hb : Below w.heap.size w w') : NewT n w' T A := fun ad e => by
  obtain ⟨h1, cs, fr, h2⟩ := h ad e
  exact ⟨h1, cs, fr, blkOld h2 hb⟩
theorem NewT.own {w : World} {B : Nat} {T : TypeId} {size n c : Nat} {A : Option Addr} {xs : List Value} (h : w.ownsRow B T size (.slice A n c) n xs) : NewT B w T A := by
  intro ad hA
  rcases h.2 with ⟨hv, _⟩ | ⟨g, cap, cur, hv, hg, hh, _⟩
  · injection hv with h1; rw [h1] at hA; cases hA
  · injection hv with h1; rw [h1] at hA; injection hA with hA; rw [← hA]; exact ⟨hg, cur, _, hh⟩
theorem NewT.row {n : Nat} {w : World} {T : TypeId} {A : Option Addr} (h : NewT n w T A) (b : Nat) (cs : Array Value) : NewT n (w.setRow b cs) T A := fun ad e => by
  obtain ⟨h1, cs0, fr, h2⟩ := h ad e
  refine ⟨h1, ?_⟩
  by_cases hb : ad.block = b
  · subst hb; exact ⟨cs, fr, setRow_heap _ _ _ _ _ _ h2⟩
  · exact ⟨cs0, fr, (heap_setRow_other _ _ _ _ hb).trans h2⟩
theorem NewT.set {n : Nat} {w : World} {T : TypeId} {A : Option Addr} (h : NewT n w T A) (b j : Nat) (v : Value) : NewT n (w.setCell ⟨b, j, none⟩ v) T A := fun ad e => by
  obtain ⟨h1, cs0, fr, h2⟩ := h ad e
  refine ⟨h1, ?_⟩
  by_cases hb : ad.block = b
  · subst hb; exact ⟨_, fr, blkSet j h2 v⟩
  · exact ⟨cs0, fr, (Below.heap_setCell _ _ _ _ hb).trans h2⟩
theorem NewT.apart {n lo hi : Nat} {w v : World} {T : TypeId} {A : Option Addr} (h : NewT n w T A) (ha : Apart lo hi w v) (hn : hi ≤ n) : NewT n v T A := fun ad e => by
  obtain ⟨h1, cs0, fr, h2⟩ := h ad e
  exact ⟨h1, cs0, fr, (ha.block _ (heapLt h2) (.inr (by omega))).trans h2⟩
theorem NewT.grown {n m size B0 : Nat} {w w' : World} {T e : TypeId} {A : Option Addr} {v : Value} {xs : List Value} (h : NewT n w T A) (ho : w.ownsRow B0 e size v m xs) (hne : e ≠ T) (hg : w.grownBy w' v.ownBlock) : NewT n w' T A := fun ad ea => by
  obtain ⟨h1, cs0, fr, h2⟩ := h ad ea
  exact ⟨h1, cs0, fr, (hg.block _ (heapLt h2) (fun e1 => ownApart ho h2 hne e1.symm)).trans h2⟩
/-- What is read in a row of one kind stays, where a row of another kind grows. -/
theorem NewT.reads {n m size B0 k c : Nat} {w w' : World} {T e : TypeId} {A : Option Addr} {v : Value} {xs vs : List Value} (h : NewT n w T A) (hr : Reads w A c k vs) (ho : w.ownsRow B0 e size v m xs) (hne : e ≠ T) (hg : w.grownBy w' v.ownBlock) : Reads w' A c k vs := fun h0 => by
  obtain ⟨b, off, rfl, e2, e3, e4⟩ := hr h0
  obtain ⟨_, cs0, fr, h2⟩ := h _ rfl
  refine ⟨b, off, rfl, e2, Nat.lt_of_lt_of_le e3 hg.size, fun j u hj => ?_⟩
  have := e4 j u hj
  unfold World.cell? at this ⊢
  rw [hg.block _ e3 (fun e1 => ownApart ho h2 hne e1.symm)]
  exact this
theorem listStore {P : Program} {ops : Array Oper} {rest : List Oper} {op : Oper} {a : Act} {w : World} {Q : Exit → Act → World → Prop} (hw : Region.wanted op (yielded ops a.tmps) = true) (ty : TypeId) (x y : Operand) (ho : op.op = .store ty x y)
    (b : Nat) (cells cur : Array Value) (t : TypeId) (hx : a.eval x = .pointer (some ⟨b, 0, none⟩)) (hy : a.eval y = .agg cells) (hg : w.heap[b]? = some (.cells cur t (0, 0))) (hsz : cur.size = cells.size)
    (hi : (P.info? ty).map (·.size) = some cells.size) (h1 : cells.all (·.oneCell') = true) (h : wpList P ops Q rest (a.put op.dst undef) (w.setRow b cells)) : wpList P ops Q (op :: rest) a w :=
  listWants hw fun _ hK => wp_store_whole ty x y ho b cells cur t hx hy hg hsz hi h1 (hK _ _ h)
theorem results_cell3 {P : Program} {fn : Func} {p q r : Tmp} {ty : TypeId} (h : fn.results = #[.cell p ty, .tmp q, .tmp r]) (tmps : Array Value) (w : World) {ad : Addr} (hp : tmps.getD p undef = .pointer (some ad)) {v : Value} (hl : (loadVar ty ad).run P w = .ok v w) {v2 v3 : Value} (h2 : tmps.getD q undef = v2) (h3 : tmps.getD r undef = v3) :
    (results fn tmps).run P w = .ok (.tuple #[v, v2, v3]) w := by
  simp only [results, h]
  have hp' : tmps[p]?.getD undef = .pointer (some ad) := by simpa using hp
  have h2' : tmps[q]?.getD undef = v2 := by simpa using h2
  have h3' : tmps[r]?.getD undef = v3 := by simpa using h3
  simp [Result.andThen, hp', h2', h3', asAddr, hl]
end Go.Proofs.Ytojaagnfjenhoaa
/- The walks over package disk: Write. -/
namespace Go.Proofs.Ytojaagnfjenhoaa
open Go.RowKit
/-! walk -/
end Go.Proofs.Ytojaagnfjenhoaa
/- A region that draws its order, and whose last store turns what its loads read: a condition on the world that is shown anew behind each operation until a named one has come up. -/
namespace Go
section
variable {P : Program} {ops : Array Oper} {Q : Exit → Act → World → Prop} {md : Region.Mode} {S : World → Prop} {z : Nat}
/-- Whatever has come up, what it waits for has come up. -/
def ShutDown (md : Region.Mode) (ops : Array Oper) (l : Array Bool) : Prop :=
  ∀ j o, ops[j]? = some o → l.getD j false = true → ∀ e ∈ o.after, Region.binds md e = true → l.getD e.on false = true
def shutDownB (md : Region.Mode) (ops : Array Oper) (l : Array Bool) : Bool :=
  (List.range ops.size).all fun j => !l.getD j false || match ops[j]? with
    | none => true
    | some o => o.after.all fun e => !Region.binds md e || l.getD e.on false
theorem shutDown_of {l : Array Bool} (h : shutDownB md ops l = true) : ShutDown md ops l := by
  intro j o ho hj e he hb
  unfold shutDownB at h
  rw [List.all_eq_true] at h
  have h1 := h j (List.mem_range.2 (Array.getElem?_eq_some_iff.1 ho).1)
  rw [ho, hj] at h1
  simp only [Bool.not_true, Bool.false_or] at h1
  have h2 := Array.all_eq_true_iff_forall_mem.1 h1 e he
  rw [hb] at h2
  simpa using h2
theorem getD_swap {l : Array Bool} {i : Nat} (h : l.getD i true = false) : l.getD i false = false := by
  rcases Nat.lt_or_ge i l.size with h' | h'
  · simp [h'] at h ⊢; exact h
  · simp [Array.getElem?_eq_none h'] at h
theorem getD_setSelf {l : Array Bool} {i : Nat} (h : l.getD i true = false) : (l.setIfInBounds i true).getD i false = true := by
  rcases Nat.lt_or_ge i l.size with h' | h'
  · simp [h']
  · simp [Array.getElem?_eq_none h'] at h
theorem shutDown_set {l : Array Bool} {j : Nat} (h : ShutDown md ops l) (hj : j ∈ Region.ready md ops l) : ShutDown md ops (l.setIfInBounds j true) := by
  obtain ⟨h0, oj, hoj, hall⟩ := mem_ready.1 hj
  intro k o hk hl e he hb
  by_cases hkj : j = k
  · subst hkj
    rw [hoj] at hk
    injection hk with hk
    subst hk
    exact getD_set_true (hall e he hb)
  · rw [getD_set_ne false hkj] at hl
    exact getD_set_true (h k o hk hl e he hb)
/-- Each of a list waits for the one ahead of it. -/
def pathB (md : Region.Mode) (ops : Array Oper) : List Nat → Bool
  | [] => true
  | [_] => true
  | a :: b :: r => (match ops[b]? with
    | none => false
    | some o => o.after.any fun e => Region.binds md e && e.on == a) && pathB md ops (b :: r)
theorem path_listed {l : Array Bool} (hc : ShutDown md ops l) : ∀ (p : List Nat) (a : Nat), pathB md ops (a :: p) = true → l.getD ((a :: p).getLast (by simp)) false = true → l.getD a false = true := by
  intro p
  induction p with
  | nil => intro a _ h; simpa using h
  | cons b r ih =>
    intro a hp hl
    unfold pathB at hp
    rw [Bool.and_eq_true] at hp
    have hb := ih b hp.2 (by simpa using hl)
    cases ho : ops[b]? with
    | none => rw [ho] at hp; simp at hp
    | some o =>
      rw [ho] at hp
      obtain ⟨e, he, h2⟩ := Array.any_eq_true'.1 hp.1
      rw [Bool.and_eq_true] at h2
      have h3 := hc b o ho hb e he h2.1
      rwa [show e.on = a by simpa using h2.2] at h3
/-- From i a list of waiting leads to z. -/
def leads (md : Region.Mode) (ops : Array Oper) (i : Nat) (p : List Nat) (z : Nat) : Bool := pathB md ops (i :: p) && (i :: p).getLast (by simp) == z && i != z
theorem leads_not {l : Array Bool} {i : Nat} {p : List Nat} (h : leads md ops i p z = true) (hc : ShutDown md ops l) (hi : l.getD i true = false) : z ∉ Region.ready md ops l := by
  unfold leads at h
  rw [Bool.and_eq_true, Bool.and_eq_true] at h
  obtain ⟨⟨h1, h2⟩, h3⟩ := h
  intro hz
  have h4 := shutDown_set hc hz
  have h5 := path_listed h4 p i h1 (by rw [show (i :: p).getLast (by simp) = z by simpa using h2]; exact getD_setSelf (mem_ready.1 hz).1)
  rw [getD_set_ne false (by simp at h3; exact fun e => h3 e.symm)] at h5
  rw [getD_swap hi] at h5
  cases h5
/-- Whatever order is picked from here on, and S holds behind every operation that is carried out, as long as z has not come up. -/
def wpAnyZ (P : Program) (md : Region.Mode) (ops : Array Oper) (Q : Exit → Act → World → Prop) (S : World → Prop) (z : Nat) : Nat → Array Bool → Act → World → Prop
  | 0, listed, a, w => Region.ready md ops listed = [] ∧ Q .normal a w
  | fuel + 1, listed, a, w =>
    (Region.ready md ops listed = [] → Q .normal a w) ∧
    ∀ i ∈ Region.ready md ops listed, wpOp P ops Q i (fun a' w' => ((listed.setIfInBounds i true).getD z true = false → S w') ∧ wpAnyZ P md ops Q S z fuel (listed.setIfInBounds i true) a' w') a w
theorem wpAny_of_Z : ∀ (fuel : Nat) (listed : Array Bool) (a : Act) (w : World), wpAnyZ P md ops Q S z fuel listed a w → wpAny P md ops Q fuel listed a w
  | 0, _, _, _, h => h
  | fuel + 1, _, _, _, h => ⟨h.1, fun i hi => wpOp_mono (fun a' w' h' => wpAny_of_Z fuel _ a' w' h'.2) (h.2 i hi)⟩
theorem wpAnyZ_first {i : Nat} {oi : Oper} {v : Value} {p : List Nat} (hi : ops[i]? = some oi) (hsel : ∀ (j : Nat) (o : Oper) cs b, ops[j]? = some o → o.op ≠ .select cs b)
    (hQ : ∀ c a w, Q (.panic c) (a.put oi.dst v) w → Q (.panic c) a w) (hl : leads md ops i p z = true) :
    ∀ (fuel : Nat) (listed : Array Bool) (a : Act) (w : World), ShutDown md ops listed → listed.getD z true = false →
      (∀ j oj, ops[j]? = some oj → j ≠ i → listed.getD j true = false → (∀ e ∈ oj.after, Region.binds md e = true → e.on ≠ i) → oi.apart ops oj = true) →
      i ∈ Region.ready md ops listed → YieldsIf P ops S oi v a → S w →
      wpAnyZ P md ops Q S z fuel (listed.setIfInBounds i true) (a.put oi.dst v) w → wpAnyZ P md ops Q S z (fuel + 1) listed a w := by
  have hiz : i ≠ z := by
    unfold leads at hl
    rw [Bool.and_eq_true] at hl
    simpa using hl.2
  intro fuel
  induction fuel with
  | zero =>
    intro listed a w _ hzu _ hr hy hS H
    refine ⟨fun h => (by rw [h] at hr; cases hr), fun j hj => ?_⟩
    by_cases hji : j = i
    · subst hji; exact hy.wpOp hi hS ⟨fun _ => hS, H⟩
    · have := ready_mono hj hji
      rw [H.1] at this
      cases this
  | succ fuel ih =>
    intro listed a w hsd hzu hfree hr hy hS H
    refine ⟨fun h => (by rw [h] at hr; cases hr), fun j hj => ?_⟩
    by_cases hji : j = i
    · subst hji; exact hy.wpOp hi hS ⟨fun _ => hS, H⟩
    · have hjz : j ≠ z := fun e => leads_not hl hsd (mem_ready.1 hr).1 (e ▸ hj)
      have h1 := H.2 j (ready_mono hj hji)
      obtain ⟨hjun, oj, hoj, hall⟩ := mem_ready.1 hj
      have hnot : ∀ e ∈ oj.after, Region.binds md e = true → e.on ≠ i := fun e he hb heq => by
        have h1 := hall e he hb
        have h0 := (mem_ready.1 hr).1
        rw [heq] at h1
        rw [getD_swap h0] at h1
        cases h1
      have h2 := wpOp_putIf hoj (hfree j oj hoj hji hjun hnot) (fun cs b => hsel i oi cs b hi) (fun cs b => hsel j oj cs b hoj) hQ hy h1
      have hfree' : ∀ k ok, ops[k]? = some ok → k ≠ i → (listed.setIfInBounds j true).getD k true = false →
          (∀ e ∈ ok.after, Region.binds md e = true → e.on ≠ i) → oi.apart ops ok = true := fun k ok hk hki hun hno => by
        refine hfree k ok hk hki ?_ hno
        by_cases hjk : j = k
        · subst hjk; exact hjun
        · rw [getD_set_ne true hjk] at hun; exact hun
      refine wpOp_mono (fun a' w' h3 => ?_) h2
      have hSw : S w' := h3.2.1 (by rw [getD_set_ne true hjz, getD_set_ne true hiz]; exact hzu)
      refine ⟨fun _ => hSw, ih (listed.setIfInBounds j true) a' w' (shutDown_set hsd hj) (by rw [getD_set_ne true hjz]; exact hzu) hfree' (ready_mono hr (Ne.symm hji)) h3.1 hSw ?_⟩
      rw [Array.setIfInBounds_comm _ _ hji]
      exact h3.2.2
theorem wpAnyZ_take {i : Nat} {oi : Oper} {v : Value} {p : List Nat} {fuel : Nat} {listed : Array Bool} {a : Act} {w : World} (hi : ops[i]? = some oi)
    (hl : leads md ops i p z = true) (hsd : shutDownB md ops listed = true) (hzu : listed.getD z true = false)
    (hs : Region.noSelect ops = true) (hf : Region.free md ops listed i = true) (hr : (Region.ready md ops listed).contains i = true)
    (hQ : ∀ c a w, Q (.panic c) (a.put oi.dst v) w → Q (.panic c) a w) (hy : YieldsIf P ops S oi v a) (hS : S w)
    (h : wpAnyZ P md ops Q S z fuel (listed.setIfInBounds i true) (a.put oi.dst v) w) : wpAnyZ P md ops Q S z (fuel + 1) listed a w :=
  wpAnyZ_first hi (Region.noSelect_spec hs) hQ hl fuel listed a w (shutDown_of hsd) hzu (Region.free_spec hi hf) (by simpa using hr) hy hS h
theorem wpAnyZ_done {listed : Array Bool} {a : Act} {w : World} (hr : Region.ready md ops listed = []) (h : Q .normal a w) :
    ∀ fuel, wpAnyZ P md ops Q S z fuel listed a w
  | 0 => ⟨hr, h⟩
  | _ + 1 => ⟨fun _ => h, by rw [hr]; simp⟩
def AllReadyZ (P : Program) (md : Region.Mode) (ops : Array Oper) (Q : Exit → Act → World → Prop) (S : World → Prop) (z fuel : Nat) (listed : Array Bool) (a : Act) (w : World) (rs : List Nat) : Prop :=
  ∀ i ∈ rs, wpOp P ops Q i (fun a' w' => ((listed.setIfInBounds i true).getD z true = false → S w') ∧ wpAnyZ P md ops Q S z fuel (listed.setIfInBounds i true) a' w') a w
theorem AllReadyZ.nil {fuel : Nat} {listed : Array Bool} {a : Act} {w : World} : AllReadyZ P md ops Q S z fuel listed a w [] := fun _ h => by cases h
theorem AllReadyZ.cons {fuel : Nat} {listed : Array Bool} {a : Act} {w : World} {i : Nat} {o : Oper} {rs : List Nat} (ho : ops[i]? = some o)
    (h : ∀ K' : Act → World → Prop, Shut (∀ a w, S w → (S w → wpAnyZ P md ops Q S z fuel (listed.setIfInBounds i true) a w) → K' a w) → if Region.wanted o (yielded ops a.tmps) = true then Oper.wp P o a w K' Q else K' (a.put o.dst undef) w)
    (hs : AllReadyZ P md ops Q S z fuel listed a w rs) : AllReadyZ P md ops Q S z fuel listed a w (i :: rs) := fun j hj => by
  rcases List.mem_cons.1 hj with rfl | hj
  · exact wpOp_step ho (fun K' hK => h K' (fun a w hS hW => hK a w ⟨fun _ => hS, hW hS⟩))
  · exact hs j hj
/-- At z itself, and behind it: nothing is asked. -/
theorem AllReadyZ.last {fuel : Nat} {listed : Array Bool} {a : Act} {w : World} {i : Nat} {o : Oper} {rs : List Nat} (ho : ops[i]? = some o) (hz : (listed.setIfInBounds i true).getD z true = true)
    (h : ∀ K' : Act → World → Prop, Shut (∀ a w, wpAnyZ P md ops Q S z fuel (listed.setIfInBounds i true) a w → K' a w) → if Region.wanted o (yielded ops a.tmps) = true then Oper.wp P o a w K' Q else K' (a.put o.dst undef) w)
    (hs : AllReadyZ P md ops Q S z fuel listed a w rs) : AllReadyZ P md ops Q S z fuel listed a w (i :: rs) := fun j hj => by
  rcases List.mem_cons.1 hj with rfl | hj
  · exact wpOp_step ho (fun K' hK => h K' (fun a w hW => hK a w ⟨fun h0 => (by rw [hz] at h0; cases h0), hW⟩))
  · exact hs j hj
theorem wpAnyZ_ready {rs : List Nat} {fuel : Nat} {listed : Array Bool} {a : Act} {w : World} (hr : Region.ready md ops listed = rs) (hne : rs ≠ [])
    (h : AllReadyZ P md ops Q S z fuel listed a w rs) : wpAnyZ P md ops Q S z (fuel + 1) listed a w :=
  ⟨fun h0 => absurd (hr ▸ h0) hne, hr ▸ h⟩
theorem wp_region_Z {id : Nat} {a : Act} {w : World} (z : Nat) (hm : P.follows .mixedOrders = true) (hS : S w.drew)
    (h : S w.drew → wpAnyZ P .any ops Q S z ops.size (Array.replicate ops.size false) a w.drew) : (Code.region id ops true).wp P Q a w :=
  wp_region_any hm (wpAny_of_Z _ _ _ _ (h hS))
end
end Go
/- The walks over the reference of the disk: New, Arm, Start. -/
namespace Go.Proofs.Ytojaagnfjenhoaa
open Go.RowKit
end Go.Proofs.Ytojaagnfjenhoaa
/- The walks over package log: New, cut, sectors. -/
namespace Lg
end Lg
namespace Go.Proofs.Ytojaagnfjenhoaa
open Go.RowKit
abbrev logV (l : Lg.Lo) : Value := .agg #[.int .i64 l.from_, .int .i64 l.n, .int .i64 l.end_, .int .i64 l.safe, .string l.tail]
set_option maxRecDepth 100000 in
theorem lnew_any (a n : Int) (w : World) :
    Calls Try.prog 12 #[.int .i64 a, .int .i64 n] w fun e w' => e = .returned (logV ⟨a, n, 0, 0, ⟨#[]⟩⟩) ∧ Below w.heap.size w w' := by
  have HZ := Lib.hid (heap_alloc_new w (.cells #[.int .i64 0, .int .i64 0, .int .i64 0, .int .i64 0, .string ⟨#[]⟩] 28))
  go_enter Try.func12, Try.ntmps12
  go_wp2_with (with_reducible refine listStore (by kernel_rfl) 28 (.tmp 4) (.tmp 7) rfl w.heap.size #[.int .i64 a, .int .i64 n, .int .i64 0, .int .i64 0, .string ⟨#[]⟩] _ _ rfl rfl HZ.out (by kernel_rfl) (by kernel_rfl) (by kernel_rfl) ?_)
  refine bodyPost_ret (v := .agg #[.int .i64 a, .int .i64 n, .int .i64 0, .int .i64 0, .string ⟨#[]⟩]) (results_cell rfl _ _ rfl (load_whole (setRow_heap _ _ _ _ _ _ HZ.out) Try.underlying28 (by kernel_rfl) (by kernel_rfl))) rfl ?_
  exact ⟨rfl, ((BxL.nil (Below.refl w.heap.size w)).new (by simp) #[.int .i64 0, .int .i64 0, .int .i64 0, .int .i64 0, .string ⟨#[]⟩] 28).row 0 _ _ rfl |>.below⟩
end Go.Proofs.Ytojaagnfjenhoaa
/- The walk over package octet: Open, of four bytes or more. -/
namespace Go.Proofs.Ytojaagnfjenhoaa
open Go.RowKit
set_option maxRecDepth 100000 in
theorem open4_any (s : ByteArray) (h4 : 4 ≤ s.size) (hm : s.size ≤ 1000000000) (n : Nat) (hn : Oct.getN s.data.toList 0 4 = n) (hn2 : Oct.intOf n = (n : Int)) (w : World) :
    Calls Try.prog 35 #[.string s] w fun e w' => e = .returned (if n = Oct.sumN (s.data.toList.drop 4) then .tuple #[.string (s.extract 4 s.size), .bool true] else .tuple #[.string ⟨#[]⟩, .bool false]) ∧ Below w.heap.size w w' := by
  have HG := Lib.hid (fun W => get_yes s 0 4 (by omega) (by omega) (by omega) (by omega) W)
  rw [hn, hn2] at HG
  have hxs : (s.extract 4 s.size).data.toList = s.data.toList.drop 4 := by
    simp only [ByteArray.data_extract, Array.toList_extract, List.extract_eq_take_drop]
    exact List.take_of_length_le (by simp)
  have hxz : (s.extract 4 s.size).size ≤ 281474976710656 := by rw [ByteArray.size_extract]; omega
  have HS := Lib.hid (fun W => sum_any (s.extract 4 s.size) hxz W)
  rw [hxs] at HS
  generalize Oct.sumN (s.data.toList.drop 4) = m at HS ⊢
  have h4' : (4 : Int) ≤ (s.size : Int) := by omega
  have h4n : ¬ s.size < 4 := by omega
  clear hn hn2 hxs hxz
  by_cases he : n = m
  · subst he
    rw [if_pos rfl]
    go_enter Try.func35, Try.ntmps35
    go_wp2_with (first | (go_at_call 34; refine (HG.out _).mono ?_; rintro e w1 ⟨rfl, hb1⟩) | (go_at_call 54; refine (HS.out _).mono ?_; rintro e w2 ⟨rfl, rfl⟩))
    go_ret2
    exact ⟨rfl, hb1⟩
  · rw [if_neg he]
    have hne : ((n : Int) == (m : Int)) = false := by simp; omega
    have hne2 : (n == m) = false := by simpa using he
    have hne3 : ((n : Int) != (m : Int)) = true := by simp; omega
    have hne4 : (n != m) = true := by simpa using he
    go_enter Try.func35, Try.ntmps35
    go_wp2_with (first | (go_at_call 34; refine (HG.out _).mono ?_; rintro e w1 ⟨rfl, hb1⟩) | (go_at_call 54; refine (HS.out _).mono ?_; rintro e w2 ⟨rfl, rfl⟩))
    go_ret2
    exact ⟨rfl, hb1⟩
end Go.Proofs.Ytojaagnfjenhoaa
/- The walk over package octet: GetText. -/
namespace Go.Proofs.Ytojaagnfjenhoaa
open Go.RowKit
theorem getN_small (s : List UInt8) (a k : Nat) : Oct.getN s a k < 256 ^ k := by
  have h1 := Oct.getL_lt ((s.drop a).take k)
  have h2 : 256 ^ ((s.drop a).take k).length ≤ 256 ^ k := Nat.pow_le_pow_right (by omega) (by rw [List.length_take]; omega)
  unfold Oct.getN; omega
set_option maxRecDepth 100000 in
theorem getText_any (s : ByteArray) (a : Nat) (hm : s.size ≤ 1000000000) (ha : a ≤ 2000000000) (w : World) :
    Calls Try.prog 93 #[.string s, .int .i64 (a : Int)] w fun e w' => e = .returned (if a + 2 + Oct.getN s.data.toList a 2 ≤ s.size then .tuple #[.string (s.extract (a + 2) (a + 2 + Oct.getN s.data.toList a 2)), .int .i64 ((a + 2 + Oct.getN s.data.toList a 2 : Nat) : Int), .bool true] else .tuple #[.string ⟨#[]⟩, .int .i64 0, .bool false]) ∧ Below w.heap.size w w' := by
  by_cases hin : a + 2 ≤ s.size
  · have hpow := getN_small s.data.toList a 2
    have HG := Lib.hid (fun W => get_yes s a 2 (by omega) (by omega) hin (by omega) W)
    generalize Oct.getN s.data.toList a 2 = n at hpow HG ⊢
    have hn : n < 65536 := by simpa using hpow
    rw [show Oct.intOf n = (n : Int) from by unfold Oct.intOf; rw [if_pos (by omega)]] at HG
    clear hpow
    by_cases he : a + 2 + n ≤ s.size
    · rw [if_pos he]
      have t1 : ¬ ((s.size : Int) - (a : Int) - 2 < (n : Int)) := by omega
      have w1 : IntKind.i64.wrap ((s.size : Int) - (a : Int)) = (s.size : Int) - (a : Int) := IntWalk.i64_in _ (by omega)
      have w2 : IntKind.i64.wrap ((s.size : Int) - (a : Int) - 2) = (s.size : Int) - (a : Int) - 2 := IntWalk.i64_in _ (by omega)
      have w3 : IntKind.i64.wrap ((a : Int) + 2) = (a : Int) + 2 := IntWalk.i64_in _ (by omega)
      have w4 : IntKind.i64.wrap ((a : Int) + 2 + (n : Int)) = (a : Int) + 2 + (n : Int) := IntWalk.i64_in _ (by omega)
      have g1 : (0 : Int) ≤ (a : Int) + 2 := by omega
      have g2 : (a : Int) + 2 ≤ (a : Int) + 2 + (n : Int) := by omega
      have g3 : (a : Int) + 2 + (n : Int) ≤ (s.size : Int) := by omega
      have n1 : ((a : Int) + 2).toNat = a + 2 := by omega
      have n2 : ((a : Int) + 2 + (n : Int)).toNat = a + 2 + n := by omega
      go_enter Try.func93, Try.ntmps93
      go_wp2_with ((go_at_call 34; refine (HG.out _).mono ?_; rintro e w1 ⟨rfl, hb1⟩))
      refine bodyPost_ret (v := .tuple #[.string (s.extract (a + 2) (a + 2 + n)), .int .i64 ((a + 2 + n : Nat) : Int), .bool true]) (by simp [results, Try.results93, go_sem]) rfl ⟨rfl, by assumption⟩
    · rw [if_neg he]
      have t1 : ((s.size : Int) - (a : Int) - 2 < (n : Int)) := by omega
      have w1 : IntKind.i64.wrap ((s.size : Int) - (a : Int)) = (s.size : Int) - (a : Int) := IntWalk.i64_in _ (by omega)
      have w2 : IntKind.i64.wrap ((s.size : Int) - (a : Int) - 2) = (s.size : Int) - (a : Int) - 2 := IntWalk.i64_in _ (by omega)
      go_enter Try.func93, Try.ntmps93
      go_wp2_with ((go_at_call 34; refine (HG.out _).mono ?_; rintro e w1 ⟨rfl, hb1⟩))
      refine bodyPost_ret (v := .tuple #[.string ⟨#[]⟩, .int .i64 0, .bool false]) (by simp [results, Try.results93, go_sem]) rfl ⟨rfl, by assumption⟩
  · rw [if_neg (by omega)]
    have HG := Lib.hid (fun W => get_no s a 2 (by omega) (by omega) (by omega) (by unfold Oct.there; simp; omega) W)
    go_enter Try.func93, Try.ntmps93
    go_wp2_with ((go_at_call 34; refine (HG.out _).mono ?_; rintro e w1 ⟨rfl, rfl⟩))
    refine bodyPost_ret (v := .tuple #[.string ⟨#[]⟩, .int .i64 0, .bool false]) (by simp [results, Try.results93, go_sem]) rfl ⟨rfl, Below.refl _ _⟩
end Go.Proofs.Ytojaagnfjenhoaa
