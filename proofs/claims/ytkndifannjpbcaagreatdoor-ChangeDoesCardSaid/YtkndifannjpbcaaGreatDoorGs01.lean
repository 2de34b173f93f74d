/- The frame shared by the statements of this seat: what a walk that only makes memory owes the row; the arguments read behind the call as they did. -/
import Derived.Test.YtkndifannjpbcaaGreatDoorRows
import Derived.WalkKit
import Derived.ProofKit
import Derived.OpenShut
import Derived.SizedLaws
import Derived.Below
import Derived.Carry
import Derived.ChangeSame
import Derived.Lib.SmallJoins
import Derived.Test.YtkndifannjpbcaaGreatDoorProg
import Derived.WalkSpells
import Derived.WalkLawsBesides
import Derived.Lib.Hide
import Derived.Lib.ConvBytes
namespace Go.Proofs.YtkndifannjpbcaaGreatDoor
open Go.ChangeShapes Go.WideShapes Go.ChangeAt Go.RowKit

theorem own : ownKnob Tryz.prog.godebug = none := by kernel_rfl
theorem bnd {n : Int} (h : (Lit.int .i64 n).wf = true) : -9223372036854775808 ≤ n ∧ n ≤ 9223372036854775807 := bounds_i64 h
theorem laidOut : laidOutB Tryz.prog = true := by kernel_rfl
section
variable {H : Type} {enc : TypeId × Value → H} {P : Program}
theorem trodAll_again (hl : laidOutB P = true) {W W' : World} (hb : Below W.heap.size W W') {sp : Nat → Bool} : ∀ {ts : List TypeId} {vs : List Value} {ds : List (DataW H)} {ps : List MemPlace}, (ts.all fun t => P.readableRec t && decide (t < P.types.size)) = true →
    DataW.TrodAll enc P W 0 (fun _ => true) true ts vs ds ps → (∀ x ∈ ps, x.block < W.heap.size) → (∀ x ∈ ps, sp x.block = true) → DataW.TrodAll enc P W' 0 sp true ts vs ds ps := by
  intro ts
  induction ts with
  | nil =>
    intro vs ds ps _ h _ _
    obtain ⟨rfl, rfl, rfl⟩ := trodAll_nil h
    exact trodAll_mk0
  | cons t ts ih =>
    intro vs ds ps hr h hlt hsp
    obtain ⟨v, vs', d, ds', p, q, rfl, rfl, rfl, h0, h1⟩ := trodAll_cons h
    simp only [List.all_cons, Bool.and_eq_true] at hr
    obtain ⟨⟨hr1, hr2⟩, hr3⟩ := hr
    refine trodAll_cons_mk (WideElems.Trod_stays hl hr1 (of_decide_eq_true hr2) h0 (fun x hx => hb.same (hlt x (List.mem_append_left _ hx))) (fun x hx => hsp x (List.mem_append_left _ hx))) ?_
    exact ih (by simpa using hr3) h1 (fun x hx => hlt x (List.mem_append_right _ hx)) (fun x hx => hsp x (List.mem_append_right _ hx))
theorem post_again {f : Func} {s : ChangeSpec} {apart fresh handsOn again : Bool} {W W' : World} {args : Array Value} {v : Value} {ds gs : List (DataW H)} {before pa pv : List MemPlace}
    (hW : DataW.Whole enc P f.params.toList s.vars apart W args.toList ds gs before)
    (hres : ∀ (b : Nat) (sp : Nat → Bool) (hd : Bool), DataW.TrodAll enc P W' b sp hd f.resultTypes.toList (v.resultList f.resultTypes.size) (s.fn H (ds ++ gs)).results [])
    (hargs : ∀ sp : Nat → Bool, (∀ p ∈ before, sp p.block = true) → DataW.TrodAll enc P W' 0 sp true f.params.toList args.toList (s.fn H (ds ++ gs)).args pa)
    (hvars : ∀ sp : Nat → Bool, (∀ p ∈ before, sp p.block = true) → DataW.TrodVars enc P W' sp s.vars (s.fn H (ds ++ gs)).vars pv)
    (hps : before = pa ++ pv) (hb : Below W.heap.size W W')
    (hok : ∀ (j : Nat) (t : TypeId) (r : Value), f.resultTypes[j]? = some t → (v.resultList f.resultTypes.size)[j]? = some r → Value.okWide P W' .any 0 t r) :
    s.post enc P f apart fresh handsOn again W args v W' := by
  have hlt : ∀ p ∈ before, p.block < W.heap.size := fun p hp => hW.lt p hp
  have hold : ∀ p ∈ before, (fun b => decide (b < W.heap.size)) p.block = true := fun p hp => by simpa using hlt p hp
  refine ⟨ds, gs, before, [], pa, pv, hW, hres _ _ _, hargs _ hold, hvars _ hold, World.keptBut_mono (fun p hp => ⟨hp, ?_⟩) (hb.frame (· ∈ before)), fun _ => ?_⟩
  · rw [hps, List.mem_append] at hp
    exact Or.inr hp
  · obtain ⟨_, _, _, _, _, hz, hn⟩ := hW
    refine ⟨hok, _, _, ([] ++ pa) ++ pv, ⟨[] ++ pa, pv, trodAll_append (hargs _ (fun _ _ => rfl)) (hres _ _ _), hvars _ (fun _ _ => rfl), rfl, ?_, ?_⟩, ?_⟩
    · intro b off hp
      have hin : MemPlace.cell b off ∈ before := by rw [hps]; simpa using hp
      rw [hb.frozen (hlt _ hin)]
      exact hz b off hin
    · intro ha
      have := hn ha
      rw [hps] at this
      simpa using this
    · intro p hp _
      rw [hps]
      simpa using hp
end
theorem size_ok {H : Type} {ts : List TypeId} {ds : List (DataW H)} {j : Nat} {t : TypeId} {s : ByteArray} (h : (DataW.weightsEach Tryz.prog ts ds).all (· ≤ reachBytes) = true) (ht : ts[j]? = some t) (hd : ds[j]? = some (.lit (.string s.data.toList))) : s.size ≤ 140737488355328 := by
  have h9 := sized_string h ht hd
  have h10 := reachBytes_lt
  have h11 : s.data.toList.length = s.size := by simp
  omega
section
variable {H : Type} {enc : TypeId × Value → H} {w : World} {base : Nat} {spare : Nat → Bool} {held : Bool}
set_option maxRecDepth 100000 in
/-- A change, opened. -/
theorem open_op {r : Reach} {b0 : Nat} {v : Value} {d : DataW H} {ps : List MemPlace} (hval : Value.okWide Tryz.prog w r b0 23 v) (hd : DataW.Trod enc Tryz.prog w base spare held 23 v d ps) :
    ∃ (kind slot : Int) (old new : ByteArray), v = .agg #[.int .i64 kind, .int .i64 slot, .string old, .string new] ∧ (Lit.int .i64 kind).wf = true ∧ (Lit.int .i64 slot).wf = true := by
  obtain ⟨v0, v1, v2, v3, y0, y1, y2, y3, n, rfl, rfl, rfl, h0, h1, h2, h3⟩ := Joins.open_agg4 Tryz.underlying23 (by kernel_rfl) (by kernel_rfl) hval hd
  obtain ⟨i, hi, _, wi⟩ := DataW.trod_int Tryz.underlying3 h0
  obtain ⟨j, hj, _, wj⟩ := DataW.trod_int Tryz.underlying3 h1
  obtain ⟨s, hs, _, _⟩ := DataW.trod_string Tryz.underlying9 h2
  obtain ⟨t, ht, _, _⟩ := DataW.trod_string Tryz.underlying9 h3
  simp at hi hj hs ht
  exact ⟨i, j, s, t, by rw [hi, hj, hs, ht], wi, wj⟩
end
end Go.Proofs.YtkndifannjpbcaaGreatDoor
/- The plain mathematics of package octet: numbers in bytes, the sum of a text. -/
namespace Oct

/-- A number as the 64 bits that it has in memory. -/
def word (n : Int) : Nat := (n % 18446744073709551616).toNat
theorem word_lt (n : Int) : word n < 18446744073709551616 := by unfold word; omega
theorem word_nat (n : Nat) (h : n < 18446744073709551616) : word (n : Int) = n := by unfold word; omega

/-- The lowest k bytes of u, the highest one first. -/
def putL (u : Nat) : Nat → List UInt8
  | 0 => []
  | k + 1 => putL (u / 256) k ++ [UInt8.ofNat (u % 256)]
theorem putL_length (u k : Nat) : (putL u k).length = k := by
  induction k generalizing u with
  | zero => rfl
  | succ k ih => simp [putL, ih]
theorem putL_get (k : Nat) : ∀ (u i : Nat), i < k → (putL u k)[i]? = some (UInt8.ofNat (u / 256 ^ (k - 1 - i) % 256)) := by
  induction k with
  | zero => intro u i h; omega
  | succ k ih =>
    intro u i h
    rw [putL]
    by_cases hi : i < k
    · rw [List.getElem?_append_left (by rw [putL_length]; exact hi), ih (u / 256) i hi]
      congr 2
      rw [show k + 1 - 1 - i = (k - 1 - i) + 1 by omega, Nat.pow_succ, Nat.mul_comm, Nat.div_div_eq_div_mul]
    · obtain rfl : i = k := by omega
      rw [List.getElem?_append_right (by rw [putL_length]; omega), putL_length]
      simp

/-- What octet.Put returns. -/
def putB (n size : Int) : ByteArray := if size < 0 ∨ 8 < size then ⟨#[]⟩ else ⟨(putL (word n) size.toNat).toArray⟩
theorem putB_size (n : Int) (k : Nat) (h : k ≤ 8) : (putB n k).size = k := by
  unfold putB
  rw [if_neg (by omega)]
  show (putL _ _).toArray.size = _
  simp [putL_length]

theorem putB_list (n : Int) (k : Nat) (h : k ≤ 8) : (putB n k).data.toList = putL (word n) k := by
  unfold putB
  rw [if_neg (by omega)]
  simp
/-- The number that bytes make, the first one the highest. -/
def getL (l : List UInt8) : Nat := l.foldl (fun n c => 256 * n + c.toNat) 0
theorem getL_snoc (l : List UInt8) (c : UInt8) : getL (l ++ [c]) = 256 * getL l + c.toNat := by simp [getL, List.foldl_append]
theorem getL_lt (l : List UInt8) : getL l < 256 ^ l.length := by
  have key : ∀ (n : Nat) (l : List UInt8), l.length = n → getL l < 256 ^ n := by
    intro n
    induction n with
    | zero => intro l h; rw [List.eq_nil_of_length_eq_zero h]; simp [getL]
    | succ n ih =>
      intro l h
      have hl : l ≠ [] := by intro e; rw [e] at h; simp at h
      rw [← List.dropLast_concat_getLast hl, getL_snoc, Nat.pow_succ]
      have h1 := ih l.dropLast (by simp [h])
      have h2 := (l.getLast hl).toNat_lt
      omega
  exact key _ l rfl
theorem putL_getL : ∀ (k : Nat) (l : List UInt8), l.length = k → putL (getL l) k = l := by
  intro k
  induction k with
  | zero => intro l h; rw [List.eq_nil_of_length_eq_zero h]; rfl
  | succ k ih =>
    intro l h
    have hl : l ≠ [] := by intro e; rw [e] at h; simp at h
    rw [← List.dropLast_concat_getLast hl, getL_snoc, putL]
    have h2 := (l.getLast hl).toNat_lt
    rw [show (256 * getL l.dropLast + (l.getLast hl).toNat) / 256 = getL l.dropLast by omega, show (256 * getL l.dropLast + (l.getLast hl).toNat) % 256 = (l.getLast hl).toNat by omega, ih _ (by simp [h])]
    simp
theorem getL_putL (k : Nat) : ∀ u : Nat, getL (putL u k) = u % 256 ^ k := by
  induction k with
  | zero => intro u; simp [putL, getL, Nat.mod_one]
  | succ k ih =>
    intro u
    rw [putL, getL_snoc, ih]
    have h1 : (UInt8.ofNat (u % 256)).toNat = u % 256 := by rw [UInt8.toNat_ofNat']; omega
    rw [h1, Nat.pow_succ, Nat.mul_comm (256 ^ k) 256, Nat.mod_mul]
    omega

theorem or_byte (x c : Nat) (hc : c < 256) : (256 * x) ||| c = 256 * x + c := by
  have h := Nat.shiftLeft_add_eq_or_of_lt (i := 8) (b := c) (by omega) x
  rw [Nat.shiftLeft_eq, Nat.mul_comm x (2 ^ 8)] at h
  exact h.symm
theorem getL_take (l : List UInt8) (k : Nat) (hk : k < l.length) : getL (l.take (k + 1)) = 256 * getL (l.take k) + (l[k]?.getD 0).toNat := by
  rw [List.take_succ_eq_append_getElem hk, getL_snoc, List.getElem?_eq_getElem hk]; rfl
theorem getL_take_lt (l : List UInt8) (k : Nat) (hk : k < 8) : getL (l.take k) < 72057594037927936 := by
  have h := getL_lt (l.take k)
  have h2 : 256 ^ (l.take k).length ≤ 256 ^ 7 := Nat.pow_le_pow_right (by omega) (by rw [List.length_take]; omega)
  omega
/-- The number as an int. -/
def intOf (u : Nat) : Int := if u < 9223372036854775808 then (u : Int) else (u : Int) - 18446744073709551616
/-- What octet.Get returns. -/
def getN (s : List UInt8) (at_ size : Nat) : Nat := getL ((s.drop at_).take size)
def there (len : Nat) (at_ size : Int) : Bool := decide (1 ≤ size) && decide (size ≤ 8) && decide (0 ≤ at_) && decide (at_ + size ≤ len)

/-- One bit of the sum. -/
def bit1 (n : Nat) : Nat := if n % 2 = 1 then (n / 2) ^^^ 3988292384 else n / 2
def bits8 : Nat → Nat → Nat
  | 0, n => n
  | k + 1, n => bits8 k (bit1 n)
/-- The register, one byte on. -/
def crcByte (n : Nat) (c : UInt8) : Nat := bits8 8 (n ^^^ c.toNat)
def crcFrom (n : Nat) (l : List UInt8) : Nat := l.foldl crcByte n
def sumN (l : List UInt8) : Nat := crcFrom 4294967295 l ^^^ 4294967295
theorem crcFrom_snoc (n : Nat) (l : List UInt8) (c : UInt8) : crcFrom n (l ++ [c]) = crcByte (crcFrom n l) c := by simp [crcFrom, List.foldl_append]
theorem bits8_succ (k n : Nat) : bits8 (k + 1) n = bit1 (bits8 k n) := by
  induction k generalizing n with
  | zero => rfl
  | succ k ih => exact ih (bit1 n)
theorem bit1_lt {n : Nat} (h : n < 4294967296) : bit1 n < 4294967296 := by
  unfold bit1
  split
  · exact Nat.xor_lt_two_pow (n := 32) (by omega) (by omega)
  · omega
theorem bits8_lt (k : Nat) : ∀ {n : Nat}, n < 4294967296 → bits8 k n < 4294967296 := by
  induction k with
  | zero => intro n h; exact h
  | succ k ih => intro n h; exact ih (bit1_lt h)
theorem crcByte_lt {n : Nat} (h : n < 4294967296) (c : UInt8) : crcByte n c < 4294967296 :=
  bits8_lt 8 (Nat.xor_lt_two_pow (n := 32) h (by have := c.toNat_lt; omega))
theorem crcFrom_lt (l : List UInt8) : ∀ {n : Nat}, n < 4294967296 → crcFrom n l < 4294967296 := by
  induction l with
  | nil => intro n h; exact h
  | cons c l ih => intro n h; exact ih (crcByte_lt h c)
theorem sumN_lt (l : List UInt8) : sumN l < 4294967296 := Nat.xor_lt_two_pow (n := 32) (crcFrom_lt l (by omega)) (by omega)

end Oct
/- The plain mathematics of pages: a page's parts, its bytes, and back. -/
namespace Pg
open Oct

structure Leaf where
  lsn : Nat
  kind : Nat
  link : Nat
  recs : List ByteArray

/-- The numbers of a page are small. -/
def Small (x : Leaf) : Prop := x.lsn < 281474976710656 ∧ x.kind ≤ 4 ∧ x.link < 16777216
def zero : Leaf := ⟨0, 0, 0, []⟩
def sumSizes : List ByteArray → Nat
  | [] => 0
  | r :: rs => r.size + sumSizes rs
theorem sumSizes_append (a b : List ByteArray) : sumSizes (a ++ b) = sumSizes a + sumSizes b := by
  induction a with
  | nil => simp [sumSizes]
  | cons r a ih => simp [sumSizes, ih]; omega
theorem sumSizes_take_le (rs : List ByteArray) (k : Nat) : sumSizes (rs.take k) ≤ sumSizes rs := by
  have h := sumSizes_append (rs.take k) (rs.drop k)
  rw [List.take_append_drop] at h
  omega
theorem sumSizes_snoc (rs : List ByteArray) (k : Nat) (h : k < rs.length) : sumSizes (rs.take (k + 1)) = sumSizes (rs.take k) + rs[k].size := by
  rw [List.take_succ_eq_append_getElem h, sumSizes_append]; simp [sumSizes]
def sizeN (rs : List ByteArray) : Nat := 19 + 4 * rs.length + sumSizes rs

/-- How many of the first m records are left, once the empty ones at the end have gone. -/
def trimN (rs : List ByteArray) : Nat → Nat
  | 0 => 0
  | m + 1 => if (rs[m]?.getD ⟨#[]⟩).size = 0 then trimN rs m else m + 1
theorem trimN_le (rs : List ByteArray) (m : Nat) : trimN rs m ≤ m := by
  induction m with
  | zero => exact Nat.le_refl _
  | succ m ih => unfold trimN; split <;> omega
def trim (rs : List ByteArray) : List ByteArray := rs.take (trimN rs rs.length)

/-- A slot's four bytes, given where the records before it begin. -/
def slotL (at_ : Nat) (r : ByteArray) : List UInt8 := if r.size = 0 then putL 0 4 else putL (at_ - r.size) 2 ++ putL r.size 2
def slotsL (at_ : Nat) : List ByteArray → List UInt8
  | [] => []
  | r :: rs => slotL at_ r ++ slotsL (at_ - r.size) rs
theorem slotsL_append (a b : List ByteArray) : ∀ at_ : Nat, slotsL at_ (a ++ b) = slotsL at_ a ++ slotsL (at_ - sumSizes a) b := by
  induction a with
  | nil => intro at_; simp [slotsL, sumSizes]
  | cons r a ih => intro at_; simp only [List.cons_append, slotsL, ih, sumSizes, List.append_assoc, Nat.sub_sub]
theorem slotsL_snoc (rs : List ByteArray) (k : Nat) (h : k < rs.length) : slotsL 512 (rs.take (k + 1)) = slotsL 512 (rs.take k) ++ slotL (512 - sumSizes (rs.take k)) rs[k] := by
  rw [List.take_succ_eq_append_getElem h, slotsL_append]; simp [slotsL]
theorem slotL_length (at_ : Nat) (r : ByteArray) : (slotL at_ r).length = 4 := by
  unfold slotL; split <;> simp [putL_length]
theorem slotsL_length (rs : List ByteArray) : ∀ at_, (slotsL at_ rs).length = 4 * rs.length := by
  induction rs with
  | nil => intro _; rfl
  | cons r rs ih => intro at_; simp [slotsL, slotL_length, ih]; omega

/-- The records' bytes, the last one first. -/
def bodyL : List ByteArray → List UInt8
  | [] => []
  | r :: rs => bodyL rs ++ r.data.toList
theorem bodyL_length (rs : List ByteArray) : (bodyL rs).length = sumSizes rs := by
  induction rs with
  | nil => rfl
  | cons r rs ih => simp [bodyL, sumSizes, ih]; omega
theorem bodyL_drop (rs : List ByteArray) (k : Nat) (h : k < rs.length) : bodyL (rs.drop k) = bodyL (rs.drop (k + 1)) ++ rs[k].data.toList := by
  rw [List.drop_eq_getElem_cons h]; rfl

theorem bodyL_append (a b : List ByteArray) : bodyL (a ++ b) = bodyL b ++ bodyL a := by
  induction a with
  | nil => simp [bodyL]
  | cons r a ih => simp [bodyL, ih]
theorem bodyL_snoc (rs : List ByteArray) (k : Nat) (h : k < rs.length) : bodyL (rs.take (k + 1)) = rs[k].data.toList ++ bodyL (rs.take k) := by
  rw [List.take_succ_eq_append_getElem h, bodyL_append]; simp [bodyL]
def headL (x : Leaf) (n at_ : Nat) : List UInt8 := putL 0 4 ++ putL x.lsn 6 ++ putL x.kind 1 ++ putL 0 1 ++ putL x.link 3 ++ putL n 2 ++ putL at_ 2
theorem headL_length (x : Leaf) (n at_ : Nat) : (headL x n at_).length = 19 := by simp [headL, putL_length]

/-- The bytes of the parts, with the sum 0; none, if they do not fit. -/
def layR (x : Leaf) (rs : List ByteArray) : List UInt8 :=
  if 512 < sizeN rs then [] else headL x rs.length (512 - sumSizes rs) ++ slotsL 512 rs ++ List.replicate (512 - sizeN rs) 0 ++ bodyL rs
def layL (x : Leaf) : List UInt8 := layR x (trim x.recs)
theorem layR_length (x : Leaf) (rs : List ByteArray) (h : ¬ 512 < sizeN rs) : (layR x rs).length = 512 := by
  rw [layR, if_neg h]
  simp [headL_length, slotsL_length, bodyL_length]
  unfold sizeN at h ⊢; omega

/-- The records of the first k slots; none, if one of them can't be. -/
def recsOf (p : List UInt8) : Nat → Option (List ByteArray)
  | 0 => some []
  | k + 1 => match recsOf p k with
    | none => none
    | some rs =>
      if 400 < getN p (21 + 4 * k) 2 ∨ 512 < getN p (19 + 4 * k) 2 + getN p (21 + 4 * k) 2 then none
      else some (rs ++ [⟨((p.drop (getN p (19 + 4 * k) 2)).take (getN p (21 + 4 * k) 2)).toArray⟩])
theorem recsOf_length (p : List UInt8) : ∀ (k : Nat) (rs : List ByteArray), recsOf p k = some rs → rs.length = k := by
  intro k
  induction k with
  | zero => intro rs h; simp [recsOf] at h; rw [h]; rfl
  | succ k ih =>
    intro rs h
    unfold recsOf at h
    split at h
    · cases h
    · rename_i r0 h0
      split at h
      · cases h
      · injection h with h
        rw [← h, List.length_append, ih _ h0]; rfl
theorem recsOf_none (p : List UInt8) {k : Nat} (h : recsOf p k = none) : ∀ j, recsOf p (k + j) = none := by
  intro j
  induction j with
  | zero => exact h
  | succ j ih =>
    show recsOf p ((k + j) + 1) = none
    simp only [recsOf, ih]
/-- A page taken apart, whatever it says. -/
def rd (p : List UInt8) : Option Leaf :=
  if p.length ≠ 512 ∨ 4 < getN p 10 1 ∨ 123 < getN p 15 2 then none
  else (recsOf p (getN p 15 2)).map fun rs => ⟨getN p 4 6, getN p 10 1, getN p 12 3, rs⟩
/-- A page's parts, if it is one. -/
def right (p : List UInt8) : Option Leaf := (rd p).filter fun x => decide (layL x = putL 0 4 ++ p.drop 4)
def leafOf (p : List UInt8) : Leaf := (right p).getD zero

end Pg
/- The plain mathematics of pages, second part: what a page that reads can be. -/
namespace Pg
open Oct

theorem getN_pow (s : List UInt8) (a k : Nat) : Oct.getN s a k < 256 ^ k := by
  have h1 := Oct.getL_lt ((s.drop a).take k)
  have h2 : 256 ^ ((s.drop a).take k).length ≤ 256 ^ k := Nat.pow_le_pow_right (by omega) (by rw [List.length_take]; omega)
  unfold Oct.getN; omega
theorem recsOf_sizes (p : List UInt8) : ∀ (k : Nat) (rs : List ByteArray), recsOf p k = some rs → ∀ r ∈ rs, r.size ≤ 400 := by
  intro k
  induction k with
  | zero => intro rs h; simp [recsOf] at h; subst h; intro r hr; cases hr
  | succ k ih =>
    intro rs h
    unfold recsOf at h
    split at h
    · cases h
    · rename_i r0 h0
      split at h
      · cases h
      · rename_i hc
        injection h with h
        intro r hr
        rw [← h, List.mem_append] at hr
        rcases hr with hr | hr
        · exact ih r0 h0 r hr
        · rw [List.mem_singleton.1 hr]
          simp [ByteArray.size]
          omega
theorem sumSizes_le (rs : List ByteArray) (m : Nat) (h : ∀ r ∈ rs, r.size ≤ m) : sumSizes rs ≤ m * rs.length := by
  induction rs with
  | nil => simp [sumSizes]
  | cons r rs ih =>
    have h1 := h r (by simp)
    have h2 := ih (fun r hr => h r (by simp [hr]))
    simp only [sumSizes, List.length_cons, Nat.mul_succ]
    omega
structure Fine (x : Leaf) : Prop where
  small : Small x
  len : x.recs.length ≤ 123
  each : ∀ r ∈ x.recs, r.size ≤ 400
theorem Fine.sum {x : Leaf} (h : Fine x) : sumSizes x.recs ≤ 49200 := by
  have := sumSizes_le x.recs 400 h.each
  have := h.len
  omega
theorem Fine.sizeN {x : Leaf} (h : Fine x) : Pg.sizeN x.recs ≤ 60000 := by
  have := h.sum
  have := h.len
  unfold Pg.sizeN; omega
theorem zero_fine : Fine zero := ⟨⟨by decide, by decide, by decide⟩, by decide, by intro r hr; cases hr⟩
theorem rd_fine {p : List UInt8} {x : Leaf} (h : rd p = some x) : Fine x ∧ p.length = 512 := by
  unfold rd at h
  split at h
  · cases h
  · rename_i hc
    cases hr : recsOf p (getN p 15 2) with
    | none => rw [hr] at h; cases h
    | some rs =>
      rw [hr] at h
      injection h with h
      subst h
      have h1 := getN_pow p 4 6
      have h2 := getN_pow p 12 3
      refine ⟨⟨⟨by simpa using h1, (by show getN p 10 1 ≤ 4; omega), by simpa using h2⟩, (by show rs.length ≤ 123; rw [recsOf_length p _ rs hr]; omega), recsOf_sizes p _ rs hr⟩, by omega⟩
theorem layL_cases (x : Leaf) : layL x = [] ∨ ((layL x).length = 512 ∧ ∀ p : List UInt8, (layL x = putL 0 4 ++ p.drop 4 ↔ (layL x).drop 4 = p.drop 4)) := by
  by_cases h : 512 < Pg.sizeN (trim x.recs)
  · left; unfold layL layR; rw [if_pos h]
  · right
    refine ⟨layR_length x _ h, fun p => ?_⟩
    have h1 : layL x = putL 0 4 ++ (layL x).drop 4 := by
      unfold layL layR
      rw [if_neg h]
      unfold headL
      simp only [List.append_assoc]
      rw [List.drop_append_of_le_length (by rw [putL_length]; exact Nat.le_refl _), List.drop_of_length_le (by rw [putL_length]; exact Nat.le_refl _), List.nil_append]
    constructor
    · intro h2; rw [h2, List.drop_append_of_le_length (by rw [putL_length]; exact Nat.le_refl _), List.drop_of_length_le (by rw [putL_length]; exact Nat.le_refl _), List.nil_append]
    · intro h2; rw [h1, h2]
theorem right_some {p : List UInt8} {x : Leaf} : right p = some x ↔ rd p = some x ∧ layL x = putL 0 4 ++ p.drop 4 := by
  unfold right
  rw [Option.filter_eq_some_iff, decide_eq_true_iff]
theorem right_of {p : List UInt8} {x : Leaf} (h : rd p = some x) : right p = if decide (layL x = putL 0 4 ++ p.drop 4) then some x else none := by
  unfold right
  rw [h]; rfl
theorem right_none_of {p : List UInt8} (h : rd p = none) : right p = none := by unfold right; rw [h]; rfl
theorem right_fine {p : List UInt8} {x : Leaf} (h : right p = some x) : Fine x ∧ p.length = 512 := rd_fine (right_some.1 h).1
theorem leafOf_fine (p : List UInt8) : Fine (leafOf p) := by
  unfold leafOf
  cases h : right p with
  | none => exact zero_fine
  | some x => exact (right_fine h).1
/-- The record of a slot; empty: there is none. -/
def slotAt (rs : List ByteArray) (i : Int) : ByteArray := if i < 0 then ⟨#[]⟩ else (rs[i.toNat]?).getD ⟨#[]⟩
/-- The lowest slot whose record is empty. -/
def freeN : List ByteArray → Nat
  | [] => 0
  | r :: rs => if r.size = 0 then 0 else freeN rs + 1
theorem slotAt_neg {rs : List ByteArray} {i : Int} (h : i < 0) : slotAt rs i = ⟨#[]⟩ := if_pos h
theorem slotAt_past {rs : List ByteArray} {i : Int} (h : (rs.length : Int) ≤ i) : slotAt rs i = ⟨#[]⟩ := by
  unfold slotAt
  rw [if_neg (by omega), List.getElem?_eq_none (by omega)]; rfl
theorem slotAt_in {rs : List ByteArray} {k : Nat} (h : k < rs.length) : slotAt rs (k : Int) = rs[k] := by
  unfold slotAt
  rw [if_neg (by omega), show ((k : Int).toNat) = k from rfl, List.getElem?_eq_getElem h]; rfl
theorem freeN_at (rs : List ByteArray) (k : Nat) (h : k < rs.length) : freeN (rs.drop k) = if rs[k].size = 0 then 0 else freeN (rs.drop (k + 1)) + 1 := by
  rw [List.drop_eq_getElem_cons h]; rfl
theorem freeN_le (rs : List ByteArray) : freeN rs ≤ rs.length := by
  induction rs with
  | nil => exact Nat.le_refl _
  | cons r rs ih => unfold freeN; split <;> simp <;> omega
end Pg
/- The plain mathematics of pages, third part: a page that was laid is read back. -/
namespace Pg
open Oct

theorem getN_app (a b : List UInt8) (u k : Nat) (h : u < 256 ^ k) : getN (a ++ (putL u k ++ b)) a.length k = u := by
  unfold getN
  rw [List.drop_left, List.take_left' (putL_length u k), getL_putL, Nat.mod_eq_of_lt h]
theorem getN_app' (l a b : List UInt8) (n u k : Nat) (hl : l = a ++ (putL u k ++ b)) (hn : a.length = n) (h : u < 256 ^ k) : getN l n k = u := by
  rw [hl, ← hn]; exact getN_app a b u k h

/-- The last record, if there is one, is not empty. -/
def Tight (rs : List ByteArray) : Prop := ∀ r, rs.getLast? = some r → r.size ≠ 0
theorem trim_tight (rs : List ByteArray) : trim rs = rs ↔ Tight rs := by
  have h0 : trim rs = rs ↔ trimN rs rs.length = rs.length := by
    unfold trim
    constructor
    · intro h
      have h1 := congrArg List.length h
      rw [List.length_take] at h1
      have := trimN_le rs rs.length
      omega
    · intro h; rw [h, List.take_length]
  rw [h0]
  unfold Tight
  rw [List.getLast?_eq_getElem?]
  rcases hm : rs.length with _ | m
  · simp [trimN, hm]
  · have hlt : m < rs.length := by omega
    have hg : rs[m]? = some rs[m] := List.getElem?_eq_getElem hlt
    simp only [Nat.add_sub_cancel, hg, Option.some.injEq, forall_eq', trimN, Option.getD_some]
    constructor
    · intro h hz
      rw [if_pos hz] at h
      have := trimN_le rs m
      omega
    · intro h; rw [if_neg h]

theorem trim_trim (rs : List ByteArray) : Tight (trim rs) := by
  unfold trim
  have key : ∀ m, m ≤ rs.length → Tight (rs.take (trimN rs m)) := by
    intro m
    induction m with
    | zero => intro _ r hr; simp [trimN] at hr
    | succ m ih =>
      intro hm
      unfold trimN
      split
      · exact ih (by omega)
      · rename_i h
        intro r hr
        rw [List.getLast?_eq_getElem?, List.length_take, Nat.min_eq_left hm, Nat.add_sub_cancel, List.getElem?_take_of_lt (by omega)] at hr
        rw [hr] at h
        exact h
  exact key _ (Nat.le_refl _)
theorem trim_idem (rs : List ByteArray) : trim (trim rs) = trim rs := (trim_tight _).2 (trim_trim rs)

theorem layL_eq {x : Leaf} (h : sizeN (trim x.recs) ≤ 512) : layL x = headL x (trim x.recs).length (512 - sumSizes (trim x.recs)) ++ slotsL 512 (trim x.recs) ++ List.replicate (512 - sizeN (trim x.recs)) 0 ++ bodyL (trim x.recs) := by
  unfold layL layR
  rw [if_neg (by omega)]

/-- A page's bytes behind the sum. -/
def headT (x : Leaf) (n a : Nat) : List UInt8 := putL x.lsn 6 ++ (putL x.kind 1 ++ (putL 0 1 ++ (putL x.link 3 ++ (putL n 2 ++ putL a 2))))
theorem headL_eq (x : Leaf) (n a : Nat) : headL x n a = putL 0 4 ++ headT x n a := by unfold headL headT; simp only [List.append_assoc]
theorem headT_length (x : Leaf) (n a : Nat) : (headT x n a).length = 15 := by simp [headT, putL_length]
def tailR (x : Leaf) (rs : List ByteArray) : List UInt8 := headT x rs.length (512 - sumSizes rs) ++ (slotsL 512 rs ++ (List.replicate (512 - sizeN rs) 0 ++ bodyL rs))
theorem tailR_length (x : Leaf) (rs : List ByteArray) (h : sizeN rs ≤ 512) : (tailR x rs).length = 508 := by
  unfold tailR
  simp only [List.length_append, headT_length, slotsL_length, List.length_replicate, bodyL_length]
  have hz : sizeN rs = 19 + 4 * rs.length + sumSizes rs := rfl
  omega
theorem layL_tail {x : Leaf} (h : sizeN (trim x.recs) ≤ 512) : layL x = putL 0 4 ++ tailR x (trim x.recs) := by
  rw [layL_eq h, headL_eq]; unfold tailR; simp only [List.append_assoc]
structure Heads (x : Leaf) (l : List UInt8) (n : Nat) : Prop where
  lsn : getN l 4 6 = x.lsn
  kind : getN l 10 1 = x.kind
  link : getN l 12 3 = x.link
  count : getN l 15 2 = n
theorem headT_reads (h : List UInt8) (hh : h.length = 4) (x : Leaf) (hx : Small x) (n a : Nat) (hn : n < 65536) (b : List UInt8) : Heads x (h ++ (headT x n a ++ b)) n := by
  obtain ⟨h1, h2, h3⟩ := hx
  constructor
  · exact getN_app' _ h (putL x.kind 1 ++ (putL 0 1 ++ (putL x.link 3 ++ (putL n 2 ++ (putL a 2 ++ b))))) _ _ _ (by simp [headT]) (by simp [hh]) (by omega)
  · exact getN_app' _ (h ++ putL x.lsn 6) (putL 0 1 ++ (putL x.link 3 ++ (putL n 2 ++ (putL a 2 ++ b)))) _ _ _ (by simp [headT]) (by simp [putL_length, hh]) (by omega)
  · exact getN_app' _ (h ++ putL x.lsn 6 ++ putL x.kind 1 ++ putL 0 1) (putL n 2 ++ (putL a 2 ++ b)) _ _ _ (by simp [headT]) (by simp [putL_length, hh]) (by omega)
  · exact getN_app' _ (h ++ putL x.lsn 6 ++ putL x.kind 1 ++ putL 0 1 ++ putL x.link 3) (putL a 2 ++ b) _ _ _ (by simp [headT]) (by simp [putL_length, hh]) (by omega)

theorem slotL_eq (a : Nat) (r : ByteArray) : slotL a r = putL (if r.size = 0 then 0 else a - r.size) 2 ++ putL r.size 2 := by
  unfold slotL
  by_cases h : r.size = 0
  · rw [if_pos h, if_pos h, h]; rfl
  · rw [if_neg h, if_neg h]

theorem slotsL_split (rs : List ByteArray) (k : Nat) (h : k < rs.length) : slotsL 512 rs = slotsL 512 (rs.take k) ++ (slotL (512 - sumSizes (rs.take k)) rs[k] ++ slotsL (512 - sumSizes (rs.take k) - rs[k].size) (rs.drop (k + 1))) := by
  have h1 : rs = rs.take k ++ rs[k] :: rs.drop (k + 1) := by rw [← List.drop_eq_getElem_cons h, List.take_append_drop]
  conv => lhs; rw [h1]
  rw [slotsL_append]; rfl
theorem bodyL_split (rs : List ByteArray) (k : Nat) (h : k < rs.length) : bodyL rs = bodyL (rs.drop (k + 1)) ++ (rs[k].data.toList ++ bodyL (rs.take k)) := by
  have h1 : rs = rs.take k ++ rs[k] :: rs.drop (k + 1) := by rw [← List.drop_eq_getElem_cons h, List.take_append_drop]
  conv => lhs; rw [h1]
  rw [bodyL_append]; simp [bodyL]
theorem sumSizes_split (rs : List ByteArray) (k : Nat) (h : k < rs.length) : sumSizes rs = sumSizes (rs.take k) + rs[k].size + sumSizes (rs.drop (k + 1)) := by
  have h1 : rs = rs.take k ++ rs[k] :: rs.drop (k + 1) := by rw [← List.drop_eq_getElem_cons h, List.take_append_drop]
  conv => lhs; rw [h1]
  rw [sumSizes_append]; simp [sumSizes]; omega

theorem recsOf_lay (h : List UInt8) (hh : h.length = 4) (x : Leaf) (rs : List ByteArray) (hs : sizeN rs ≤ 512) (he : ∀ r ∈ rs, r.size ≤ 400) :
    ∀ k, k ≤ rs.length → recsOf (h ++ tailR x rs) k = some (rs.take k) := by
  intro k
  induction k with
  | zero => intro _; simp [recsOf]
  | succ k ih =>
    intro hk
    have hk' : k < rs.length := by omega
    unfold recsOf
    rw [ih (by omega)]
    simp only
    have hsum := sumSizes_split rs k hk'
    have hz : sizeN rs = 19 + 4 * rs.length + sumSizes rs := rfl
    have hr4 : rs[k].size ≤ 400 := he _ (List.getElem_mem hk')
    have hsp := slotsL_split rs k hk'
    have hbs := bodyL_split rs k hk'
    have hse := slotL_eq (512 - sumSizes (rs.take k)) rs[k]
    have hl1 : (slotsL 512 (rs.take k)).length = 4 * k := by rw [slotsL_length, List.length_take]; omega
    have g1 : getN (h ++ tailR x rs) (19 + 4 * k) 2 = if rs[k].size = 0 then 0 else 512 - sumSizes (rs.take k) - rs[k].size := by
      refine getN_app' _ (h ++ headT x rs.length (512 - sumSizes rs) ++ slotsL 512 (rs.take k)) (putL rs[k].size 2 ++ (slotsL (512 - sumSizes (rs.take k) - rs[k].size) (rs.drop (k + 1)) ++ (List.replicate (512 - sizeN rs) 0 ++ bodyL rs))) _ _ _ ?_ ?_ ?_
      · unfold tailR; rw [hsp, hse]; simp only [List.append_assoc]
      · rw [List.length_append, List.length_append, headT_length, hl1, hh]
      · split <;> omega
    have g2 : getN (h ++ tailR x rs) (21 + 4 * k) 2 = rs[k].size := by
      refine getN_app' _ (h ++ headT x rs.length (512 - sumSizes rs) ++ slotsL 512 (rs.take k) ++ putL (if rs[k].size = 0 then 0 else 512 - sumSizes (rs.take k) - rs[k].size) 2) (slotsL (512 - sumSizes (rs.take k) - rs[k].size) (rs.drop (k + 1)) ++ (List.replicate (512 - sizeN rs) 0 ++ bodyL rs)) _ _ _ ?_ ?_ ?_
      · unfold tailR; rw [hsp, hse]; simp only [List.append_assoc]
      · rw [List.length_append, List.length_append, List.length_append, headT_length, hl1, putL_length, hh]; omega
      · omega
    rw [g1, g2]
    rw [if_neg (by split <;> omega)]
    rw [List.take_succ_eq_append_getElem hk']
    congr 2
    by_cases h0 : rs[k].size = 0
    · rw [h0]
      have : rs[k] = ⟨#[]⟩ := by apply ByteArray.ext; exact Array.eq_empty_of_size_eq_zero h0
      rw [this]; rfl
    · rw [if_neg h0]
      have hpre : (h ++ (headT x rs.length (512 - sumSizes rs) ++ (slotsL 512 rs ++ (List.replicate (512 - sizeN rs) 0 ++ bodyL (rs.drop (k + 1)))))).length = 512 - sumSizes (rs.take k) - rs[k].size := by
        simp only [List.length_append, headT_length, slotsL_length, List.length_replicate, bodyL_length, hh]; omega
      have hsplit : h ++ tailR x rs = (h ++ (headT x rs.length (512 - sumSizes rs) ++ (slotsL 512 rs ++ (List.replicate (512 - sizeN rs) 0 ++ bodyL (rs.drop (k + 1)))))) ++ (rs[k].data.toList ++ bodyL (rs.take k)) := by
        unfold tailR
        conv => lhs; rw [hbs]
        simp only [List.append_assoc]
      rw [hsplit, ← hpre, List.drop_left, List.take_left' (by simp)]

/-- A page that was laid is read back, whatever its sum. -/
theorem rd_tail (h : List UInt8) (hh : h.length = 4) {x : Leaf} (hx : Small x) (rs : List ByteArray) (hs : sizeN rs ≤ 512) (he : ∀ r ∈ rs, r.size ≤ 400) : rd (h ++ tailR x rs) = some { x with recs := rs } := by
  have hz : sizeN rs = 19 + 4 * rs.length + sumSizes rs := rfl
  have hd := headT_reads h hh x hx rs.length (512 - sumSizes rs) (by omega) (slotsL 512 rs ++ (List.replicate (512 - sizeN rs) 0 ++ bodyL rs))
  have hr := recsOf_lay h hh x rs hs he rs.length (Nat.le_refl _)
  rw [List.take_length] at hr
  have hl : (h ++ tailR x rs).length = 512 := by rw [List.length_append, tailR_length x rs hs, hh]
  change Heads x (h ++ tailR x rs) rs.length at hd
  unfold rd
  rw [hd.kind, hd.count, hd.lsn, hd.link, hl, if_neg (by have := hx.2.1; omega), hr]
  rfl
theorem trim_of_tight {rs : List ByteArray} (h : Tight rs) : trim rs = rs := (trim_tight rs).2 h
theorem right_tail (h : List UInt8) (hh : h.length = 4) {x : Leaf} (hx : Small x) (rs : List ByteArray) (hs : sizeN rs ≤ 512) (he : ∀ r ∈ rs, r.size ≤ 400) (ht : Tight rs) : right (h ++ tailR x rs) = some { x with recs := rs } := by
  rw [right_some]
  refine ⟨rd_tail h hh hx rs hs he, ?_⟩
  have h1 : trim ({ x with recs := rs } : Leaf).recs = rs := trim_of_tight ht
  rw [layL_tail (x := { x with recs := rs }) (by rw [h1]; exact hs), h1, ← hh, List.drop_left]
  rfl
theorem right_layL {x : Leaf} (hx : Small x) (hs : sizeN (trim x.recs) ≤ 512) (he : ∀ r ∈ x.recs, r.size ≤ 400) : right (layL x) = some { x with recs := trim x.recs } := by
  rw [layL_tail hs]
  exact right_tail _ (putL_length 0 4) hx _ hs (fun r hr => he r (List.mem_of_mem_take hr)) (trim_trim _)
/-- A page's own records. -/
theorem right_tight {p : List UInt8} {x : Leaf} (h : right p = some x) : Tight x.recs ∧ sizeN x.recs ≤ 512 := by
  obtain ⟨h1, h2⟩ := right_some.1 h
  obtain ⟨hf, h512⟩ := rd_fine h1
  have hlen : (layL x).length = 512 := by
    rw [h2, List.length_append, putL_length, List.length_drop, h512]
  have hs : sizeN (trim x.recs) ≤ 512 := by
    rcases Nat.lt_or_ge 512 (sizeN (trim x.recs)) with h3 | h3
    · have : layL x = [] := by unfold layL layR; rw [if_pos h3]
      rw [this] at hlen; cases hlen
    · exact h3
  have hd := headT_reads (putL 0 4) (putL_length 0 4) x hf.small (trim x.recs).length (512 - sumSizes (trim x.recs)) (by have : sizeN (trim x.recs) = 19 + 4 * (trim x.recs).length + sumSizes (trim x.recs) := rfl; omega) (slotsL 512 (trim x.recs) ++ (List.replicate (512 - sizeN (trim x.recs)) 0 ++ bodyL (trim x.recs)))
  change Heads x (putL 0 4 ++ tailR x (trim x.recs)) _ at hd
  rw [← layL_tail hs] at hd
  have hc := hd.count
  have hcp : getN (layL x) 15 2 = getN p 15 2 := by
    rw [h2]
    unfold getN
    rw [show 15 = 4 + 11 from rfl, ← List.drop_drop, ← List.drop_drop, List.drop_left' (putL_length 0 4)]
  have hn : x.recs.length = getN p 15 2 := by
    unfold rd at h1
    split at h1
    · cases h1
    · cases hr : recsOf p (getN p 15 2) with
      | none => rw [hr] at h1; cases h1
      | some rs =>
        rw [hr] at h1
        injection h1 with h1
        rw [← h1]
        exact recsOf_length p _ rs hr
  have ht : trim x.recs = x.recs := by
    have h5 : (trim x.recs).length = x.recs.length := by rw [hn, ← hcp, hc]
    unfold trim at h5 ⊢
    rw [List.length_take] at h5
    exact List.take_of_length_le (by omega)
  exact ⟨(trim_tight _).1 ht, by rw [ht] at hs; exact hs⟩
/-- A page's bytes: its sum, and what its parts say. -/
theorem right_bytes {p : List UInt8} {x : Leaf} (h : right p = some x) : p = p.take 4 ++ tailR x x.recs := by
  obtain ⟨ht, hs⟩ := right_tight h
  have h1 : trim x.recs = x.recs := trim_of_tight ht
  have h2 := (right_some.1 h).2
  rw [layL_tail (by rw [h1]; exact hs), h1] at h2
  have h3 := List.append_cancel_left h2
  rw [h3, List.take_append_drop]
/-- What a page says does not hang on its sum. -/
theorem right_sum {p q : List UInt8} {x : Leaf} (h : right p = some x) (hl : q.length = 512) (hd : q.drop 4 = p.drop 4) : right q = some x := by
  obtain ⟨ht, hs⟩ := right_tight h
  have h5 := (right_fine h).2
  have hb := right_bytes h
  have h1 : p.drop 4 = tailR x x.recs := by
    conv => lhs; rw [hb]
    exact List.drop_left' (by rw [List.length_take]; omega)
  rw [← List.take_append_drop 4 q, hd, h1]
  exact right_tail _ (by rw [List.length_take]; omega) (right_fine h).1.small _ hs (right_fine h).1.each ht
end Pg
/- The walks over package octet: numbers in bytes. -/
namespace Go.Proofs.YtkndifannjpbcaaGreatDoor
open Go.RowKit

/-- One byte of the number, as the walk writes it. -/
def byteI (n : Int) (size i : Nat) : Int := IntKind.u64.wrap n / 2 ^ (8 * (size - 1 - i)) % 256
theorem wrap_word (n : Int) : IntKind.u64.wrap n = (Oct.word n : Int) := by
  show n % 18446744073709551616 = _
  unfold Oct.word; omega
theorem byteI_eq (n : Int) (size i : Nat) : byteI n size i = ((Oct.word n / 256 ^ (size - 1 - i) % 256 : Nat) : Int) := by
  have e : (256 : Nat) ^ (size - 1 - i) = 2 ^ (8 * (size - 1 - i)) := by rw [Nat.pow_mul]
  rw [byteI, wrap_word, e]
  simp
/-- The cells of the bytes that octet.Put makes, once k of them are stored. -/
def fillA (n : Int) (size k : Nat) : Array Value := ((List.range size).map fun i => Value.int .u8 (if i < k then byteI n size i else 0)).toArray

theorem Tryz.elem8 : (Tryz.prog.info? 5).map (fun i => (i.zero, i.size, i.bytes)) = some (some (.int .u8 0), 1, 1) := by kernel_rfl

theorem fillA_start (n : Int) (size : Nat) : madeCells (Value.int .u8 0).cells (size * 1) = fillA n size 0 := by
  apply Array.ext_getElem?
  intro i
  simp only [madeCells, fillA, Nat.mul_one]
  by_cases h : i < size
  · simp [h, Value.cells, Nat.mod_one]
  · simp [h]
theorem fillA_store (n : Int) (size k : Nat) (_hk : k < size) : (fillA n size k).setIfInBounds k (.int .u8 (byteI n size k)) = fillA n size (k + 1) := by
  apply Array.ext_getElem?
  intro i
  simp only [fillA, List.setIfInBounds_toArray, List.getElem?_toArray, List.getElem?_set, List.getElem?_map, List.length_map, List.length_range]
  by_cases hi : k = i
  · subst hi
    simp [_hk]
  · rw [if_neg hi]
    by_cases h : i < size
    · simp only [List.getElem?_range h, Option.map_some]
      by_cases h2 : i < k
      · rw [if_pos h2, if_pos (by omega)]
      · rw [if_neg h2, if_neg (by omega)]
    · simp [h]
theorem fillA_cell (n : Int) (size k j : Nat) (hj : j < size) : (fillA n size k)[j]? = some (.int .u8 (if j < k then byteI n size j else 0)) := by
  simp [fillA, hj]
theorem fillA_end (n : Int) (size j : Nat) (hj : j < (Oct.putL (Oct.word n) size).length) : (fillA n size size)[j]? = some (.int .u8 ((Oct.putL (Oct.word n) size)[j].toNat : Int)) := by
  have hl := Oct.putL_length (Oct.word n) size
  rw [fillA_cell n size size j (by omega), if_pos (by omega), byteI_eq]
  have h := Oct.putL_get size (Oct.word n) j (by omega)
  rw [List.getElem?_eq_getElem hj] at h
  injection h with h
  rw [h, UInt8.toNat_ofNat']
  have : Oct.word n / 256 ^ (size - 1 - j) % 256 % 2 ^ 8 = Oct.word n / 256 ^ (size - 1 - j) % 256 := by omega
  rw [this]

theorem make_run (n : Int) (size : Nat) (hs : size ≤ 8) (W : World) : (Instr.makeSlice 54 (.int .i64 (size : Int)) (.int .i64 (size : Int))).run Tryz.prog W = .ok (.slice (some ⟨W.heap.size, 0, none⟩) size size) (W.alloc (.cells (fillA n size 0) 5)) := by
  obtain ⟨i0, hi, hz0, hz1, hz2⟩ := info_parts Tryz.elem8
  have h := run_make (P := Tryz.prog) W 54 5 i0 (.int .u8 0) Tryz.underlying54 hi hz0 .i64 .i64 size size (by omega) (by omega) (by rw [hz2]; omega) (by omega)
  rw [hz1, Int.toNat_natCast, fillA_start n size] at h
  exact h

theorem convert_run (n : Int) (size : Nat) (w : World) : (convert 54 9 (.slice (some ⟨w.heap.size, 0, none⟩) size size)).run Tryz.prog (w.alloc (.cells (fillA n size size) 5)) = .ok (.string ⟨(Oct.putL (Oct.word n) size).toArray⟩) (w.alloc (.cells (fillA n size size) 5)) := by
  have hl := Oct.putL_length (Oct.word n) size
  have h := run_convert_bytes_back (P := Tryz.prog) (w.alloc (.cells (fillA n size size) 5)) 54 9 5 ⟨w.heap.size, 0, none⟩ size (Oct.putL (Oct.word n) size) Tryz.underlying54 Tryz.underlying5 Tryz.underlying9 (fun j hj => by
    have ha : (⟨w.heap.size, 0, none⟩ : Addr).add j = ⟨w.heap.size, j, none⟩ := by
      unfold Addr.add; split
      · rename_i h; rw [h]
      · simp
    rw [ha, World.cell?_alloc_new]
    exact fillA_end n size j hj)
  rw [hl] at h
  exact h

theorem put_walk (n : Int) (size : Nat) (hs : size ≤ 8) (w : World) :
    Calls Tryz.prog 44 #[.int .i64 n, .int .i64 size] w fun e w' => e = .returned (.string (Oct.putB n size)) ∧ Below w.heap.size w w' := by
  have hmk := make_run n size hs
  have HP := Lib.hid (show Oct.putB n size = ⟨(Oct.putL (Oct.word n) size).toArray⟩ from by rw [Oct.putB, if_neg (by omega), Int.toNat_natCast])
  go_enter Tryz.func44, Tryz.ntmps44
  go_wp2_with fail
  clear hmk
  go_loopw [17] (fun i wr => ∃ k : Nat, k ≤ size ∧ i = .int .i64 k ∧ wr = w.alloc (.cells (fillA n size k) 5)) (fun i _ => size - (intOf i).toNat)
  case atStart => exact ⟨0, Nat.zero_le _, rfl, rfl⟩
  case round =>
    obtain ⟨k, hk, rfl, rfl⟩ := hrel
    by_cases hlt : k < size
    · have hc : (fillA n size k)[k]? = some (.int .u8 0) := by rw [fillA_cell n size k k hlt, if_neg (by omega)]
      have HS := Lib.hid (fillA_store n size k hlt)
      go_wp2_with fail
      go_roundw
      case rel => exact ⟨k + 1, by omega, by go_num, by rw [← HS.out]; rfl⟩
      case measure => simp [intOf]; omega
    · obtain rfl : size = k := by omega
      have hcv := convert_run n size w
      go_wp2_with fail
      go_ret
      exact ⟨by rw [HP.out]; rfl, (Below.refl _ _).alloc (Nat.le_refl _) _⟩
/-- octet.Put, of as many bytes as fit. -/
theorem put_any (n size : Int) (h0 : 0 ≤ size) (h8 : size ≤ 8) (w : World) :
    Calls Tryz.prog 44 #[.int .i64 n, .int .i64 size] w fun e w' => e = .returned (.string (Oct.putB n size)) ∧ Below w.heap.size w w' := by
  obtain ⟨k, rfl⟩ := Int.eq_ofNat_of_zero_le h0
  exact put_walk n k (by omega) w

/-- The number of the first k bytes, as the walk carries it. -/
def accI (t : ByteArray) (k : Nat) : Int := (Oct.getL (t.data.toList.take k) : Int)

theorem or_step (x c : Nat) (hx : x < 72057594037927936) (hc : c < 256) : bits .or .u64 (IntKind.u64.wrap ((x : Int) * 256)) (IntKind.u64.wrap (c : Int)) = ((256 * x + c : Nat) : Int) := by
  rw [IntKind.wrap_u64, IntKind.wrap_u64, show (x : Int) * 256 % 18446744073709551616 = ((256 * x : Nat) : Int) by omega, show (c : Int) % 18446744073709551616 = (c : Int) by omega, bits_or_u64_nat _ _ (by omega) (by omega), Oct.or_byte x c hc]
theorem accI_step (t : ByteArray) (k : Nat) (hk : k < t.size) (h8 : k < 8) : bits .or .u64 (IntKind.u64.wrap (accI t k * 256)) (IntKind.u64.wrap ((t.data[k]?.getD 0).toNat : Int)) = accI t (k + 1) := by
  have hl : k < t.data.toList.length := by simpa using hk
  have e : t.data.toList[k]?.getD 0 = t.data[k]?.getD 0 := by simp
  unfold accI
  rw [Oct.getL_take _ k hl, e, or_step _ _ (Oct.getL_take_lt _ k h8) (t.data[k]?.getD 0).toNat_lt]
theorem wrap_int (u : Nat) (h : u < 18446744073709551616) : wrap64 (u : Int) = Oct.intOf u := by
  unfold Oct.intOf wrap64
  split <;> omega
theorem below_bytes (w : World) (e : TypeId) (s : ByteArray) : Below w.heap.size w (Lib.bytesWorld w e s) :=
  ⟨rfl, rfl, rfl, by rw [Lib.bytesWorld_size]; omega, fun j hj => Lib.bytesWorld_at_old w e s j hj⟩
theorem get_yes (s : ByteArray) (a size : Nat) (hs1 : 1 ≤ size) (hs8 : size ≤ 8) (hin : a + size ≤ s.size) (hm : s.size ≤ 281474976710656) (w : World) :
    Calls Tryz.prog 83 #[.string s, .int .i64 (a : Int), .int .i64 (size : Int)] w fun e w' => e = .returned (.tuple #[.int .i64 (Oct.intOf (Oct.getN s.data.toList a size)), .bool true]) ∧ Below w.heap.size w w' := by
  obtain ⟨t, ht⟩ : ∃ t : ByteArray, t = s.extract a (a + size) := ⟨_, rfl⟩
  have htl : t.data.toList = (s.data.toList.drop a).take size := by rw [ht]; simp
  have hts : t.size = size := by rw [ht, ByteArray.size_extract]; omega
  have hcv := fun W => Lib.run_convert_string_bytes (P := Tryz.prog) W 9 54 5 (s.extract a (a + size)) Tryz.underlying9 Tryz.underlying54 Tryz.underlying5
  have HT := Lib.hid ht
  have HL := Lib.hid htl
  have HS := Lib.hid hts
  clear ht htl hts
  go_enter Tryz.func83, Tryz.ntmps83
  go_wp2_with fail
  clear hcv
  generalize hwt : Lib.bytesWorld w 5 (s.extract a (a + size)) = wt
  have HW := Lib.hid hwt
  clear hwt
  have HC := Lib.hid (show ∀ k, k < size → wt.cell? ⟨w.heap.size, k, none⟩ = some (.int .u8 ((t.data.toList.getD k 0).toNat : Int)) from fun k hk => by
    rw [← HW.out, ← HT.out]
    exact Lib.bytesWorld_cell w 5 t k (by rw [HS.out]; exact hk))
  go_loop [8, 43] (fun n i => ∃ k : Nat, k ≤ size ∧ i = .int .i64 k ∧ n = .int .u64 (accI t k)) (fun _ i => size - (intOf i).toNat)
  case atStart => exact ⟨0, Nat.zero_le _, rfl, rfl⟩
  case round =>
    obtain ⟨k, hk, rfl, rfl⟩ := hrel
    by_cases hlt : k < size
    · have hc := HC.out k hlt
      have HA := Lib.hid (accI_step t k (by rw [HS.out]; exact hlt) (by omega))
      go_wp2_with fail
      go_round
      case rel => exact ⟨k + 1, by omega, by go_num, by rw [HA.out]⟩
      case measure => simp [intOf]; omega
    · obtain rfl : size = k := by omega
      have HE := Lib.hid (show wrap64 (accI t size) = Oct.intOf (Oct.getN s.data.toList a size) by
        have h1 : t.data.toList.take size = t.data.toList := List.take_of_length_le (by have := HS.out; simp; omega)
        have h2 : Oct.getL t.data.toList < 18446744073709551616 := by
          have := Oct.getL_lt t.data.toList
          have h3 : 256 ^ t.data.toList.length ≤ 256 ^ 8 := Nat.pow_le_pow_right (by omega) (by have := HS.out; simp; omega)
          omega
        rw [accI, h1, wrap_int _ h2, HL.out]; rfl)
      go_wp2_with fail
      go_ret2
      refine ⟨by rw [← HE.out]; rfl, ?_⟩
      rw [← HW.out]
      exact below_bytes _ _ _

theorem get_no (s : ByteArray) (a size : Int) (hm : s.size ≤ 281474976710656) (hb1 : -4611686018427387904 ≤ a) (hb2 : a ≤ 4611686018427387904) (hn : Oct.there s.size a size = false) (w : World) :
    Calls Tryz.prog 83 #[.string s, .int .i64 a, .int .i64 size] w fun e w' => e = .returned (.tuple #[.int .i64 0, .bool false]) ∧ w = w' := by
  have hcase : size < 1 ∨ (1 ≤ size ∧ 8 < size) ∨ (1 ≤ size ∧ size ≤ 8 ∧ a < 0) ∨ (1 ≤ size ∧ size ≤ 8 ∧ 0 ≤ a ∧ (s.size : Int) < a) ∨ (1 ≤ size ∧ size ≤ 8 ∧ 0 ≤ a ∧ a ≤ (s.size : Int) ∧ (s.size : Int) - a < size) := by
    simp only [Oct.there, Bool.and_eq_false_iff, decide_eq_false_iff_not] at hn
    omega
  clear hn
  rcases hcase with h | ⟨h1, h2⟩ | ⟨h1, h2, h3⟩ | ⟨h1, h2, h3, h4⟩ | ⟨h1, h2, h3, h4, h5⟩
  all_goals
    go_enter Tryz.func83, Tryz.ntmps83
    go_wp2_with fail
    go_ret2
    exact ⟨rfl, rfl⟩

theorem xor_byte (n : Nat) (c : UInt8) (hn : n < 4294967296) : bits .xor .u32 (n : Int) ((c.toNat : Int) % 4294967296) = ((n ^^^ c.toNat : Nat) : Int) := by
  have := c.toNat_lt
  rw [show (c.toNat : Int) % 4294967296 = (c.toNat : Int) by omega, u32_xor_nat _ _ hn (by omega)]
/-- A sum's own arithmetic: one bit. -/
theorem and_one (n : Nat) (hn : n < 4294967296) : bits .and .u32 (n : Int) 1 = ((n % 2 : Nat) : Int) := by
  have h := u32_and_nat n 1 hn (by omega)
  rw [Nat.and_one_is_mod] at h
  exact h
theorem crc_bit (n : Nat) (hn : n < 4294967296) : bits .xor .u32 ((n : Int) / 2) (3988292384 * bits .and .u32 (n : Int) 1 % 4294967296) = (Oct.bit1 n : Int) := by
  rw [and_one n hn]
  unfold Oct.bit1
  by_cases h : n % 2 = 1
  · rw [if_pos h, h, show (3988292384 * ((1 : Nat) : Int)) % 4294967296 = ((3988292384 : Nat) : Int) by omega, show (n : Int) / 2 = ((n / 2 : Nat) : Int) by omega, u32_xor_nat _ _ (by omega) (by omega)]
  · have h0 : n % 2 = 0 := by omega
    rw [if_neg h, h0, show (3988292384 * ((0 : Nat) : Int)) % 4294967296 = ((0 : Nat) : Int) by omega, show (n : Int) / 2 = ((n / 2 : Nat) : Int) by omega, u32_xor_nat _ _ (by omega) (by omega), Nat.xor_zero]
theorem crc_not (n : Nat) (hn : n < 4294967296) : wrap64 (bits .xor .u32 IntKind.u32.max (n : Int)) = ((n ^^^ 4294967295 : Nat) : Int) := by
  have hx : 4294967295 ^^^ n < 2 ^ 32 := Nat.xor_lt_two_pow (by omega) hn
  have h := u32_xor_nat 4294967295 n (by omega) hn
  rw [show IntKind.u32.max = ((4294967295 : Nat) : Int) from rfl, h, Nat.xor_comm]
  rw [Nat.xor_comm] at hx
  exact IntWalk.wrap64_in _ ⟨by omega, by omega⟩
theorem crc_snoc (s : ByteArray) (k : Nat) (h : k < s.size) : Oct.crcFrom 4294967295 (s.data.toList.take (k + 1)) = Oct.crcByte (Oct.crcFrom 4294967295 (s.data.toList.take k)) s[k] := by
  rw [List.take_succ_eq_append_getElem (by simpa using h), Oct.crcFrom_snoc]; rfl

end Go.Proofs.YtkndifannjpbcaaGreatDoor
/- The walks over the reference of chapter 5: numbers in bytes, the sum. -/
namespace Go.Proofs.YtkndifannjpbcaaGreatDoor
open Go.RowKit

/-- What the reference's Put has gathered after k rounds. -/
theorem putL_step (u k : Nat) : Oct.putL u (k + 1) = UInt8.ofNat (u / 256 ^ k % 256) :: Oct.putL u k := by
  induction k generalizing u with
  | zero => simp [Oct.putL]
  | succ k ih =>
    rw [Oct.putL, ih, Oct.putL]
    simp only [List.cons_append]
    rw [Nat.div_div_eq_div_mul, Nat.pow_succ, Nat.mul_comm 256]

/-- string([]byte{c}). -/
theorem one_byte (c : Nat) (hc : c < 256) (W : World) : (convert 54 9 (.slice (some ⟨W.heap.size, 0, none⟩) 1 1)).run Tryz.prog (W.alloc (.cells #[.int .u8 (c : Int)] 5)) = .ok (.string ⟨#[UInt8.ofNat c]⟩) (W.alloc (.cells #[.int .u8 (c : Int)] 5)) := by
  have h := run_convert_bytes_back (P := Tryz.prog) (W.alloc (.cells #[.int .u8 (c : Int)] 5)) 54 9 5 ⟨W.heap.size, 0, none⟩ 1 [UInt8.ofNat c] Tryz.underlying54 Tryz.underlying5 Tryz.underlying9 (fun j hj => by
    obtain rfl : j = 0 := by simpa using hj
    show World.cell? _ ⟨W.heap.size, 0, none⟩ = _
    rw [World.cell?_alloc_new]
    have e : (UInt8.ofNat c).toNat = c := by rw [UInt8.toNat_ofNat']; omega
    simp [e])
  exact h

theorem rput_walk (n : Int) (size : Nat) (hs : size ≤ 8) (w : World) :
    Calls Tryz.prog 76 #[.int .i64 n, .int .i64 size] w fun e w' => e = .returned (.string (Oct.putB n size)) ∧ Below w.heap.size w w' := by
  have HP := Lib.hid (show Oct.putB n size = ⟨(Oct.putL (Oct.word n) size).toArray⟩ from by rw [Oct.putB, if_neg (by omega), Int.toNat_natCast])
  go_enter Tryz.func76, Tryz.ntmps76
  go_wp2_with fail
  go_loopw [5, 6, 7] (fun o u i wr => ∃ k x : Nat, k ≤ size ∧ i = .int .i64 k ∧ u = .int .u64 (x : Int) ∧ x = Oct.word n / 256 ^ k ∧ o = .string ⟨(Oct.putL (Oct.word n) k).toArray⟩ ∧ Below w.heap.size w wr) (fun _ _ i _ => size - (intOf i).toNat)
  case atStart => exact ⟨0, Oct.word n, Nat.zero_le _, rfl, by rw [← wrap_word], by simp, rfl, Below.refl _ _⟩
  case round =>
    obtain ⟨k, x, hk, rfl, rfl, hx, rfl, hb⟩ := hrel
    have HX := Lib.hid hx
    have hxl : x < 18446744073709551616 := by
      rw [hx]; exact Nat.lt_of_le_of_lt (Nat.div_le_self _ _) (Oct.word_lt n)
    clear hx
    by_cases hlt : k < size
    · obtain ⟨c, hc⟩ : ∃ c : Nat, c = x % 256 := ⟨_, rfl⟩
      obtain ⟨y, hy⟩ : ∃ y : Nat, y = x / 256 := ⟨_, rfl⟩
      have hand : bits .and .u64 (x : Int) 255 = (c : Int) := by
        have h := bits_and_u64_nat x 255 hxl (by omega)
        rw [show x &&& 255 = x % 256 from Nat.and_two_pow_sub_one_eq_mod x 8, ← hc] at h
        exact h
      have hdiv : (x : Int) / 256 = (y : Int) := by omega
      have hc256 : c < 256 := by omega
      have hci : (c : Int) < 256 := by omega
      have hmod : (c : Int) % 256 = (c : Int) := by omega
      have hcv := one_byte c hc256
      have hsz : (Oct.putL (Oct.word n) k).length ≤ 8 := by rw [Oct.putL_length]; omega
      generalize hl : Oct.putL (Oct.word n) k = l at hsz ⊢
      have HL := Lib.hid hl
      have HC := Lib.hid hc
      have HY := Lib.hid hy
      clear hl hc hy
      obtain ⟨t, ht⟩ : ∃ t : ByteArray, t = ⟨l.toArray⟩ := ⟨_, rfl⟩
      have hadd : ∀ W : World, (Op.stringOp .add ⟨#[UInt8.ofNat c]⟩ t).run Tryz.prog W = .ok (.string (⟨#[UInt8.ofNat c]⟩ ++ t)) W := fun W => run_string_add_sum W _ _ (by
        rw [ht]
        show 1 + l.toArray.size ≤ _
        simp; omega)
      rw [← ht]
      have HT := Lib.hid ht
      clear ht
      go_wp2_with fail
      go_roundw
      case rel => exact ⟨k + 1, y, by omega, by go_num, rfl, by rw [HY.out, HX.out, Nat.pow_succ, Nat.div_div_eq_div_mul], by
        rw [putL_step, HL.out, HT.out, HC.out, HX.out]
        exact congrArg Value.string (ByteArray.ext (by simp)), hb.alloc hb.size _⟩
      case measure => simp [intOf]; omega
    · obtain rfl : size = k := by omega
      go_wp2_with fail
      go_ret
      exact ⟨by rw [HP.out]; rfl, hb⟩
theorem rput_any (n size : Int) (h0 : 0 ≤ size) (h8 : size ≤ 8) (w : World) :
    Calls Tryz.prog 76 #[.int .i64 n, .int .i64 size] w fun e w' => e = .returned (.string (Oct.putB n size)) ∧ Below w.heap.size w w' := by
  obtain ⟨k, rfl⟩ := Int.eq_ofNat_of_zero_le h0
  exact rput_walk n k (by omega) w

theorem there_yes (len : Nat) (s : ByteArray) (a size : Nat) (_hl : len = s.size) (hin : a + size ≤ s.size) (hm : s.size ≤ 281474976710656) (w : World) :
    Calls Tryz.prog 90 #[.string s, .int .i64 (a : Int), .int .i64 (size : Int)] w fun e w' => e = .returned (.bool true) ∧ w = w' := by
  clear _hl
  go_enter Tryz.func90, Tryz.ntmps90
  go_wp2_with fail
  go_ret
  exact ⟨congrArg (fun b => Ending.returned (.bool b)) (decide_eq_true (by omega)), rfl⟩

theorem rget_yes (s : ByteArray) (a size : Nat) (hs1 : 1 ≤ size) (hs8 : size ≤ 8) (hin : a + size ≤ s.size) (hm : s.size ≤ 281474976710656) (w : World) :
    Calls Tryz.prog 77 #[.string s, .int .i64 (a : Int), .int .i64 (size : Int)] w fun e w' => e = .returned (.tuple #[.int .i64 (Oct.intOf (Oct.getN s.data.toList a size)), .bool true]) ∧ w = w' := by
  obtain ⟨t, ht⟩ : ∃ t : ByteArray, t = s.extract a (a + size) := ⟨_, rfl⟩
  have htl : t.data.toList = (s.data.toList.drop a).take size := by rw [ht]; simp
  have hts : t.size = size := by rw [ht, ByteArray.size_extract]; omega
  have hlt : ∀ k, k < size → a + k < s.size := fun k h => by omega
  have htb : ∀ k (h : k < size), (t.data[k]?.getD 0) = s[a + k]'(hlt k h) := by
    intro k h
    have h1 : t.data.toList[k]? = s.data.toList[a + k]? := by
      rw [htl, List.getElem?_take_of_lt h, List.getElem?_drop]
    have h2 : t.data[k]? = s.data[a + k]? := by simpa using h1
    rw [h2, Array.getElem?_eq_getElem (show a + k < s.data.size from by show a + k < s.size; omega)]
    rfl
  have HT := Lib.hid htb
  have HL := Lib.hid htl
  have HS := Lib.hid hts
  clear ht htl hts htb
  go_enter Tryz.func77, Tryz.ntmps77
  go_wp2_with (go_at_call 90; refine (there_yes _ s a size rfl hin hm _).mono ?_; rintro e w' ⟨rfl, rfl⟩)
  go_loop [8, 9] (fun n i => ∃ k : Nat, k ≤ size ∧ i = .int .i64 k ∧ n = .int .u64 (accI t k)) (fun _ i => size - (intOf i).toNat)
  case atStart => exact ⟨0, Nat.zero_le _, rfl, rfl⟩
  case round =>
    obtain ⟨k, hk, rfl, rfl⟩ := hrel
    by_cases hlt : k < size
    · have HA := Lib.hid (accI_step t k (by rw [HS.out]; exact hlt) (by omega))
      have HB := Lib.hid (HT.out k hlt)
      go_wp2_with fail
      go_round
      case rel => exact ⟨k + 1, by omega, by go_num, by rw [← HA.out, HB.out]⟩
      case measure => simp [intOf]; omega
    · obtain rfl : size = k := by omega
      have HE := Lib.hid (show wrap64 (accI t size) = Oct.intOf (Oct.getN s.data.toList a size) by
        have h1 : t.data.toList.take size = t.data.toList := List.take_of_length_le (by have := HS.out; simp; omega)
        have h2 : Oct.getL t.data.toList < 18446744073709551616 := by
          have := Oct.getL_lt t.data.toList
          have h3 : 256 ^ t.data.toList.length ≤ 256 ^ 8 := Nat.pow_le_pow_right (by omega) (by have := HS.out; simp; omega)
          omega
        rw [accI, h1, wrap_int _ h2, HL.out]; rfl)
      go_wp2_with fail
      go_ret2
      exact ⟨by rw [← HE.out]; rfl, rfl⟩

theorem xor_byte64 (n : Nat) (c : UInt8) (hn : n < 4294967296) : bits .xor .u64 (n : Int) (IntKind.u64.wrap (c.toNat : Int)) = ((n ^^^ c.toNat : Nat) : Int) := by
  have := c.toNat_lt
  rw [IntKind.wrap_u64, show (c.toNat : Int) % 18446744073709551616 = (c.toNat : Int) by omega, bits_xor_u64_nat _ _ (by omega) (by omega)]
theorem crc_not64 (n : Nat) (hn : n < 4294967296) : wrap64 (bits .xor .u64 (n : Int) 4294967295) = ((n ^^^ 4294967295 : Nat) : Int) := by
  have hx : n ^^^ 4294967295 < 2 ^ 32 := Nat.xor_lt_two_pow hn (by omega)
  have h := bits_xor_u64_nat n 4294967295 (by omega) (by omega)
  rw [show (4294967295 : Int) = ((4294967295 : Nat) : Int) from rfl, h]
  exact IntWalk.wrap64_in _ ⟨by omega, by omega⟩

end Go.Proofs.YtkndifannjpbcaaGreatDoor
