/- The frame shared by the statements of this seat: what a walk that only makes memory owes the row; the arguments read behind the call as they did. -/
import Derived.Test.YtojaagnfjenhoaaGreatRows
import Derived.WalkKit
import Derived.ProofKit
import Derived.OpenShut
import Derived.SizedLaws
import Derived.Below
import Derived.Carry
import Derived.ChangeSame
import Derived.Lib.SmallJoins
import Derived.Test.YtojaagnfjenhoaaGreatProg
import Derived.WalkSpells
import Derived.WalkLawsBesides
import Derived.Lib.Hide
import Derived.Lib.ConvBytes
import Derived.Shelf.Strings.Builder1
import Derived.Shelf.Strings.Builder2
import Derived.Shelf.Strings.BuilderF
import Derived.Shelf.Strings.BuilderK
import Derived.Shelf.Strings.Builder2Cap
import Derived.Shelf.Strings.Prefix
import Derived.Shelf.Bits.Mul64
import Derived.Shelf.Strings.Repeat
import Derived.Shelf.Strings.BuilderCap
import Derived.Ground.Names2Prog
import Derived.Shelf.Slices.Clone
namespace Go.Proofs.YtojaagnfjenhoaaGreat
open Go.ChangeShapes Go.WideShapes Go.ChangeAt Go.RowKit
theorem own : ownKnob Tryz.prog.godebug = none := by kernel_rfl
theorem bnd {n : Int} (h : (Lit.int .i64 n).wf = true) : -9223372036854775808 ≤ n ∧ n ≤ 9223372036854775807 := bounds_i64 h
theorem laidOut : laidOutB Tryz.prog = true := by kernel_rfl
section
variable {H : Type} {enc : TypeId × Value → H} {P : Program}
theorem trodAll_again (hl : laidOutB P = true) {W W' : World} (hb : Below W.heap.size W W') {sp : Nat → Bool} : ∀ {ts : List TypeId} {vs : List Value} {ds : List (DataW H)} {ps : List MemPlace}, (ts.all fun t => P.readableRec t && decide (t < P.types.size)) = true →
    DataW.TrodAll enc P W 0 (fun _ => true) true ts vs ds ps → (∀ x ∈ ps, x.block < W.heap.size) → (∀ x ∈ ps, sp x.block = true) → DataW.TrodAll enc P W' 0 sp true ts vs ds ps := by
  intro ts
  induction ts with
  | nil =>
    intro vs ds ps _ h _ _
    obtain ⟨rfl, rfl, rfl⟩ := trodAll_nil h
    exact trodAll_mk0
  | cons t ts ih =>
    intro vs ds ps hr h hlt hsp
    obtain ⟨v, vs', d, ds', p, q, rfl, rfl, rfl, h0, h1⟩ := trodAll_cons h
    simp only [List.all_cons, Bool.and_eq_true] at hr
    obtain ⟨⟨hr1, hr2⟩, hr3⟩ := hr
    refine trodAll_cons_mk (WideElems.Trod_stays hl hr1 (of_decide_eq_true hr2) h0 (fun x hx => hb.same (hlt x (List.mem_append_left _ hx))) (fun x hx => hsp x (List.mem_append_left _ hx))) ?_
    exact ih (by simpa using hr3) h1 (fun x hx => hlt x (List.mem_append_right _ hx)) (fun x hx => hsp x (List.mem_append_right _ hx))
theorem post_again {f : Func} {s : ChangeSpec} {apart fresh handsOn again : Bool} {W W' : World} {args : Array Value} {v : Value} {ds gs : List (DataW H)} {before pa pv : List MemPlace}
    (hW : DataW.Whole enc P f.params.toList s.vars apart W args.toList ds gs before)
    (hres : ∀ (b : Nat) (sp : Nat → Bool) (hd : Bool), DataW.TrodAll enc P W' b sp hd f.resultTypes.toList (v.resultList f.resultTypes.size) (s.fn H (ds ++ gs)).results [])
    (hargs : ∀ sp : Nat → Bool, (∀ p ∈ before, sp p.block = true) → DataW.TrodAll enc P W' 0 sp true f.params.toList args.toList (s.fn H (ds ++ gs)).args pa)
    (hvars : ∀ sp : Nat → Bool, (∀ p ∈ before, sp p.block = true) → DataW.TrodVars enc P W' sp s.vars (s.fn H (ds ++ gs)).vars pv)
    (hps : before = pa ++ pv) (hb : Below W.heap.size W W')
    (hok : ∀ (j : Nat) (t : TypeId) (r : Value), f.resultTypes[j]? = some t → (v.resultList f.resultTypes.size)[j]? = some r → Value.okWide P W' .any 0 t r) :
    s.post enc P f apart fresh handsOn again W args v W' := by
  have hlt : ∀ p ∈ before, p.block < W.heap.size := fun p hp => hW.lt p hp
  have hold : ∀ p ∈ before, (fun b => decide (b < W.heap.size)) p.block = true := fun p hp => by simpa using hlt p hp
  refine ⟨ds, gs, before, [], pa, pv, hW, hres _ _ _, hargs _ hold, hvars _ hold, World.keptBut_mono (fun p hp => ⟨hp, ?_⟩) (hb.frame (· ∈ before)), fun _ => ?_⟩
  · rw [hps, List.mem_append] at hp
    exact Or.inr hp
  · obtain ⟨_, _, _, _, _, hz, hn⟩ := hW
    refine ⟨hok, _, _, ([] ++ pa) ++ pv, ⟨[] ++ pa, pv, trodAll_append (hargs _ (fun _ _ => rfl)) (hres _ _ _), hvars _ (fun _ _ => rfl), rfl, ?_, ?_⟩, ?_⟩
    · intro b off hp
      have hin : MemPlace.cell b off ∈ before := by rw [hps]; simpa using hp
      rw [hb.frozen (hlt _ hin)]
      exact hz b off hin
    · intro ha
      have := hn ha
      rw [hps] at this
      simpa using this
    · intro p hp _
      rw [hps]
      simpa using hp
end
section
variable {H : Type} {enc : TypeId × Value → H} {w : World} {base : Nat} {spare : Nat → Bool} {held : Bool}
end
end Go.Proofs.YtojaagnfjenhoaaGreat
/- The plain mathematics of package octet: numbers in bytes, the sum of a text. -/
namespace Oct
/-- A number as the 64 bits that it has in memory. -/
def word (n : Int) : Nat := (n % 18446744073709551616).toNat
theorem word_lt (n : Int) : word n < 18446744073709551616 := by unfold word; omega
theorem word_nat (n : Nat) (h : n < 18446744073709551616) : word (n : Int) = n := by unfold word; omega
/-- The lowest k bytes of u, the highest one first. -/
def putL (u : Nat) : Nat → List UInt8
  | 0 => []
  | k + 1 => putL (u / 256) k ++ [UInt8.ofNat (u % 256)]
theorem putL_length (u k : Nat) : (putL u k).length = k := by
  induction k generalizing u with
  | zero => rfl
  | succ k ih => simp [putL, ih]
theorem putL_get (k : Nat) : ∀ (u i : Nat), i < k → (putL u k)[i]? = some (UInt8.ofNat (u / 256 ^ (k - 1 - i) % 256)) := by
  induction k with
  | zero => intro u i h; omega
  | succ k ih =>
    intro u i h
    rw [putL]
    by_cases hi : i < k
    · rw [List.getElem?_append_left (by rw [putL_length]; exact hi), ih (u / 256) i hi]
      congr 2
      rw [show k + 1 - 1 - i = (k - 1 - i) + 1 by omega, Nat.pow_succ, Nat.mul_comm, Nat.div_div_eq_div_mul]
    · obtain rfl : i = k := by omega
      rw [List.getElem?_append_right (by rw [putL_length]; omega), putL_length]
      simp
/-- What octet.Put returns. -/
def putB (n size : Int) : ByteArray := if size < 0 ∨ 8 < size then ⟨#[]⟩ else ⟨(putL (word n) size.toNat).toArray⟩
theorem putB_size (n : Int) (k : Nat) (h : k ≤ 8) : (putB n k).size = k := by
  unfold putB
  rw [if_neg (by omega)]
  show (putL _ _).toArray.size = _
  simp [putL_length]
theorem putB_list (n : Int) (k : Nat) (h : k ≤ 8) : (putB n k).data.toList = putL (word n) k := by
  unfold putB
  rw [if_neg (by omega)]
  simp
/-- The number that bytes make, the first one the highest. -/
def getL (l : List UInt8) : Nat := l.foldl (fun n c => 256 * n + c.toNat) 0
theorem getL_snoc (l : List UInt8) (c : UInt8) : getL (l ++ [c]) = 256 * getL l + c.toNat := by simp [getL, List.foldl_append]
theorem getL_lt (l : List UInt8) : getL l < 256 ^ l.length := by
  have key : ∀ (n : Nat) (l : List UInt8), l.length = n → getL l < 256 ^ n := by
    intro n
    induction n with
    | zero => intro l h; rw [List.eq_nil_of_length_eq_zero h]; simp [getL]
    | succ n ih =>
      intro l h
      have hl : l ≠ [] := by intro e; rw [e] at h; simp at h
      rw [← List.dropLast_concat_getLast hl, getL_snoc, Nat.pow_succ]
      have h1 := ih l.dropLast (by simp [h])
      have h2 := (l.getLast hl).toNat_lt
      omega
  exact key _ l rfl
theorem putL_getL : ∀ (k : Nat) (l : List UInt8), l.length = k → putL (getL l) k = l := by
  intro k
  induction k with
  | zero => intro l h; rw [List.eq_nil_of_length_eq_zero h]; rfl
  | succ k ih =>
    intro l h
    have hl : l ≠ [] := by intro e; rw [e] at h; simp at h
    rw [← List.dropLast_concat_getLast hl, getL_snoc, putL]
    have h2 := (l.getLast hl).toNat_lt
    rw [show (256 * getL l.dropLast + (l.getLast hl).toNat) / 256 = getL l.dropLast by omega, show (256 * getL l.dropLast + (l.getLast hl).toNat) % 256 = (l.getLast hl).toNat by omega, ih _ (by simp [h])]
    simp
theorem getL_putL (k : Nat) : ∀ u : Nat, getL (putL u k) = u % 256 ^ k := by
  induction k with
  | zero => intro u; simp [putL, getL, Nat.mod_one]
  | succ k ih =>
    intro u
    rw [putL, getL_snoc, ih]
    have h1 : (UInt8.ofNat (u % 256)).toNat = u % 256 := by rw [UInt8.toNat_ofNat']; omega
    rw [h1, Nat.pow_succ, Nat.mul_comm (256 ^ k) 256, Nat.mod_mul]
    omega
theorem or_byte (x c : Nat) (hc : c < 256) : (256 * x) ||| c = 256 * x + c := by
  have h := Nat.shiftLeft_add_eq_or_of_lt (i := 8) (b := c) (by omega) x
  rw [Nat.shiftLeft_eq, Nat.mul_comm x (2 ^ 8)] at h
  exact h.symm
theorem getL_take (l : List UInt8) (k : Nat) (hk : k < l.length) : getL (l.take (k + 1)) = 256 * getL (l.take k) + (l[k]?.getD 0).toNat := by
  rw [List.take_succ_eq_append_getElem hk, getL_snoc, List.getElem?_eq_getElem hk]; rfl
theorem getL_take_lt (l : List UInt8) (k : Nat) (hk : k < 8) : getL (l.take k) < 72057594037927936 := by
  have h := getL_lt (l.take k)
  have h2 : 256 ^ (l.take k).length ≤ 256 ^ 7 := Nat.pow_le_pow_right (by omega) (by rw [List.length_take]; omega)
  omega
/-- The number as an int. -/
def intOf (u : Nat) : Int := if u < 9223372036854775808 then (u : Int) else (u : Int) - 18446744073709551616
/-- What octet.Get returns. -/
def getN (s : List UInt8) (at_ size : Nat) : Nat := getL ((s.drop at_).take size)
def there (len : Nat) (at_ size : Int) : Bool := decide (1 ≤ size) && decide (size ≤ 8) && decide (0 ≤ at_) && decide (at_ + size ≤ len)
/-- One bit of the sum. -/
def bit1 (n : Nat) : Nat := if n % 2 = 1 then (n / 2) ^^^ 3988292384 else n / 2
def bits8 : Nat → Nat → Nat
  | 0, n => n
  | k + 1, n => bits8 k (bit1 n)
/-- The register, one byte on. -/
def crcByte (n : Nat) (c : UInt8) : Nat := bits8 8 (n ^^^ c.toNat)
def crcFrom (n : Nat) (l : List UInt8) : Nat := l.foldl crcByte n
def sumN (l : List UInt8) : Nat := crcFrom 4294967295 l ^^^ 4294967295
theorem crcFrom_snoc (n : Nat) (l : List UInt8) (c : UInt8) : crcFrom n (l ++ [c]) = crcByte (crcFrom n l) c := by simp [crcFrom, List.foldl_append]
theorem bits8_succ (k n : Nat) : bits8 (k + 1) n = bit1 (bits8 k n) := by
  induction k generalizing n with
  | zero => rfl
  | succ k ih => exact ih (bit1 n)
theorem bit1_lt {n : Nat} (h : n < 4294967296) : bit1 n < 4294967296 := by
  unfold bit1
  split
  · exact Nat.xor_lt_two_pow (n := 32) (by omega) (by omega)
  · omega
theorem bits8_lt (k : Nat) : ∀ {n : Nat}, n < 4294967296 → bits8 k n < 4294967296 := by
  induction k with
  | zero => intro n h; exact h
  | succ k ih => intro n h; exact ih (bit1_lt h)
theorem crcByte_lt {n : Nat} (h : n < 4294967296) (c : UInt8) : crcByte n c < 4294967296 :=
  bits8_lt 8 (Nat.xor_lt_two_pow (n := 32) h (by have := c.toNat_lt; omega))
theorem crcFrom_lt (l : List UInt8) : ∀ {n : Nat}, n < 4294967296 → crcFrom n l < 4294967296 := by
  induction l with
  | nil => intro n h; exact h
  | cons c l ih => intro n h; exact ih (crcByte_lt h c)
theorem sumN_lt (l : List UInt8) : sumN l < 4294967296 := Nat.xor_lt_two_pow (n := 32) (crcFrom_lt l (by omega)) (by omega)
end Oct
/- The plain law of the log's records: what is written is read again. -/
namespace Rc
structure Op where
  kind : Int
  slot : Int
  old : ByteArray
  new : ByteArray
structure TxnAt where
  txn : Int
  last : Int
  next : Int
  done : Bool
structure DirtyAt where
  page : Int
  from_ : Int
structure Key where
  key : ByteArray
  page : Int
  slot : Int
structure Rec where
  lsn : Int
  prev : Int
  txn : Int
  kind : Int
  page : Int
  next : Int
  num : Int
  op : Op
  how : Int
  root : Int
  e : Key
  txns : List TxnAt
  dirty : List DirtyAt
def noOp : Op := ⟨0, 0, ⟨#[]⟩, ⟨#[]⟩⟩
def noKey : Key := ⟨⟨#[]⟩, 0, 0⟩
/-- A record with the numbers alone that all kinds have. -/
def bare (kind lsn prev txn : Int) : Rec := ⟨lsn, prev, txn, kind, 0, 0, 0, noOp, 0, 0, noKey, [], []⟩
def num (n : Int) : Prop := 0 ≤ n ∧ n < 1099511627776
def pg (n : Int) : Prop := 0 ≤ n ∧ n < 8388608
def sl (n : Int) : Prop := 0 ≤ n ∧ n < 32768
def opR (o : Op) : Prop := 1 ≤ o.kind ∧ o.kind ≤ 7 ∧ sl o.slot ∧ o.old.size ≤ 512 ∧ o.new.size ≤ 512
def treeR (r : Rec) : Prop := (r.how = 1 ∧ r.root = 0 ∧ r.e = noKey) ∨ ((r.how = 2 ∨ r.how = 3) ∧ pg r.root ∧ pg r.e.page ∧ sl r.e.slot ∧ r.e.key.size ≤ 100)
def txnR (t : TxnAt) : Prop := num t.txn ∧ num t.last ∧ num t.next
def dirtyR (d : DirtyAt) : Prop := pg d.page ∧ num d.from_
def listsR (r : Rec) : Prop := r.txns.length ≤ 1000 ∧ r.dirty.length ≤ 2000 ∧ (∀ t ∈ r.txns, txnR t) ∧ ∀ d ∈ r.dirty, dirtyR d
/-- Which records may be, kind by kind. -/
inductive Right : Rec → Prop
  | small (kind lsn prev txn : Int) (hk : kind = 1 ∨ kind = 5 ∨ kind = 6 ∨ kind = 7) (h1 : num lsn) (h2 : num prev) (h3 : num txn) : Right (bare kind lsn prev txn)
  | change (lsn prev txn page : Int) (op : Op) (how root : Int) (e : Key) (h1 : num lsn) (h2 : num prev) (h3 : num txn) (h4 : pg page) (h5 : opR op)
      (h6 : treeR ⟨lsn, prev, txn, 2, page, 0, 0, op, how, root, e, [], []⟩) : Right ⟨lsn, prev, txn, 2, page, 0, 0, op, how, root, e, [], []⟩
  | clr (lsn prev txn page : Int) (op : Op) (next : Int) (h1 : num lsn) (h2 : num prev) (h3 : num txn) (h4 : pg page) (h5 : opR op) (h6 : num next) : Right ⟨lsn, prev, txn, 3, page, next, 0, op, 0, 0, noKey, [], []⟩
  | nest (lsn prev txn next : Int) (h1 : num lsn) (h2 : num prev) (h3 : num txn) (h6 : num next) : Right ⟨lsn, prev, txn, 4, 0, next, 0, noOp, 0, 0, noKey, [], []⟩
  | image (lsn prev txn page : Int) (op : Op) (h1 : num lsn) (h2 : num prev) (h3 : num txn) (h4 : pg page) (h5 : opR op) : Right ⟨lsn, prev, txn, 8, page, 0, 0, op, 0, 0, noKey, [], []⟩
  | check (lsn prev txn n : Int) (ts : List TxnAt) (ds : List DirtyAt) (h1 : num lsn) (h2 : num prev) (h3 : num txn) (h4 : num n)
      (h5 : listsR ⟨lsn, prev, txn, 9, 0, 0, n, noOp, 0, 0, noKey, ts, ds⟩) : Right ⟨lsn, prev, txn, 9, 0, 0, n, noOp, 0, 0, noKey, ts, ds⟩
/-! ### Writing -/
def p (n : Int) (k : Nat) : List UInt8 := Oct.putL (Oct.word n) k
def t (s : ByteArray) : List UInt8 := p s.size 2 ++ s.data.toList
def opB (o : Op) : List UInt8 := p o.kind 1 ++ (p o.slot 2 ++ (t o.old ++ t o.new))
def txnB (x : TxnAt) : List UInt8 := p x.txn 6 ++ (p x.last 6 ++ (p x.next 6 ++ p (if x.done then 1 else 0) 1))
def dirtyB (d : DirtyAt) : List UInt8 := p d.page 3 ++ p d.from_ 6
def headB (r : Rec) : List UInt8 := p r.kind 1 ++ (p r.lsn 6 ++ (p r.prev 6 ++ p r.txn 6))
def treeB (r : Rec) : List UInt8 := if r.how = 1 then [] else p r.root 3 ++ (p r.e.page 3 ++ (p r.e.slot 2 ++ t r.e.key))
def listsB (r : Rec) : List UInt8 := p r.num 6 ++ (p r.txns.length 2 ++ (r.txns.flatMap txnB ++ (p r.dirty.length 2 ++ r.dirty.flatMap dirtyB)))
/-- What stands behind the head. -/
def restB (r : Rec) : List UInt8 :=
  if r.kind = 2 then p r.page 3 ++ (opB r.op ++ (p r.how 1 ++ treeB r))
  else if r.kind = 3 then p r.page 3 ++ (opB r.op ++ p r.next 6)
  else if r.kind = 4 then p r.next 6
  else if r.kind = 8 then p r.page 3 ++ opB r.op
  else if r.kind = 9 then listsB r
  else []
theorem restB_2 {r : Rec} (h : r.kind = 2) : restB r = p r.page 3 ++ (opB r.op ++ (p r.how 1 ++ treeB r)) := if_pos h
theorem restB_3 {r : Rec} (h : r.kind = 3) : restB r = p r.page 3 ++ (opB r.op ++ p r.next 6) := by unfold restB; rw [if_neg (by omega), if_pos h]
theorem restB_4 {r : Rec} (h : r.kind = 4) : restB r = p r.next 6 := by unfold restB; rw [if_neg (by omega), if_neg (by omega), if_pos h]
theorem restB_8 {r : Rec} (h : r.kind = 8) : restB r = p r.page 3 ++ opB r.op := by unfold restB; rw [if_neg (by omega), if_neg (by omega), if_neg (by omega), if_pos h]
theorem restB_9 {r : Rec} (h : r.kind = 9) : restB r = listsB r := by unfold restB; rw [if_neg (by omega), if_neg (by omega), if_neg (by omega), if_neg (by omega), if_pos h]
def bodyB (r : Rec) : List UInt8 := headB r ++ restB r
/-! ### Reading: `adv`: a number that is not there is passed all the same -/
structure St where
  at_ : Nat
  bad : Bool
def numM (adv : Bool) (s : List UInt8) (a : St) (k : Nat) : Int × St :=
  if a.at_ + k ≤ s.length then ((Oct.getN s a.at_ k : Nat), ⟨a.at_ + k, a.bad⟩) else (0, ⟨if adv then a.at_ + k else a.at_, true⟩)
def textM (s : List UInt8) (a : St) : ByteArray × St :=
  if a.at_ + 2 + Oct.getN s a.at_ 2 ≤ s.length then (⟨((s.drop (a.at_ + 2)).take (Oct.getN s a.at_ 2)).toArray⟩, ⟨a.at_ + 2 + Oct.getN s a.at_ 2, a.bad⟩) else (⟨#[]⟩, ⟨a.at_, true⟩)
def opM (adv : Bool) (s : List UInt8) (a : St) : Op × St :=
  let x := numM adv s a 1
  let y := numM adv s x.2 2
  let u := textM s y.2
  let v := textM s u.2
  (⟨x.1, y.1, u.1, v.1⟩, v.2)
def txnM (adv : Bool) (s : List UInt8) (a : St) : TxnAt × St :=
  let x := numM adv s a 6
  let y := numM adv s x.2 6
  let z := numM adv s y.2 6
  let d := numM adv s z.2 1
  (⟨x.1, y.1, z.1, d.1 == 1⟩, d.2)
def dirtyM (adv : Bool) (s : List UInt8) (a : St) : DirtyAt × St :=
  let x := numM adv s a 3
  let y := numM adv s x.2 6
  (⟨x.1, y.1⟩, y.2)
def manyM {α : Type} (one : St → α × St) : Nat → St → List α × St
  | 0, a => ([], a)
  | n + 1, a => if a.bad then ([], a) else
    let x := one a
    let l := manyM one n x.2
    (x.1 :: l.1, l.2)
def headM (adv : Bool) (s : List UInt8) : Rec × St :=
  let k := numM adv s ⟨0, false⟩ 1
  let l := numM adv s k.2 6
  let pr := numM adv s l.2 6
  let tx := numM adv s pr.2 6
  (bare k.1 l.1 pr.1 tx.1, tx.2)
def treeM (adv : Bool) (s : List UInt8) (r : Rec) (a : St) : Rec :=
  let h := numM adv s a 1
  if h.1 = 1 then { r with how := h.1 } else
    let ro := numM adv s h.2 3
    let pa := numM adv s ro.2 3
    let so := numM adv s pa.2 2
    let ke := textM s so.2
    { r with how := h.1, root := ro.1, e := ⟨ke.1, pa.1, so.1⟩ }
def listsM (adv : Bool) (s : List UInt8) (r : Rec) (a : St) : Rec :=
  let n := numM adv s a 6
  let c := numM adv s n.2 2
  let ts := manyM (txnM adv s) c.1.toNat c.2
  let d := numM adv s ts.2 2
  let ds := manyM (dirtyM adv s) d.1.toNat d.2
  { r with num := n.1, txns := ts.1, dirty := ds.1 }
def restM (adv : Bool) (s : List UInt8) (r : Rec) (a : St) : Rec :=
  if r.kind = 2 then
    let pa := numM adv s a 3
    let o := opM adv s pa.2
    treeM adv s { r with page := pa.1, op := o.1 } o.2
  else if r.kind = 3 then
    let pa := numM adv s a 3
    let o := opM adv s pa.2
    let n := numM adv s o.2 6
    { r with page := pa.1, op := o.1, next := n.1 }
  else if r.kind = 4 then
    let n := numM adv s a 6
    { r with next := n.1 }
  else if r.kind = 8 then
    let pa := numM adv s a 3
    let o := opM adv s pa.2
    { r with page := pa.1, op := o.1 }
  else if r.kind = 9 then listsM adv s r a
  else r
theorem restM_2 {adv : Bool} {s : List UInt8} {r : Rec} {a : St} (h : r.kind = 2) : restM adv s r a = treeM adv s { r with page := (numM adv s a 3).1, op := (opM adv s (numM adv s a 3).2).1 } (opM adv s (numM adv s a 3).2).2 := if_pos h
theorem restM_3 {adv : Bool} {s : List UInt8} {r : Rec} {a : St} (h : r.kind = 3) : restM adv s r a = { r with page := (numM adv s a 3).1, op := (opM adv s (numM adv s a 3).2).1, next := (numM adv s (opM adv s (numM adv s a 3).2).2 6).1 } := by unfold restM; rw [if_neg (by omega), if_pos h]
theorem restM_4 {adv : Bool} {s : List UInt8} {r : Rec} {a : St} (h : r.kind = 4) : restM adv s r a = { r with next := (numM adv s a 6).1 } := by unfold restM; rw [if_neg (by omega), if_neg (by omega), if_pos h]
theorem restM_8 {adv : Bool} {s : List UInt8} {r : Rec} {a : St} (h : r.kind = 8) : restM adv s r a = { r with page := (numM adv s a 3).1, op := (opM adv s (numM adv s a 3).2).1 } := by unfold restM; rw [if_neg (by omega), if_neg (by omega), if_neg (by omega), if_pos h]
theorem restM_9 {adv : Bool} {s : List UInt8} {r : Rec} {a : St} (h : r.kind = 9) : restM adv s r a = listsM adv s r a := by unfold restM; rw [if_neg (by omega), if_neg (by omega), if_neg (by omega), if_neg (by omega), if_pos h]
def readM (adv : Bool) (s : List UInt8) : Rec := restM adv s (headM adv s).1 (headM adv s).2
/-! ### What was written is read -/
/-- The reader is whole, and l is left. -/
def Left (s : List UInt8) (a : St) (l : List UInt8) : Prop := a.bad = false ∧ s.drop a.at_ = l ∧ a.at_ ≤ s.length
theorem p_length (n : Int) (k : Nat) : (p n k).length = k := Oct.putL_length _ _
theorem left_len {s : List UInt8} {a : St} {l : List UInt8} (h : Left s a l) : s.length = a.at_ + l.length := by
  obtain ⟨_, h2, h3⟩ := h
  have := congrArg List.length h2
  rw [List.length_drop] at this
  omega
theorem Left.skip {s : List UInt8} {a : St} {x l : List UInt8} (h : Left s a (x ++ l)) : Left s ⟨a.at_ + x.length, false⟩ l := by
  have hl := left_len h
  obtain ⟨_, h2, h3⟩ := h
  rw [List.length_append] at hl
  refine ⟨rfl, ?_, by show a.at_ + x.length ≤ s.length; omega⟩
  show s.drop (a.at_ + x.length) = l
  rw [← List.drop_drop, h2, List.drop_left]
theorem getN_left {s : List UInt8} {a : St} {l : List UInt8} {u k : Nat} (h : Left s a (Oct.putL u k ++ l)) (hu : u < 256 ^ k) : Oct.getN s a.at_ k = u := by
  unfold Oct.getN
  rw [h.2.1, List.take_append_of_le_length (by rw [Oct.putL_length]; omega), List.take_of_length_le (by rw [Oct.putL_length]; omega), Oct.getL_putL, Nat.mod_eq_of_lt hu]
theorem word_of {n : Int} (h0 : 0 ≤ n) (h : n < 18446744073709551616) : ((Oct.word n : Nat) : Int) = n := by unfold Oct.word; omega
theorem numM_left {adv : Bool} {s : List UInt8} {a : St} {n : Int} {k : Nat} {l : List UInt8} (h : Left s a (p n k ++ l)) (h0 : 0 ≤ n) (hn : n < ((256 ^ k : Nat) : Int)) (hk : k ≤ 8) :
    numM adv s a k = (n, ⟨a.at_ + k, false⟩) ∧ Left s ⟨a.at_ + k, false⟩ l := by
  have hp : (256 : Nat) ^ k ≤ 18446744073709551616 := Nat.pow_le_pow_right (n := 256) (by omega) hk
  generalize hq : (256 : Nat) ^ k = q at hn hp
  have hn8 : n < 18446744073709551616 := by omega
  have hw := word_of h0 hn8
  have hu : Oct.word n < 256 ^ k := by omega
  have hl := left_len h
  have hs := h.skip
  rw [p_length] at hs
  rw [List.length_append, p_length] at hl
  refine ⟨?_, hs⟩
  unfold numM
  rw [if_pos (by omega), getN_left h hu, hw, h.1]
theorem textM_left {s : List UInt8} {a : St} {x : ByteArray} {l : List UInt8} (h : Left s a (t x ++ l)) (hx : x.size < 65536) :
    textM s a = (x, ⟨a.at_ + (2 + x.size), false⟩) ∧ Left s ⟨a.at_ + (2 + x.size), false⟩ l := by
  have hlx : x.data.toList.length = x.size := by simp
  have hw : Oct.word (x.size : Int) = x.size := Oct.word_nat _ (by omega)
  have hs := h.skip
  have htl : (t x).length = 2 + x.size := by unfold t; rw [List.length_append, p_length, hlx]
  rw [htl] at hs
  have hl := left_len h
  rw [List.length_append, htl] at hl
  have h' : Left s a (Oct.putL x.size 2 ++ (x.data.toList ++ l)) := by
    unfold t p at h; rw [hw, List.append_assoc] at h; exact h
  have hg := getN_left h' (by omega)
  have hd := h'.skip
  rw [Oct.putL_length] at hd
  refine ⟨?_, hs⟩
  unfold textM
  rw [hg, if_pos (by omega), h.1]
  have hdd : s.drop (a.at_ + 2) = x.data.toList ++ l := hd.2.1
  rw [hdd, List.take_append_of_le_length (by omega), List.take_of_length_le (by omega), Nat.add_assoc]
theorem numM_6 {adv : Bool} {s : List UInt8} {a : St} {n : Int} {l : List UInt8} (h : Left s a (p n 6 ++ l)) (hn : num n) : numM adv s a 6 = (n, ⟨a.at_ + 6, false⟩) ∧ Left s ⟨a.at_ + 6, false⟩ l :=
  numM_left h hn.1 (by have := hn.2; show n < 281474976710656; omega) (by omega)
theorem numM_3 {adv : Bool} {s : List UInt8} {a : St} {n : Int} {l : List UInt8} (h : Left s a (p n 3 ++ l)) (hn : pg n) : numM adv s a 3 = (n, ⟨a.at_ + 3, false⟩) ∧ Left s ⟨a.at_ + 3, false⟩ l :=
  numM_left h hn.1 (by have := hn.2; show n < 16777216; omega) (by omega)
theorem numM_2 {adv : Bool} {s : List UInt8} {a : St} {n : Int} {l : List UInt8} (h : Left s a (p n 2 ++ l)) (h0 : 0 ≤ n) (hn : n < 65536) : numM adv s a 2 = (n, ⟨a.at_ + 2, false⟩) ∧ Left s ⟨a.at_ + 2, false⟩ l :=
  numM_left h h0 (by show n < 65536; omega) (by omega)
theorem numM_1 {adv : Bool} {s : List UInt8} {a : St} {n : Int} {l : List UInt8} (h : Left s a (p n 1 ++ l)) (h0 : 0 ≤ n) (hn : n < 256) : numM adv s a 1 = (n, ⟨a.at_ + 1, false⟩) ∧ Left s ⟨a.at_ + 1, false⟩ l :=
  numM_left h h0 (by show n < 256; omega) (by omega)
theorem opM_left {adv : Bool} {s : List UInt8} {a : St} {o : Op} {l : List UInt8} (h : Left s a (opB o ++ l)) (ho : opR o) : ∃ b, opM adv s a = (o, b) ∧ Left s b l := by
  obtain ⟨h1, h2, h3, h4, h5⟩ := ho
  unfold opB at h
  simp only [List.append_assoc] at h
  obtain ⟨e1, l1⟩ := numM_1 (adv := adv) h (by omega) (by omega)
  obtain ⟨e2, l2⟩ := numM_2 (adv := adv) l1 h3.1 (by have := h3.2; omega)
  obtain ⟨e3, l3⟩ := textM_left l2 (by omega)
  obtain ⟨e4, l4⟩ := textM_left l3 (by omega)
  refine ⟨_, ?_, l4⟩
  unfold opM
  simp only [e1, e2, e3, e4]
theorem txnM_left {adv : Bool} {s : List UInt8} {a : St} {x : TxnAt} {l : List UInt8} (h : Left s a (txnB x ++ l)) (hx : txnR x) : ∃ b, txnM adv s a = (x, b) ∧ Left s b l := by
  obtain ⟨h1, h2, h3⟩ := hx
  obtain ⟨xt, xl, xn, xd⟩ := x
  unfold txnB at h
  simp only [List.append_assoc] at h
  obtain ⟨e1, l1⟩ := numM_6 (adv := adv) h h1
  obtain ⟨e2, l2⟩ := numM_6 (adv := adv) l1 h2
  obtain ⟨e3, l3⟩ := numM_6 (adv := adv) l2 h3
  obtain ⟨e4, l4⟩ := numM_1 (adv := adv) l3 (by split <;> omega) (by split <;> omega)
  refine ⟨_, ?_, l4⟩
  unfold txnM
  simp only [e1, e2, e3, e4]
  cases xd <;> rfl
theorem dirtyM_left {adv : Bool} {s : List UInt8} {a : St} {x : DirtyAt} {l : List UInt8} (h : Left s a (dirtyB x ++ l)) (hx : dirtyR x) : ∃ b, dirtyM adv s a = (x, b) ∧ Left s b l := by
  obtain ⟨h1, h2⟩ := hx
  unfold dirtyB at h
  simp only [List.append_assoc] at h
  obtain ⟨e1, l1⟩ := numM_3 (adv := adv) h h1
  obtain ⟨e2, l2⟩ := numM_6 (adv := adv) l1 h2
  refine ⟨_, ?_, l2⟩
  unfold dirtyM
  simp only [e1, e2]
theorem manyM_left {α : Type} {one : St → α × St} {enc : α → List UInt8} {R : α → Prop} {s : List UInt8} (h1 : ∀ a x l, Left s a (enc x ++ l) → R x → ∃ b, one a = (x, b) ∧ Left s b l) :
    ∀ (xs : List α) (a : St) (l : List UInt8), Left s a (xs.flatMap enc ++ l) → (∀ x ∈ xs, R x) → ∃ b, manyM one xs.length a = (xs, b) ∧ Left s b l := by
  intro xs
  induction xs with
  | nil => intro a l h _; exact ⟨a, rfl, h⟩
  | cons x xs ih =>
    intro a l h hR
    rw [List.flatMap_cons, List.append_assoc] at h
    obtain ⟨b, e, hb⟩ := h1 a x _ h (hR x (List.mem_cons_self ..))
    obtain ⟨c, e2, hc⟩ := ih b l hb (fun y hy => hR y (List.mem_cons_of_mem _ hy))
    refine ⟨c, ?_, hc⟩
    show manyM one (xs.length + 1) a = _
    unfold manyM
    rw [h.1]
    simp only [e, e2]
    rfl
theorem headM_left {adv : Bool} {r : Rec} {s l : List UInt8} (h : s = headB r ++ l) (hk0 : 0 ≤ r.kind) (hk : r.kind < 256) (h1 : num r.lsn) (h2 : num r.prev) (h3 : num r.txn) :
    ∃ b, headM adv s = (bare r.kind r.lsn r.prev r.txn, b) ∧ Left s b l := by
  have h0 : Left s ⟨0, false⟩ (headB r ++ l) := ⟨rfl, h, Nat.zero_le _⟩
  unfold headB at h0
  simp only [List.append_assoc] at h0
  obtain ⟨e1, l1⟩ := numM_1 (adv := adv) h0 hk0 hk
  obtain ⟨e2, l2⟩ := numM_6 (adv := adv) l1 h1
  obtain ⟨e3, l3⟩ := numM_6 (adv := adv) l2 h2
  obtain ⟨e4, l4⟩ := numM_6 (adv := adv) l3 h3
  refine ⟨_, ?_, l4⟩
  unfold headM
  simp only [e1, e2, e3, e4]
theorem treeM_left {adv : Bool} {r r0 : Rec} {s tl : List UInt8} {a : St} (h : Left s a (p r.how 1 ++ (treeB r ++ tl))) (hr : treeR r) :
    treeM adv s r0 a = { r0 with how := r.how, root := if r.how = 1 then r0.root else r.root, e := if r.how = 1 then r0.e else r.e } := by
  rcases hr with ⟨h1, h2, h3⟩ | ⟨h1, h2, h3, h4, h5⟩
  · obtain ⟨e1, l1⟩ := numM_1 (adv := adv) h (by omega) (by omega)
    unfold treeM
    simp only [e1, h1, if_true]
  · have hne : r.how ≠ 1 := by omega
    obtain ⟨e1, l1⟩ := numM_1 (adv := adv) h (by omega) (by omega)
    unfold treeB at l1
    rw [if_neg hne] at l1
    simp only [List.append_assoc] at l1
    obtain ⟨e2, l2⟩ := numM_3 (adv := adv) l1 h2
    obtain ⟨e3, l3⟩ := numM_3 (adv := adv) l2 h3
    obtain ⟨e4, l4⟩ := numM_2 (adv := adv) l3 h4.1 (by have := h4.2; omega)
    obtain ⟨e5, l5⟩ := textM_left l4 (by omega)
    unfold treeM
    simp only [e1, hne, if_false, e2, e3, e4, e5]
theorem listsM_left {adv : Bool} {r r0 : Rec} {s tl : List UInt8} {a : St} (h : Left s a (listsB r ++ tl)) (hn : num r.num) (hr : listsR r) :
    listsM adv s r0 a = { r0 with num := r.num, txns := r.txns, dirty := r.dirty } := by
  obtain ⟨h1, h2, h3, h4⟩ := hr
  unfold listsB at h
  simp only [List.append_assoc] at h
  obtain ⟨e1, l1⟩ := numM_6 (adv := adv) h hn
  obtain ⟨e2, l2⟩ := numM_2 (adv := adv) l1 (by omega) (by omega)
  obtain ⟨b, e3, l3⟩ := manyM_left (one := txnM adv s) (enc := txnB) (R := txnR) (fun a x l h hx => txnM_left h hx) r.txns _ _ l2 h3
  obtain ⟨e4, l4⟩ := numM_2 (adv := adv) l3 (by omega) (by omega)
  obtain ⟨c, e5, l5⟩ := manyM_left (one := dirtyM adv s) (enc := dirtyB) (R := dirtyR) (fun a x l h hx => dirtyM_left h hx) r.dirty _ _ l4 h4
  unfold listsM
  simp only [e1, e2, Int.toNat_natCast, e3, e4, e5]
/-- What was written is read, with either reader. -/
theorem read_more (adv : Bool) (tl : List UInt8) {r : Rec} (h : Right r) : readM adv (bodyB r ++ tl) = r := by
  cases h with
  | small kind lsn prev txn hk h1 h2 h3 =>
    have hk2 : restB (bare kind lsn prev txn) = [] := by
      unfold restB bare
      simp only
      rw [if_neg (by omega), if_neg (by omega), if_neg (by omega), if_neg (by omega), if_neg (by omega)]
    obtain ⟨b, e, l⟩ := headM_left (adv := adv) (r := bare kind lsn prev txn) (s := bodyB (bare kind lsn prev txn) ++ tl) (l := restB (bare kind lsn prev txn) ++ tl) (List.append_assoc _ _ _) (show 0 ≤ kind by omega) (show kind < 256 by omega) h1 h2 h3
    unfold readM
    rw [e]
    unfold restM bare
    simp only
    rw [if_neg (by omega), if_neg (by omega), if_neg (by omega), if_neg (by omega), if_neg (by omega)]
  | change lsn prev txn page op how root e h1 h2 h3 h4 h5 h6 =>
    obtain ⟨b, e1, l1⟩ := headM_left (adv := adv) (r := ⟨lsn, prev, txn, 2, page, 0, 0, op, how, root, e, [], []⟩) (s := bodyB _ ++ tl) (l := restB _ ++ tl) (List.append_assoc _ _ _) (show (0 : Int) ≤ 2 by omega) (show (2 : Int) < 256 by omega) h1 h2 h3
    unfold readM
    rw [e1]
    rw [restB_2 rfl] at l1
    simp only [List.append_assoc] at l1
    obtain ⟨e2, l2⟩ := numM_3 (adv := adv) (n := page) l1 h4
    obtain ⟨c, e3, l3⟩ := opM_left (adv := adv) (o := op) l2 h5
    have e4 := treeM_left (adv := adv) (r0 := ⟨lsn, prev, txn, 2, page, 0, 0, op, 0, 0, noKey, [], []⟩) l3 h6
    show restM adv (bodyB _ ++ tl) (bare 2 lsn prev txn) b = _
    rw [restM_2 rfl]
    simp only [e2, e3]
    refine e4.trans ?_
    rcases h6 with ⟨h7, h8, h9⟩ | ⟨h7, _⟩
    · simp only at h7 h8 h9
      subst h7 h8 h9
      rfl
    · have hne : how ≠ 1 := by simp only at h7; omega
      simp only [hne, if_false]
  | clr lsn prev txn page op next h1 h2 h3 h4 h5 h6 =>
    obtain ⟨b, e1, l1⟩ := headM_left (adv := adv) (r := ⟨lsn, prev, txn, 3, page, next, 0, op, 0, 0, noKey, [], []⟩) (s := bodyB _ ++ tl) (l := restB _ ++ tl) (List.append_assoc _ _ _) (show (0 : Int) ≤ 3 by omega) (show (3 : Int) < 256 by omega) h1 h2 h3
    unfold readM
    rw [e1]
    rw [restB_3 rfl] at l1
    simp only [List.append_assoc] at l1
    obtain ⟨e2, l2⟩ := numM_3 (adv := adv) (n := page) l1 h4
    obtain ⟨c, e3, l3⟩ := opM_left (adv := adv) (o := op) l2 h5
    obtain ⟨e4, l4⟩ := numM_6 (adv := adv) (n := next) l3 h6
    show restM adv (bodyB _ ++ tl) (bare 3 lsn prev txn) b = _
    rw [restM_3 rfl]
    simp only [e2, e3, e4]
    rfl
  | nest lsn prev txn next h1 h2 h3 h6 =>
    obtain ⟨b, e1, l1⟩ := headM_left (adv := adv) (r := ⟨lsn, prev, txn, 4, 0, next, 0, noOp, 0, 0, noKey, [], []⟩) (s := bodyB _ ++ tl) (l := restB _ ++ tl) (List.append_assoc _ _ _) (show (0 : Int) ≤ 4 by omega) (show (4 : Int) < 256 by omega) h1 h2 h3
    unfold readM
    rw [e1]
    rw [restB_4 rfl] at l1
    obtain ⟨e4, l4⟩ := numM_6 (adv := adv) (n := next) l1 h6
    show restM adv (bodyB _ ++ tl) (bare 4 lsn prev txn) b = _
    rw [restM_4 rfl]
    simp only [e4]
    rfl
  | image lsn prev txn page op h1 h2 h3 h4 h5 =>
    obtain ⟨b, e1, l1⟩ := headM_left (adv := adv) (r := ⟨lsn, prev, txn, 8, page, 0, 0, op, 0, 0, noKey, [], []⟩) (s := bodyB _ ++ tl) (l := restB _ ++ tl) (List.append_assoc _ _ _) (show (0 : Int) ≤ 8 by omega) (show (8 : Int) < 256 by omega) h1 h2 h3
    unfold readM
    rw [e1]
    rw [restB_8 rfl] at l1
    simp only [List.append_assoc] at l1
    obtain ⟨e2, l2⟩ := numM_3 (adv := adv) (n := page) l1 h4
    obtain ⟨c, e3, l3⟩ := opM_left (adv := adv) (o := op) l2 h5
    show restM adv (bodyB _ ++ tl) (bare 8 lsn prev txn) b = _
    rw [restM_8 rfl]
    simp only [e2, e3]
    rfl
  | check lsn prev txn n ts ds h1 h2 h3 h4 h5 =>
    obtain ⟨b, e1, l1⟩ := headM_left (adv := adv) (r := ⟨lsn, prev, txn, 9, 0, 0, n, noOp, 0, 0, noKey, ts, ds⟩) (s := bodyB _ ++ tl) (l := restB _ ++ tl) (List.append_assoc _ _ _) (show (0 : Int) ≤ 9 by omega) (show (9 : Int) < 256 by omega) h1 h2 h3
    unfold readM
    rw [e1]
    rw [restB_9 rfl] at l1
    have e4 := listsM_left (adv := adv) (r0 := bare 9 lsn prev txn) l1 h4 h5
    show restM adv (bodyB _ ++ tl) (bare 9 lsn prev txn) b = _
    rw [restM_9 rfl]
    exact e4
theorem read_body (adv : Bool) {r : Rec} (h : Right r) : readM adv (bodyB r) = r := by
  have := read_more adv [] h
  rwa [List.append_nil] at this
/-- Two readers, one answer: the record that these bytes are, if there is one. -/
theorem read_same {s : List UInt8} (h : Right (readM true s) ∧ bodyB (readM true s) = s) : readM false s = readM true s := by
  have := read_body false h.1
  rwa [h.2] at this
theorem read_both (s : List UInt8) : (Right (readM true s) ∧ bodyB (readM true s) = s) ↔ (Right (readM false s) ∧ bodyB (readM false s) = s) := by
  constructor
  · intro h; rw [read_same h]; exact h
  · intro h
    have := read_body true h.1
    rw [h.2] at this
    rw [this]; exact h
end Rc
/- The plain law of the log: records one behind the other, read again. -/
namespace Rc
theorem t_len (s : ByteArray) : (t s).length = 2 + s.size := by
  unfold t; rw [List.length_append, p_length]; simp
theorem opB_len {o : Op} (h : opR o) : (opB o).length ≤ 1031 := by
  obtain ⟨_, _, _, h4, h5⟩ := h
  unfold opB
  simp only [List.length_append, p_length, t_len]
  omega
theorem flat_len {α : Type} (f : α → List UInt8) (k : Nat) (hf : ∀ x, (f x).length = k) : ∀ l : List α, (l.flatMap f).length = l.length * k := by
  intro l
  induction l with
  | nil => simp
  | cons x l ih => rw [List.flatMap_cons, List.length_append, hf, ih, List.length_cons, Nat.add_mul]; omega
theorem txnB_len (x : TxnAt) : (txnB x).length = 19 := by
  unfold txnB; simp only [List.length_append, p_length]
theorem dirtyB_len (x : DirtyAt) : (dirtyB x).length = 9 := by
  unfold dirtyB; simp only [List.length_append, p_length]
theorem headB_len (r : Rec) : (headB r).length = 19 := by
  unfold headB; simp only [List.length_append, p_length]
theorem listsB_len {r : Rec} (h : listsR r) : (listsB r).length ≤ 37010 := by
  obtain ⟨h1, h2, _⟩ := h
  unfold listsB
  simp only [List.length_append, p_length, flat_len txnB 19 txnB_len, flat_len dirtyB 9 dirtyB_len]
  omega
/-- A record's bytes are few. -/
theorem bodyB_len {r : Rec} (h : Right r) : 19 ≤ (bodyB r).length ∧ (bodyB r).length ≤ 40000 := by
  unfold bodyB
  rw [List.length_append, headB_len]
  refine ⟨by omega, ?_⟩
  cases h with
  | small kind lsn prev txn hk h1 h2 h3 =>
    have hk2 : restB (bare kind lsn prev txn) = [] := by
      unfold restB bare
      simp only
      rw [if_neg (by omega), if_neg (by omega), if_neg (by omega), if_neg (by omega), if_neg (by omega)]
    rw [hk2]; simp
  | change lsn prev txn page op how root e h1 h2 h3 h4 h5 h6 =>
    rw [restB_2 rfl]
    have ho := opB_len h5
    have ht : (treeB ⟨lsn, prev, txn, 2, page, 0, 0, op, how, root, e, [], []⟩).length ≤ 200 := by
      unfold treeB
      rcases h6 with ⟨h7, _⟩ | ⟨h7, h8, h9, h10, h11⟩
      · simp only at h7; subst h7; simp
      · simp only at h7 h11
        rw [if_neg (show ¬ how = 1 by omega)]
        simp only [List.length_append, p_length, t_len]
        omega
    simp only [List.length_append, p_length]
    omega
  | clr lsn prev txn page op next h1 h2 h3 h4 h5 h6 =>
    rw [restB_3 rfl]
    have ho := opB_len h5
    simp only [List.length_append, p_length]
    omega
  | nest lsn prev txn next h1 h2 h3 h6 =>
    rw [restB_4 rfl]
    simp only [p_length]
    omega
  | image lsn prev txn page op h1 h2 h3 h4 h5 =>
    rw [restB_8 rfl]
    have ho := opB_len h5
    simp only [List.length_append, p_length]
    omega
  | check lsn prev txn n ts ds h1 h2 h3 h4 h5 =>
    rw [restB_9 rfl]
    have := listsB_len h5
    omega
theorem not_right_zero {r : Rec} (h : r.kind = 0) : ¬ Right r := by
  intro hr
  cases hr with
  | small kind lsn prev txn hk h1 h2 h3 => have : kind = 0 := h; omega
  | change lsn prev txn page op how root e h1 h2 h3 h4 h5 h6 => exact absurd (show (2 : Int) = 0 from h) (by omega)
  | clr lsn prev txn page op next h1 h2 h3 h4 h5 h6 => exact absurd (show (3 : Int) = 0 from h) (by omega)
  | nest lsn prev txn next h1 h2 h3 h6 => exact absurd (show (4 : Int) = 0 from h) (by omega)
  | image lsn prev txn page op h1 h2 h3 h4 h5 => exact absurd (show (8 : Int) = 0 from h) (by omega)
  | check lsn prev txn n ts ds h1 h2 h3 h4 h5 => exact absurd (show (9 : Int) = 0 from h) (by omega)
end Rc
namespace Lg
open Rc
/-- A record as it is written. -/
def putR (r : Rec) : List UInt8 := Oct.putL (bodyB r).length 4 ++ (Oct.putL (Oct.sumN (bodyB r)) 4 ++ bodyB r)
theorem putR_len (r : Rec) : (putR r).length = 8 + (bodyB r).length := by
  unfold putR; simp only [List.length_append, Oct.putL_length]; omega
/-- The bytes that a length tells. -/
def bodyAt (s : List UInt8) (a : Nat) : List UInt8 := (s.drop (a + 8)).take (Oct.getN s a 4)
/-- Is a record there? -/
def Is (s : List UInt8) (a : Nat) : Prop :=
  a + 8 + Oct.getN s a 4 ≤ s.length ∧ Oct.getN s (a + 4) 4 = Oct.sumN (bodyAt s a) ∧ Right (readM true (bodyAt s a)) ∧ bodyB (readM true (bodyAt s a)) = bodyAt s a
open Classical in
/-- The record at a place, and the place behind it. -/
noncomputable def getO (s : List UInt8) (a : Nat) : Option (Rec × Nat) := if Is s a then some (readM true (bodyAt s a), a + 8 + Oct.getN s a 4) else none
theorem getO_yes {s : List UInt8} {a : Nat} (h : Is s a) : getO s a = some (readM true (bodyAt s a), a + 8 + Oct.getN s a 4) := if_pos h
theorem getO_no {s : List UInt8} {a : Nat} (h : ¬ Is s a) : getO s a = none := if_neg h
theorem drop_app (x y : List UInt8) (k : Nat) : (x ++ y).drop (x.length + k) = y.drop k := by
  rw [← List.drop_drop, List.drop_left]
theorem getN_app2 (x y : List UInt8) (k n : Nat) : Oct.getN (x ++ y) (x.length + k) n = Oct.getN y k n := by
  unfold Oct.getN; rw [drop_app]
theorem getN_put (u k : Nat) (y : List UInt8) (h : u < 256 ^ k) : Oct.getN (Oct.putL u k ++ y) 0 k = u := by
  unfold Oct.getN
  rw [List.drop_zero, List.take_left' (Oct.putL_length u k), Oct.getL_putL, Nat.mod_eq_of_lt h]
theorem is_put (x y : List UInt8) {r : Rec} (h : Right r) : Is (x ++ (putR r ++ y)) x.length ∧ bodyAt (x ++ (putR r ++ y)) x.length = bodyB r ∧ Oct.getN (x ++ (putR r ++ y)) x.length 4 = (bodyB r).length := by
  have hlen := bodyB_len h
  have hg : Oct.getN (x ++ (putR r ++ y)) x.length 4 = (bodyB r).length := by
    have h1 := getN_app2 x (putR r ++ y) 0 4
    rw [Nat.add_zero] at h1
    rw [h1]
    unfold putR
    rw [List.append_assoc]
    exact getN_put _ _ _ (by show _ < 4294967296; omega)
  have hs : Oct.getN (x ++ (putR r ++ y)) (x.length + 4) 4 = Oct.sumN (bodyB r) := by
    rw [getN_app2]
    unfold putR
    have h2 := getN_app2 (Oct.putL (bodyB r).length 4) (Oct.putL (Oct.sumN (bodyB r)) 4 ++ (bodyB r ++ y)) 0 4
    rw [Oct.putL_length] at h2
    simp only [List.append_assoc]
    rw [h2]
    exact getN_put _ _ _ (Oct.sumN_lt _)
  have hb : bodyAt (x ++ (putR r ++ y)) x.length = bodyB r := by
    unfold bodyAt
    rw [hg, drop_app]
    unfold putR
    have e : (Oct.putL (bodyB r).length 4 ++ (Oct.putL (Oct.sumN (bodyB r)) 4 ++ bodyB r) ++ y) = (Oct.putL (bodyB r).length 4 ++ Oct.putL (Oct.sumN (bodyB r)) 4) ++ (bodyB r ++ y) := by simp [List.append_assoc]
    rw [e, List.drop_left' (by rw [List.length_append, Oct.putL_length, Oct.putL_length]), List.take_left]
  refine ⟨⟨?_, ?_, ?_, ?_⟩, hb, hg⟩
  · rw [hg]; simp only [List.length_append, putR_len]; omega
  · rw [hs, hb]
  · rw [hb, read_body true h]; exact h
  · rw [hb, read_body true h]
theorem getO_put (x y : List UInt8) {r : Rec} (h : Right r) : getO (x ++ (putR r ++ y)) x.length = some (r, x.length + (putR r).length) := by
  obtain ⟨h1, h2, h3⟩ := is_put x y h
  rw [getO_yes h1, h2, h3, read_body true h, putR_len, Nat.add_assoc]
theorem take_join (s : List UInt8) (a n : Nat) : (s.drop a).take n ++ s.drop (a + n) = s.drop a := by
  rw [← List.drop_drop, List.take_append_drop]
/-- Behind the place where a record is, it is whole. -/
theorem is_bytes {s : List UInt8} {a : Nat} (h : Is s a) : s = s.take a ++ (putR (readM true (bodyAt s a)) ++ s.drop (a + 8 + Oct.getN s a 4)) := by
  obtain ⟨h1, h2, h3, h4⟩ := h
  have hbl : (bodyAt s a).length = Oct.getN s a 4 := by unfold bodyAt; rw [List.length_take, List.length_drop]; omega
  have e1 : Oct.putL (bodyAt s a).length 4 = (s.drop a).take 4 := by
    rw [hbl]; unfold Oct.getN
    exact Oct.putL_getL 4 _ (by rw [List.length_take, List.length_drop]; omega)
  have e2 : Oct.putL (Oct.sumN (bodyAt s a)) 4 = (s.drop (a + 4)).take 4 := by
    rw [← h2]; unfold Oct.getN
    exact Oct.putL_getL 4 _ (by rw [List.length_take, List.length_drop]; omega)
  unfold putR
  rw [h4, e1, e2]
  have e3 : bodyAt s a ++ s.drop (a + 8 + Oct.getN s a 4) = s.drop (a + 8) := take_join s (a + 8) _
  have e4 : (s.drop (a + 4)).take 4 ++ s.drop (a + 8) = s.drop (a + 4) := take_join s (a + 4) 4
  have e5 : (s.drop a).take 4 ++ s.drop (a + 4) = s.drop a := take_join s a 4
  rw [List.append_assoc, List.append_assoc, e3, e4, e5, List.take_append_drop]
/-- Zeros, or too few bytes, are no record. -/
theorem is_zero {s : List UInt8} {a : Nat} (h : Oct.getN s a 4 = 0) : ¬ Is s a := by
  rintro ⟨_, _, h3, _⟩
  have hb : bodyAt s a = [] := by unfold bodyAt; rw [h, List.take_zero]
  rw [hb] at h3
  exact not_right_zero (by rfl) h3
/-! ### Opening -/
/-- The records from a place on, and the place behind them. -/
noncomputable def openL (s : List UInt8) : Nat → Nat → List Rec × Nat
  | 0, a => ([], a)
  | f + 1, a => match getO s a with
    | none => ([], a)
    | some (r, b) => if r.lsn = (a : Int) + 1 then (r :: (openL s f b).1, (openL s f b).2) else ([], a)
/-- Records one behind the other, the first one at a place. -/
def Row (a : Nat) : List Rec → Prop
  | [] => True
  | r :: l => Right r ∧ r.lsn = (a : Int) + 1 ∧ Row (a + (putR r).length) l
def bytes (l : List Rec) : List UInt8 := l.flatMap putR
theorem bytes_cons (r : Rec) (l : List Rec) : bytes (r :: l) = putR r ++ bytes l := rfl
theorem bytes_append (l m : List Rec) : bytes (l ++ m) = bytes l ++ bytes m := List.flatMap_append
theorem row_append {a : Nat} {l m : List Rec} : Row a (l ++ m) ↔ Row a l ∧ Row (a + (bytes l).length) m := by
  induction l generalizing a with
  | nil => simp [Row, bytes]
  | cons r l ih =>
    show (Right r ∧ r.lsn = (a : Int) + 1 ∧ Row (a + (putR r).length) (l ++ m)) ↔ (Right r ∧ r.lsn = (a : Int) + 1 ∧ Row (a + (putR r).length) l) ∧ _
    rw [ih, bytes_cons, List.length_append, Nat.add_assoc]
    constructor
    · rintro ⟨h1, h2, h3, h4⟩; exact ⟨⟨h1, h2, h3⟩, h4⟩
    · rintro ⟨⟨h1, h2, h3⟩, h4⟩; exact ⟨h1, h2, h3, h4⟩
end Lg
/- The plain law of the log: wherever the power goes while it is forced, what is opened is the old row or the new one. -/
namespace Lg
open Rc
/-- Bytes that read as zeros from a place on, so many of them, as far as there are any. -/
def Zeros (s : List UInt8) (a k : Nat) : Prop := ∀ i, a ≤ i → i < a + k → i < s.length → s[i]? = some 0
theorem getL_zero : ∀ l : List UInt8, (∀ i, i < l.length → l[i]? = some 0) → Oct.getL l = 0 := by
  intro l
  induction l with
  | nil => intro _; rfl
  | cons c l ih =>
    intro h
    have h0 := h 0 (by simp)
    simp only [List.getElem?_cons_zero, Option.some.injEq] at h0
    have h1 := ih (fun i hi => by have := h (i + 1) (by simpa using hi); simpa using this)
    subst h0
    unfold Oct.getL at h1 ⊢
    simpa using h1
theorem getN_zero {s : List UInt8} {a : Nat} (h : Zeros s a 4) : Oct.getN s a 4 = 0 := by
  unfold Oct.getN
  refine getL_zero _ (fun i hi => ?_)
  rw [List.length_take, List.length_drop] at hi
  rw [List.getElem?_take, if_pos (by omega), List.getElem?_drop]
  exact h _ (by omega) (by omega) (by omega)
/-- The row l1 lies in the bytes s, with zeros behind. -/
structure Lies (s : List UInt8) (l : List Rec) : Prop where
  row : Row 0 l
  pre : s.take (bytes l).length = bytes l
  room : (bytes l).length ≤ s.length
  zero : Zeros s (bytes l).length 128
theorem Lies.not {s : List UInt8} {l : List Rec} (h : Lies s l) : ¬ Is s (bytes l).length :=
  is_zero (getN_zero fun i h1 h2 h3 => h.zero i h1 (by omega) h3)
theorem Lies.split {s : List UInt8} {l : List Rec} (h : Lies s l) : s = [] ++ (bytes l ++ s.drop (bytes l).length) := by
  rw [List.nil_append]
  conv => lhs; rw [← List.take_append_drop (bytes l).length s, h.pre]
/-- What is there while the sectors are written from the last one to the first: the old bytes up to q, the new ones behind. -/
def mix (s n : List UInt8) (q : Nat) : List UInt8 := s.take q ++ n.drop q
end Lg
/- The plain law of the log: sectors, and the bytes that they are together. -/
namespace Lg
/-- The bytes of some sectors. -/
def flat (L : List ByteArray) : List UInt8 := L.flatMap (·.data.toList)
def Whole (L : List ByteArray) : Prop := ∀ b ∈ L, b.size = 128
theorem flat_cons (b : ByteArray) (L : List ByteArray) : flat (b :: L) = b.data.toList ++ flat L := rfl
theorem Whole.tail {b : ByteArray} {L : List ByteArray} (h : Whole (b :: L)) : b.data.toList.length = 128 ∧ Whole L :=
  ⟨by have := h b (List.mem_cons_self ..); simpa using this, fun x hx => h x (List.mem_cons_of_mem _ hx)⟩
theorem Whole.set {L : List ByteArray} (h : Whole L) (k : Nat) {b : ByteArray} (hb : b.size = 128) : Whole (L.set k b) := fun x hx => by
  rcases List.mem_or_eq_of_mem_set hx with h1 | h1
  · exact h x h1
  · rw [h1]; exact hb
theorem Whole.take {L : List ByteArray} (h : Whole L) (k : Nat) : Whole (L.take k) := fun x hx => h x (List.mem_of_mem_take hx)
theorem Whole.drop {L : List ByteArray} (h : Whole L) (k : Nat) : Whole (L.drop k) := fun x hx => h x (List.mem_of_mem_drop hx)
theorem flat_len {L : List ByteArray} (h : Whole L) : (flat L).length = L.length * 128 := by
  induction L with
  | nil => rfl
  | cons b L ih =>
    obtain ⟨h1, h2⟩ := h.tail
    rw [flat_cons, List.length_append, h1, ih h2, List.length_cons]; omega
/-- The bytes from a sector on. -/
theorem flat_drop {L : List ByteArray} (h : Whole L) (k : Nat) : flat (L.drop k) = (flat L).drop (k * 128) := by
  induction k generalizing L with
  | zero => simp
  | succ k ih =>
    cases L with
    | nil => simp [flat]
    | cons b L =>
      obtain ⟨h1, h2⟩ := h.tail
      rw [List.drop_succ_cons, ih h2, flat_cons, show (k + 1) * 128 = 128 + k * 128 by omega, ← List.drop_drop, List.drop_left' h1]
theorem flat_take {L : List ByteArray} (h : Whole L) (k : Nat) : flat (L.take k) = (flat L).take (k * 128) := by
  induction k generalizing L with
  | zero => simp [flat]
  | succ k ih =>
    cases L with
    | nil => simp [flat]
    | cons b L =>
      obtain ⟨h1, h2⟩ := h.tail
      rw [List.take_succ_cons, flat_cons, ih h2, flat_cons, show (k + 1) * 128 = 128 + k * 128 by omega, List.take_append, h1, Nat.add_sub_cancel_left, List.take_of_length_le (l := b.data.toList) (by omega)]
/-- A record is read in the bytes from a sector on as it is in all. -/
theorem getO_drop (s : List UInt8) (d a : Nat) (h : d ≤ s.length) : getO (s.drop d) a = (getO s (d + a)).map fun x => (x.1, x.2 - d) := by
  have hg : ∀ k m, Oct.getN (s.drop d) k m = Oct.getN s (d + k) m := fun k m => by unfold Oct.getN; rw [List.drop_drop]
  have hb : bodyAt (s.drop d) a = bodyAt s (d + a) := by unfold bodyAt; rw [hg, List.drop_drop, Nat.add_assoc]
  have hI : Is (s.drop d) a ↔ Is s (d + a) := by
    unfold Is
    rw [hg, hg, hb, List.length_drop, Nat.add_assoc d a 4]
    constructor
    · rintro ⟨h1, h2⟩; exact ⟨by omega, h2⟩
    · rintro ⟨h1, h2⟩; exact ⟨by omega, h2⟩
  by_cases h1 : Is s (d + a)
  · rw [getO_yes h1, getO_yes (hI.2 h1), hb, hg]
    simp only [Option.map_some]
    congr 2; omega
  · rw [getO_no h1, getO_no (fun h => h1 (hI.1 h))]; rfl
end Lg
/- The plain law of the disk and of what the log does with it. -/
namespace Lg
structure Dk where
  sectors : List ByteArray
  left : Int
  down : Bool
structure Lo where
  from_ : Int
  n : Int
  end_ : Int
  safe : Int
  tail : ByteArray
instance : DecidableEq Lo := fun a b =>
  if h : a.from_ = b.from_ ∧ a.n = b.n ∧ a.end_ = b.end_ ∧ a.safe = b.safe ∧ a.tail = b.tail then
    .isTrue (by obtain ⟨a1, a2, a3, a4, a5⟩ := a; obtain ⟨b1, b2, b3, b4, b5⟩ := b; simp only at h; obtain ⟨rfl, rfl, rfl, rfl, rfl⟩ := h; rfl)
  else .isFalse (fun e => h (by subst e; exact ⟨rfl, rfl, rfl, rfl, rfl⟩))
def noLog : Lo := ⟨0, 0, 0, 0, ⟨#[]⟩⟩
def zero128 : ByteArray := ⟨(List.replicate 128 0).toArray⟩
theorem zero128_size : zero128.size = 128 := by unfold zero128; show (List.replicate 128 (0 : UInt8)).toArray.size = _; simp
def newD (n : Nat) : Dk := ⟨List.replicate n zero128, -1, false⟩
def armD (d : Dk) (n : Int) : Dk := { d with left := if n < 0 then -1 else n }
def startD (d : Dk) : Dk := { d with left := -1, down := false }
/-- Is there such a sector? -/
def hasD (d : Dk) (at_ : Int) : Prop := 0 ≤ at_ ∧ at_ < (d.sectors.length : Int)
instance (d : Dk) (a : Int) : Decidable (hasD d a) := by unfold hasD; exact inferInstance
def secAt (d : Dk) (at_ : Int) : ByteArray := d.sectors[at_.toNat]?.getD ⟨#[]⟩
def readD (d : Dk) (at_ : Int) : ByteArray × Int := if d.down then (⟨#[]⟩, 20) else if hasD d at_ then (secAt d at_, 0) else (⟨#[]⟩, 1)
def writeD (d : Dk) (at_ : Int) (b : ByteArray) : Dk × Int :=
  if d.down then (d, 20) else if ¬ (hasD d at_ ∧ b.size = 128) then (d, 1) else if d.left = 0 then ({ d with down := true }, 20)
  else ({ d with sectors := d.sectors.set at_.toNat b, left := if 0 < d.left then d.left - 1 else d.left }, 0)
/-- Some sectors, one behind the other: their bytes, or the first fault. -/
def secsD (d : Dk) (from_ : Int) : Nat → Except Int (List UInt8)
  | 0 => .ok []
  | n + 1 => if (readD d from_).2 = 0 then match secsD d (from_ + 1) n with
    | .ok l => .ok ((readD d from_).1.data.toList ++ l)
    | .error e => .error e
    else .error (readD d from_).2
/-- A text in sectors. -/
def pad128 (l : List UInt8) : ByteArray := ⟨(l ++ List.replicate (128 - l.length) 0).toArray⟩
theorem pad128_size {l : List UInt8} (h : l.length ≤ 128) : (pad128 l).size = 128 := by
  unfold pad128
  show (l ++ List.replicate (128 - l.length) (0 : UInt8)).toArray.size = _
  simp; omega
def cutW (l : List UInt8) : List ByteArray := if _h : l = [] then [] else pad128 (l.take 128) :: cutW (l.drop 128)
termination_by l.length
decreasing_by
  cases l with
  | nil => contradiction
  | cons a l => simp; omega
theorem cutW_nil : cutW [] = [] := by rw [cutW]; simp
theorem cutW_cons {l : List UInt8} (h : l ≠ []) : cutW l = pad128 (l.take 128) :: cutW (l.drop 128) := by
  conv => lhs; rw [cutW]
  rw [dif_neg h]
def cutB (s : ByteArray) : List ByteArray := cutW s.data.toList
theorem cutW_size (n : Nat) : ∀ l : List UInt8, l.length ≤ n → ∀ b ∈ cutW l, b.size = 128 := by
  induction n with
  | zero =>
    intro l hl b hb
    rw [List.eq_nil_of_length_eq_zero (l := l) (by omega), cutW_nil] at hb
    cases hb
  | succ n ih =>
    intro l hl b hb
    by_cases h : l = []
    · rw [h, cutW_nil] at hb; cases hb
    · rw [cutW_cons h] at hb
      rcases List.mem_cons.1 hb with h1 | h1
      · rw [h1]; exact pad128_size (by rw [List.length_take]; omega)
      · have h0 : 0 < l.length := by cases l with
          | nil => contradiction
          | cons a l => simp
        exact ih _ (by rw [List.length_drop]; omega) b h1
theorem cutW_length (n : Nat) : ∀ l : List UInt8, l.length ≤ n → (cutW l).length = (l.length + 127) / 128 := by
  induction n with
  | zero =>
    intro l hl
    rw [List.eq_nil_of_length_eq_zero (l := l) (by omega), cutW_nil]; rfl
  | succ n ih =>
    intro l hl
    by_cases h : l = []
    · rw [h, cutW_nil]; rfl
    · have h0 : 0 < l.length := by cases l with
        | nil => contradiction
        | cons a l => simp
      rw [cutW_cons h, List.length_cons, ih _ (by rw [List.length_drop]; omega), List.length_drop]
      omega
theorem cutB_length (s : ByteArray) : (cutB s).length = (s.size + 127) / 128 := by
  unfold cutB; rw [cutW_length _ _ (Nat.le_refl _)]; simp
theorem cutB_size (s : ByteArray) : ∀ b ∈ cutB s, b.size = 128 := cutW_size _ _ (Nat.le_refl _)
/-- All sectors of a row are written, from the last one to the first. -/
def putAll (base : Int) (all : List ByteArray) : Nat → Dk → Dk × Int
  | 0, d => (d, 0)
  | i + 1, d => if (writeD d (base + (i : Int)) (all[i]?.getD ⟨#[]⟩)).2 = 0 then putAll base all i (writeD d (base + (i : Int)) (all[i]?.getD ⟨#[]⟩)).1 else writeD d (base + (i : Int)) (all[i]?.getD ⟨#[]⟩)
def firstS (l : Lo) : Int := (l.end_ - (l.tail.size : Int)) / 128
def allS (l : Lo) : List ByteArray := if firstS l + (cutB l.tail).length < l.n then cutB l.tail ++ [zero128] else cutB l.tail
def forcedL (l : Lo) : Lo := { l with safe := l.end_, tail := l.tail.extract (l.tail.size - (l.end_ % 128).toNat) l.tail.size }
def forceD (d : Dk) (l : Lo) : Dk × Lo × Int :=
  if l.safe = l.end_ then (d, l, 0) else
  let x := putAll (l.from_ + firstS l) (allS l) (allS l).length d
  if x.2 = 0 then (x.1, forcedL l, 0) else (x.1, l, x.2)
noncomputable def openD (d : Dk) (from_ n : Int) : Lo × List Rc.Rec × Int :=
  match secsD d from_ n.toNat with
  | .error e => (noLog, [], e)
  | .ok s =>
    let x := openL s (s.length + 1) 0
    (⟨from_, n, (x.2 : Int), (x.2 : Int), ⟨((s.take x.2).drop (x.2 - x.2 % 128)).toArray⟩⟩, x.1, 0)
open Classical in
noncomputable def appendD (l : Lo) (r : Rc.Rec) : Lo × Int × Int :=
  let r' : Rc.Rec := { r with lsn := l.end_ + 1 }
  if ¬ Rc.Right r' then (l, 0, 1) else
  if l.n * 128 - ((putR r').length : Int) < l.end_ then (l, 0, 18) else
  ({ l with end_ := l.end_ + ((putR r').length : Int), tail := l.tail ++ ⟨(putR r').toArray⟩ }, l.end_ + 1, 0)
/-- What Read answers: a record, or a fault. -/
noncomputable def readL (d : Dk) (l : Lo) (lsn : Int) : Except Int Rc.Rec :=
  if lsn < 1 ∨ l.end_ < lsn then .error 21 else
  let base := (l.end_ - (l.tail.size : Int)) / 128
  let first := min ((lsn - 1) / 128) base
  match secsD d (l.from_ + first) (base - first).toNat with
  | .error e => .error e
  | .ok s => match getO (s ++ l.tail.data.toList) (lsn - 1 - first * 128).toNat with
    | none => .error 21
    | some (r, _) => if r.lsn = lsn then .ok r else .error 21
end Lg
/- The walks over package octet: numbers in bytes. -/
namespace Go.Proofs.YtojaagnfjenhoaaGreat
open Go.RowKit
/-- One byte of the number, as the walk writes it. -/
def byteI (n : Int) (size i : Nat) : Int := IntKind.u64.wrap n / 2 ^ (8 * (size - 1 - i)) % 256
theorem wrap_word (n : Int) : IntKind.u64.wrap n = (Oct.word n : Int) := by
  show n % 18446744073709551616 = _
  unfold Oct.word; omega
theorem byteI_eq (n : Int) (size i : Nat) : byteI n size i = ((Oct.word n / 256 ^ (size - 1 - i) % 256 : Nat) : Int) := by
  have e : (256 : Nat) ^ (size - 1 - i) = 2 ^ (8 * (size - 1 - i)) := by rw [Nat.pow_mul]
  rw [byteI, wrap_word, e]
  simp
/-- The cells of the bytes that octet.Put makes, once k of them are stored. -/
def fillA (n : Int) (size k : Nat) : Array Value := ((List.range size).map fun i => Value.int .u8 (if i < k then byteI n size i else 0)).toArray
theorem Tryz.elem8 : (Tryz.prog.info? 5).map (fun i => (i.zero, i.size, i.bytes)) = some (some (.int .u8 0), 1, 1) := by kernel_rfl
theorem fillA_start (n : Int) (size : Nat) : madeCells (Value.int .u8 0).cells (size * 1) = fillA n size 0 := by
  apply Array.ext_getElem?
  intro i
  simp only [madeCells, fillA, Nat.mul_one]
  by_cases h : i < size
  · simp [h, Value.cells, Nat.mod_one]
  · simp [h]
theorem fillA_store (n : Int) (size k : Nat) (_hk : k < size) : (fillA n size k).setIfInBounds k (.int .u8 (byteI n size k)) = fillA n size (k + 1) := by
  apply Array.ext_getElem?
  intro i
  simp only [fillA, List.setIfInBounds_toArray, List.getElem?_toArray, List.getElem?_set, List.getElem?_map, List.length_map, List.length_range]
  by_cases hi : k = i
  · subst hi
    simp [_hk]
  · rw [if_neg hi]
    by_cases h : i < size
    · simp only [List.getElem?_range h, Option.map_some]
      by_cases h2 : i < k
      · rw [if_pos h2, if_pos (by omega)]
      · rw [if_neg h2, if_neg (by omega)]
    · simp [h]
theorem fillA_cell (n : Int) (size k j : Nat) (hj : j < size) : (fillA n size k)[j]? = some (.int .u8 (if j < k then byteI n size j else 0)) := by
  simp [fillA, hj]
theorem fillA_end (n : Int) (size j : Nat) (hj : j < (Oct.putL (Oct.word n) size).length) : (fillA n size size)[j]? = some (.int .u8 ((Oct.putL (Oct.word n) size)[j].toNat : Int)) := by
  have hl := Oct.putL_length (Oct.word n) size
  rw [fillA_cell n size size j (by omega), if_pos (by omega), byteI_eq]
  have h := Oct.putL_get size (Oct.word n) j (by omega)
  rw [List.getElem?_eq_getElem hj] at h
  injection h with h
  rw [h, UInt8.toNat_ofNat']
  have : Oct.word n / 256 ^ (size - 1 - j) % 256 % 2 ^ 8 = Oct.word n / 256 ^ (size - 1 - j) % 256 := by omega
  rw [this]
theorem make_run (n : Int) (size : Nat) (hs : size ≤ 8) (W : World) : (Instr.makeSlice 74 (.int .i64 (size : Int)) (.int .i64 (size : Int))).run Tryz.prog W = .ok (.slice (some ⟨W.heap.size, 0, none⟩) size size) (W.alloc (.cells (fillA n size 0) 5)) := by
  obtain ⟨i0, hi, hz0, hz1, hz2⟩ := info_parts Tryz.elem8
  have h := run_make (P := Tryz.prog) W 74 5 i0 (.int .u8 0) Tryz.underlying74 hi hz0 .i64 .i64 size size (by omega) (by omega) (by rw [hz2]; omega) (by omega)
  rw [hz1, Int.toNat_natCast, fillA_start n size] at h
  exact h
theorem convert_run (n : Int) (size : Nat) (w : World) : (convert 74 9 (.slice (some ⟨w.heap.size, 0, none⟩) size size)).run Tryz.prog (w.alloc (.cells (fillA n size size) 5)) = .ok (.string ⟨(Oct.putL (Oct.word n) size).toArray⟩) (w.alloc (.cells (fillA n size size) 5)) := by
  have hl := Oct.putL_length (Oct.word n) size
  have h := run_convert_bytes_back (P := Tryz.prog) (w.alloc (.cells (fillA n size size) 5)) 74 9 5 ⟨w.heap.size, 0, none⟩ size (Oct.putL (Oct.word n) size) Tryz.underlying74 Tryz.underlying5 Tryz.underlying9 (fun j hj => by
    have ha : (⟨w.heap.size, 0, none⟩ : Addr).add j = ⟨w.heap.size, j, none⟩ := by
      unfold Addr.add; split
      · rename_i h; rw [h]
      · simp
    rw [ha, World.cell?_alloc_new]
    exact fillA_end n size j hj)
  rw [hl] at h
  exact h
theorem put_walk (n : Int) (size : Nat) (hs : size ≤ 8) (w : World) :
    Calls Tryz.prog 40 #[.int .i64 n, .int .i64 size] w fun e w' => e = .returned (.string (Oct.putB n size)) ∧ Below w.heap.size w w' := by
  have hmk := make_run n size hs
  have HP := Lib.hid (show Oct.putB n size = ⟨(Oct.putL (Oct.word n) size).toArray⟩ from by rw [Oct.putB, if_neg (by omega), Int.toNat_natCast])
  go_enter Tryz.func40, Tryz.ntmps40
  go_wp2_with fail
  clear hmk
  go_loopw [17] (fun i wr => ∃ k : Nat, k ≤ size ∧ i = .int .i64 k ∧ wr = w.alloc (.cells (fillA n size k) 5)) (fun i _ => size - (intOf i).toNat)
  case atStart => exact ⟨0, Nat.zero_le _, rfl, rfl⟩
  case round =>
    obtain ⟨k, hk, rfl, rfl⟩ := hrel
    by_cases hlt : k < size
    · have hc : (fillA n size k)[k]? = some (.int .u8 0) := by rw [fillA_cell n size k k hlt, if_neg (by omega)]
      have HS := Lib.hid (fillA_store n size k hlt)
      go_wp2_with fail
      go_roundw
      case rel => exact ⟨k + 1, by omega, by go_num, by rw [← HS.out]; rfl⟩
      case measure => simp [intOf]; omega
    · obtain rfl : size = k := by omega
      have hcv := convert_run n size w
      go_wp2_with fail
      go_ret
      exact ⟨by rw [HP.out]; rfl, (Below.refl _ _).alloc (Nat.le_refl _) _⟩
/-- octet.Put, of as many bytes as fit. -/
theorem put_any (n size : Int) (h0 : 0 ≤ size) (h8 : size ≤ 8) (w : World) :
    Calls Tryz.prog 40 #[.int .i64 n, .int .i64 size] w fun e w' => e = .returned (.string (Oct.putB n size)) ∧ Below w.heap.size w w' := by
  obtain ⟨k, rfl⟩ := Int.eq_ofNat_of_zero_le h0
  exact put_walk n k (by omega) w
/-- The number of the first k bytes, as the walk carries it. -/
def accI (t : ByteArray) (k : Nat) : Int := (Oct.getL (t.data.toList.take k) : Int)
theorem or_step (x c : Nat) (hx : x < 72057594037927936) (hc : c < 256) : bits .or .u64 (IntKind.u64.wrap ((x : Int) * 256)) (IntKind.u64.wrap (c : Int)) = ((256 * x + c : Nat) : Int) := by
  rw [IntKind.wrap_u64, IntKind.wrap_u64, show (x : Int) * 256 % 18446744073709551616 = ((256 * x : Nat) : Int) by omega, show (c : Int) % 18446744073709551616 = (c : Int) by omega, bits_or_u64_nat _ _ (by omega) (by omega), Oct.or_byte x c hc]
theorem accI_step (t : ByteArray) (k : Nat) (hk : k < t.size) (h8 : k < 8) : bits .or .u64 (IntKind.u64.wrap (accI t k * 256)) (IntKind.u64.wrap ((t.data[k]?.getD 0).toNat : Int)) = accI t (k + 1) := by
  have hl : k < t.data.toList.length := by simpa using hk
  have e : t.data.toList[k]?.getD 0 = t.data[k]?.getD 0 := by simp
  unfold accI
  rw [Oct.getL_take _ k hl, e, or_step _ _ (Oct.getL_take_lt _ k h8) (t.data[k]?.getD 0).toNat_lt]
theorem wrap_int (u : Nat) (h : u < 18446744073709551616) : wrap64 (u : Int) = Oct.intOf u := by
  unfold Oct.intOf wrap64
  split <;> omega
theorem below_bytes (w : World) (e : TypeId) (s : ByteArray) : Below w.heap.size w (Lib.bytesWorld w e s) :=
  ⟨rfl, rfl, rfl, by rw [Lib.bytesWorld_size]; omega, fun j hj => Lib.bytesWorld_at_old w e s j hj⟩
theorem get_yes (s : ByteArray) (a size : Nat) (hs1 : 1 ≤ size) (hs8 : size ≤ 8) (hin : a + size ≤ s.size) (hm : s.size ≤ 281474976710656) (w : World) :
    Calls Tryz.prog 57 #[.string s, .int .i64 (a : Int), .int .i64 (size : Int)] w fun e w' => e = .returned (.tuple #[.int .i64 (Oct.intOf (Oct.getN s.data.toList a size)), .bool true]) ∧ Below w.heap.size w w' := by
  obtain ⟨t, ht⟩ : ∃ t : ByteArray, t = s.extract a (a + size) := ⟨_, rfl⟩
  have htl : t.data.toList = (s.data.toList.drop a).take size := by rw [ht]; simp
  have hts : t.size = size := by rw [ht, ByteArray.size_extract]; omega
  have hcv := fun W => Lib.run_convert_string_bytes (P := Tryz.prog) W 9 74 5 (s.extract a (a + size)) Tryz.underlying9 Tryz.underlying74 Tryz.underlying5
  have HT := Lib.hid ht
  have HL := Lib.hid htl
  have HS := Lib.hid hts
  clear ht htl hts
  go_enter Tryz.func57, Tryz.ntmps57
  go_wp2_with fail
  clear hcv
  generalize hwt : Lib.bytesWorld w 5 (s.extract a (a + size)) = wt
  have HW := Lib.hid hwt
  clear hwt
  have HC := Lib.hid (show ∀ k, k < size → wt.cell? ⟨w.heap.size, k, none⟩ = some (.int .u8 ((t.data.toList.getD k 0).toNat : Int)) from fun k hk => by
    rw [← HW.out, ← HT.out]
    exact Lib.bytesWorld_cell w 5 t k (by rw [HS.out]; exact hk))
  go_loop [8, 43] (fun n i => ∃ k : Nat, k ≤ size ∧ i = .int .i64 k ∧ n = .int .u64 (accI t k)) (fun _ i => size - (intOf i).toNat)
  case atStart => exact ⟨0, Nat.zero_le _, rfl, rfl⟩
  case round =>
    obtain ⟨k, hk, rfl, rfl⟩ := hrel
    by_cases hlt : k < size
    · have hc := HC.out k hlt
      have HA := Lib.hid (accI_step t k (by rw [HS.out]; exact hlt) (by omega))
      go_wp2_with fail
      go_round
      case rel => exact ⟨k + 1, by omega, by go_num, by rw [HA.out]⟩
      case measure => simp [intOf]; omega
    · obtain rfl : size = k := by omega
      have HE := Lib.hid (show wrap64 (accI t size) = Oct.intOf (Oct.getN s.data.toList a size) by
        have h1 : t.data.toList.take size = t.data.toList := List.take_of_length_le (by have := HS.out; simp; omega)
        have h2 : Oct.getL t.data.toList < 18446744073709551616 := by
          have := Oct.getL_lt t.data.toList
          have h3 : 256 ^ t.data.toList.length ≤ 256 ^ 8 := Nat.pow_le_pow_right (by omega) (by have := HS.out; simp; omega)
          omega
        rw [accI, h1, wrap_int _ h2, HL.out]; rfl)
      go_wp2_with fail
      go_ret2
      refine ⟨by rw [← HE.out]; rfl, ?_⟩
      rw [← HW.out]
      exact below_bytes _ _ _
theorem get_no (s : ByteArray) (a size : Int) (hm : s.size ≤ 281474976710656) (hb1 : -4611686018427387904 ≤ a) (hb2 : a ≤ 4611686018427387904) (hn : Oct.there s.size a size = false) (w : World) :
    Calls Tryz.prog 57 #[.string s, .int .i64 a, .int .i64 size] w fun e w' => e = .returned (.tuple #[.int .i64 0, .bool false]) ∧ w = w' := by
  have hcase : size < 1 ∨ (1 ≤ size ∧ 8 < size) ∨ (1 ≤ size ∧ size ≤ 8 ∧ a < 0) ∨ (1 ≤ size ∧ size ≤ 8 ∧ 0 ≤ a ∧ (s.size : Int) < a) ∨ (1 ≤ size ∧ size ≤ 8 ∧ 0 ≤ a ∧ a ≤ (s.size : Int) ∧ (s.size : Int) - a < size) := by
    simp only [Oct.there, Bool.and_eq_false_iff, decide_eq_false_iff_not] at hn
    omega
  clear hn
  rcases hcase with h | ⟨h1, h2⟩ | ⟨h1, h2, h3⟩ | ⟨h1, h2, h3, h4⟩ | ⟨h1, h2, h3, h4, h5⟩
  all_goals
    go_enter Tryz.func57, Tryz.ntmps57
    go_wp2_with fail
    go_ret2
    exact ⟨rfl, rfl⟩
theorem xor_byte (n : Nat) (c : UInt8) (hn : n < 4294967296) : bits .xor .u32 (n : Int) ((c.toNat : Int) % 4294967296) = ((n ^^^ c.toNat : Nat) : Int) := by
  have := c.toNat_lt
  rw [show (c.toNat : Int) % 4294967296 = (c.toNat : Int) by omega, u32_xor_nat _ _ hn (by omega)]
/-- A sum's own arithmetic: one bit. -/
theorem and_one (n : Nat) (hn : n < 4294967296) : bits .and .u32 (n : Int) 1 = ((n % 2 : Nat) : Int) := by
  have h := u32_and_nat n 1 hn (by omega)
  rw [Nat.and_one_is_mod] at h
  exact h
theorem crc_bit (n : Nat) (hn : n < 4294967296) : bits .xor .u32 ((n : Int) / 2) (3988292384 * bits .and .u32 (n : Int) 1 % 4294967296) = (Oct.bit1 n : Int) := by
  rw [and_one n hn]
  unfold Oct.bit1
  by_cases h : n % 2 = 1
  · rw [if_pos h, h, show (3988292384 * ((1 : Nat) : Int)) % 4294967296 = ((3988292384 : Nat) : Int) by omega, show (n : Int) / 2 = ((n / 2 : Nat) : Int) by omega, u32_xor_nat _ _ (by omega) (by omega)]
  · have h0 : n % 2 = 0 := by omega
    rw [if_neg h, h0, show (3988292384 * ((0 : Nat) : Int)) % 4294967296 = ((0 : Nat) : Int) by omega, show (n : Int) / 2 = ((n / 2 : Nat) : Int) by omega, u32_xor_nat _ _ (by omega) (by omega), Nat.xor_zero]
theorem crc_not (n : Nat) (hn : n < 4294967296) : wrap64 (bits .xor .u32 IntKind.u32.max (n : Int)) = ((n ^^^ 4294967295 : Nat) : Int) := by
  have hx : 4294967295 ^^^ n < 2 ^ 32 := Nat.xor_lt_two_pow (by omega) hn
  have h := u32_xor_nat 4294967295 n (by omega) hn
  rw [show IntKind.u32.max = ((4294967295 : Nat) : Int) from rfl, h, Nat.xor_comm]
  rw [Nat.xor_comm] at hx
  exact IntWalk.wrap64_in _ ⟨by omega, by omega⟩
theorem crc_snoc (s : ByteArray) (k : Nat) (h : k < s.size) : Oct.crcFrom 4294967295 (s.data.toList.take (k + 1)) = Oct.crcByte (Oct.crcFrom 4294967295 (s.data.toList.take k)) s[k] := by
  rw [List.take_succ_eq_append_getElem (by simpa using h), Oct.crcFrom_snoc]; rfl
set_option maxHeartbeats 400000 in
theorem sum_any (s : ByteArray) (hm : s.size ≤ 281474976710656) (w : World) :
    Calls Tryz.prog 76 #[.string s] w fun e w' => e = .returned (.int .i64 (Oct.sumN s.data.toList)) ∧ w = w' := by
  go_enter Tryz.func76, Tryz.ntmps76
  go_wp2_with fail
  go_loop [3, 4] (fun n i => ∃ k : Nat, k ≤ s.size ∧ i = .int .i64 k ∧ n = .int .u32 (Oct.crcFrom 4294967295 (s.data.toList.take k))) (fun _ i => s.size - (intOf i).toNat)
  case atStart => exact ⟨0, Nat.zero_le _, rfl, rfl⟩
  case round =>
    obtain ⟨k, hk, rfl, rfl⟩ := hrel
    have hr := Oct.crcFrom_lt (s.data.toList.take k) (n := 4294967295) (by omega)
    by_cases hlt : k < s.size
    · have HX := Lib.hid (xor_byte (Oct.crcFrom 4294967295 (s.data.toList.take k)) s[k] hr)
      have hr2 : Oct.crcFrom 4294967295 (s.data.toList.take k) ^^^ s[k].toNat < 4294967296 := Nat.xor_lt_two_pow (n := 32) hr (by have := s[k].toNat_lt; omega)
      have HN := Lib.hid (crc_snoc s k hlt)
      go_wp2_with fail
      rw [HX.out]
      generalize hg : Oct.crcFrom 4294967295 (s.data.toList.take k) ^^^ s[k].toNat = r0 at hr2 ⊢
      have HG := Lib.hid hg
      clear hg
      go_loop [3, 18] (fun n i => ∃ j : Nat, j ≤ 8 ∧ i = .int .i64 j ∧ n = .int .u32 (Oct.bits8 j r0)) (fun _ i => 8 - (intOf i).toNat)
      case atStart => exact ⟨0, Nat.zero_le _, rfl, rfl⟩
      case round =>
        obtain ⟨j, hj, rfl, rfl⟩ := hrel
        have hb := Oct.bits8_lt j hr2
        by_cases hjt : j < 8
        · have HB := Lib.hid (crc_bit (Oct.bits8 j r0) hb)
          have HB2 := Lib.hid (Oct.bits8_succ j r0)
          go_wp2_with fail
          go_round
          case rel => exact ⟨j + 1, by omega, by go_num, by rw [HB2.out, ← HB.out]⟩
          case measure => simp [intOf]; omega
        · obtain rfl : j = 8 := by omega
          go_wp2_with fail
          go_round
          case rel => exact ⟨k + 1, by omega, by go_num, by rw [HN.out, Oct.crcByte, HG.out]⟩
          case measure => simp [intOf]; omega
    · obtain rfl : k = s.size := by omega
      go_wp2_with fail
      have HF := Lib.hid (crc_not _ hr)
      have HA := Lib.hid (show Oct.crcFrom 4294967295 (s.data.toList.take s.size) ^^^ 4294967295 = Oct.sumN s.data.toList by rw [List.take_of_length_le (by simp)]; rfl)
      go_ret
      exact ⟨by rw [← HA.out, ← HF.out]; rfl, rfl⟩
end Go.Proofs.YtojaagnfjenhoaaGreat
/- The walks over the reference of chapter 5: numbers in bytes, the sum. -/
namespace Go.Proofs.YtojaagnfjenhoaaGreat
open Go.RowKit
/-- What the reference's Put has gathered after k rounds. -/
theorem putL_step (u k : Nat) : Oct.putL u (k + 1) = UInt8.ofNat (u / 256 ^ k % 256) :: Oct.putL u k := by
  induction k generalizing u with
  | zero => simp [Oct.putL]
  | succ k ih =>
    rw [Oct.putL, ih, Oct.putL]
    simp only [List.cons_append]
    rw [Nat.div_div_eq_div_mul, Nat.pow_succ, Nat.mul_comm 256]
/-- string([]byte{c}). -/
theorem one_byte (c : Nat) (hc : c < 256) (W : World) : (convert 74 9 (.slice (some ⟨W.heap.size, 0, none⟩) 1 1)).run Tryz.prog (W.alloc (.cells #[.int .u8 (c : Int)] 5)) = .ok (.string ⟨#[UInt8.ofNat c]⟩) (W.alloc (.cells #[.int .u8 (c : Int)] 5)) := by
  have h := run_convert_bytes_back (P := Tryz.prog) (W.alloc (.cells #[.int .u8 (c : Int)] 5)) 74 9 5 ⟨W.heap.size, 0, none⟩ 1 [UInt8.ofNat c] Tryz.underlying74 Tryz.underlying5 Tryz.underlying9 (fun j hj => by
    obtain rfl : j = 0 := by simpa using hj
    show World.cell? _ ⟨W.heap.size, 0, none⟩ = _
    rw [World.cell?_alloc_new]
    have e : (UInt8.ofNat c).toNat = c := by rw [UInt8.toNat_ofNat']; omega
    simp [e])
  exact h
theorem rput_walk (n : Int) (size : Nat) (hs : size ≤ 8) (w : World) :
    Calls Tryz.prog 44 #[.int .i64 n, .int .i64 size] w fun e w' => e = .returned (.string (Oct.putB n size)) ∧ Below w.heap.size w w' := by
  have HP := Lib.hid (show Oct.putB n size = ⟨(Oct.putL (Oct.word n) size).toArray⟩ from by rw [Oct.putB, if_neg (by omega), Int.toNat_natCast])
  go_enter Tryz.func44, Tryz.ntmps44
  go_wp2_with fail
  go_loopw [5, 6, 7] (fun o u i wr => ∃ k x : Nat, k ≤ size ∧ i = .int .i64 k ∧ u = .int .u64 (x : Int) ∧ x = Oct.word n / 256 ^ k ∧ o = .string ⟨(Oct.putL (Oct.word n) k).toArray⟩ ∧ Below w.heap.size w wr) (fun _ _ i _ => size - (intOf i).toNat)
  case atStart => exact ⟨0, Oct.word n, Nat.zero_le _, rfl, by rw [← wrap_word], by simp, rfl, Below.refl _ _⟩
  case round =>
    obtain ⟨k, x, hk, rfl, rfl, hx, rfl, hb⟩ := hrel
    have HX := Lib.hid hx
    have hxl : x < 18446744073709551616 := by
      rw [hx]; exact Nat.lt_of_le_of_lt (Nat.div_le_self _ _) (Oct.word_lt n)
    clear hx
    by_cases hlt : k < size
    · obtain ⟨c, hc⟩ : ∃ c : Nat, c = x % 256 := ⟨_, rfl⟩
      obtain ⟨y, hy⟩ : ∃ y : Nat, y = x / 256 := ⟨_, rfl⟩
      have hand : bits .and .u64 (x : Int) 255 = (c : Int) := by
        have h := bits_and_u64_nat x 255 hxl (by omega)
        rw [show x &&& 255 = x % 256 from Nat.and_two_pow_sub_one_eq_mod x 8, ← hc] at h
        exact h
      have hdiv : (x : Int) / 256 = (y : Int) := by omega
      have hc256 : c < 256 := by omega
      have hci : (c : Int) < 256 := by omega
      have hmod : (c : Int) % 256 = (c : Int) := by omega
      have hcv := one_byte c hc256
      have hsz : (Oct.putL (Oct.word n) k).length ≤ 8 := by rw [Oct.putL_length]; omega
      generalize hl : Oct.putL (Oct.word n) k = l at hsz ⊢
      have HL := Lib.hid hl
      have HC := Lib.hid hc
      have HY := Lib.hid hy
      clear hl hc hy
      obtain ⟨t, ht⟩ : ∃ t : ByteArray, t = ⟨l.toArray⟩ := ⟨_, rfl⟩
      have hadd : ∀ W : World, (Op.stringOp .add ⟨#[UInt8.ofNat c]⟩ t).run Tryz.prog W = .ok (.string (⟨#[UInt8.ofNat c]⟩ ++ t)) W := fun W => run_string_add_sum W _ _ (by
        rw [ht]
        show 1 + l.toArray.size ≤ _
        simp; omega)
      rw [← ht]
      have HT := Lib.hid ht
      clear ht
      go_wp2_with fail
      go_roundw
      case rel => exact ⟨k + 1, y, by omega, by go_num, rfl, by rw [HY.out, HX.out, Nat.pow_succ, Nat.div_div_eq_div_mul], by
        rw [putL_step, HL.out, HT.out, HC.out, HX.out]
        exact congrArg Value.string (ByteArray.ext (by simp)), hb.alloc hb.size _⟩
      case measure => simp [intOf]; omega
    · obtain rfl : size = k := by omega
      go_wp2_with fail
      go_ret
      exact ⟨by rw [HP.out]; rfl, hb⟩
theorem rput_any (n size : Int) (h0 : 0 ≤ size) (h8 : size ≤ 8) (w : World) :
    Calls Tryz.prog 44 #[.int .i64 n, .int .i64 size] w fun e w' => e = .returned (.string (Oct.putB n size)) ∧ Below w.heap.size w w' := by
  obtain ⟨k, rfl⟩ := Int.eq_ofNat_of_zero_le h0
  exact rput_walk n k (by omega) w
theorem there_yes (len : Nat) (s : ByteArray) (a size : Nat) (_hl : len = s.size) (hin : a + size ≤ s.size) (hm : s.size ≤ 281474976710656) (w : World) :
    Calls Tryz.prog 94 #[.string s, .int .i64 (a : Int), .int .i64 (size : Int)] w fun e w' => e = .returned (.bool true) ∧ w = w' := by
  clear _hl
  go_enter Tryz.func94, Tryz.ntmps94
  go_wp2_with fail
  go_ret
  exact ⟨congrArg (fun b => Ending.returned (.bool b)) (decide_eq_true (by omega)), rfl⟩
theorem rget_yes (s : ByteArray) (a size : Nat) (hs1 : 1 ≤ size) (hs8 : size ≤ 8) (hin : a + size ≤ s.size) (hm : s.size ≤ 281474976710656) (w : World) :
    Calls Tryz.prog 61 #[.string s, .int .i64 (a : Int), .int .i64 (size : Int)] w fun e w' => e = .returned (.tuple #[.int .i64 (Oct.intOf (Oct.getN s.data.toList a size)), .bool true]) ∧ w = w' := by
  obtain ⟨t, ht⟩ : ∃ t : ByteArray, t = s.extract a (a + size) := ⟨_, rfl⟩
  have htl : t.data.toList = (s.data.toList.drop a).take size := by rw [ht]; simp
  have hts : t.size = size := by rw [ht, ByteArray.size_extract]; omega
  have hlt : ∀ k, k < size → a + k < s.size := fun k h => by omega
  have htb : ∀ k (h : k < size), (t.data[k]?.getD 0) = s[a + k]'(hlt k h) := by
    intro k h
    have h1 : t.data.toList[k]? = s.data.toList[a + k]? := by
      rw [htl, List.getElem?_take_of_lt h, List.getElem?_drop]
    have h2 : t.data[k]? = s.data[a + k]? := by simpa using h1
    rw [h2, Array.getElem?_eq_getElem (show a + k < s.data.size from by show a + k < s.size; omega)]
    rfl
  have HT := Lib.hid htb
  have HL := Lib.hid htl
  have HS := Lib.hid hts
  clear ht htl hts htb
  go_enter Tryz.func61, Tryz.ntmps61
  go_wp2_with (go_at_call 94; refine (there_yes _ s a size rfl hin hm _).mono ?_; rintro e w' ⟨rfl, rfl⟩)
  go_loop [8, 9] (fun n i => ∃ k : Nat, k ≤ size ∧ i = .int .i64 k ∧ n = .int .u64 (accI t k)) (fun _ i => size - (intOf i).toNat)
  case atStart => exact ⟨0, Nat.zero_le _, rfl, rfl⟩
  case round =>
    obtain ⟨k, hk, rfl, rfl⟩ := hrel
    by_cases hlt : k < size
    · have HA := Lib.hid (accI_step t k (by rw [HS.out]; exact hlt) (by omega))
      have HB := Lib.hid (HT.out k hlt)
      go_wp2_with fail
      go_round
      case rel => exact ⟨k + 1, by omega, by go_num, by rw [← HA.out, HB.out]⟩
      case measure => simp [intOf]; omega
    · obtain rfl : size = k := by omega
      have HE := Lib.hid (show wrap64 (accI t size) = Oct.intOf (Oct.getN s.data.toList a size) by
        have h1 : t.data.toList.take size = t.data.toList := List.take_of_length_le (by have := HS.out; simp; omega)
        have h2 : Oct.getL t.data.toList < 18446744073709551616 := by
          have := Oct.getL_lt t.data.toList
          have h3 : 256 ^ t.data.toList.length ≤ 256 ^ 8 := Nat.pow_le_pow_right (by omega) (by have := HS.out; simp; omega)
          omega
        rw [accI, h1, wrap_int _ h2, HL.out]; rfl)
      go_wp2_with fail
      go_ret2
      exact ⟨by rw [← HE.out]; rfl, rfl⟩
theorem step_any (n : Nat) (hn : n < 4294967296) (w : World) :
    Calls Tryz.prog 86 #[.int .u64 (n : Int)] w fun e w' => e = .returned (.int .u64 (Oct.bit1 n : Int)) ∧ w = w' := by
  have hand : bits .and .u64 (n : Int) 1 = ((n % 2 : Nat) : Int) := by
    have h := bits_and_u64_nat n 1 (by omega) (by omega)
    rw [Nat.and_one_is_mod] at h
    exact h
  by_cases h : n % 2 = 1
  · rw [h] at hand
    have hx := bits_xor_u64_nat (n / 2) 3988292384 (by omega) (by omega)
    have HX := Lib.hid (show bits .xor .u64 ((n : Int) / 2) 3988292384 = (Oct.bit1 n : Int) by rw [Oct.bit1, if_pos h, ← hx]; simp)
    clear hx h
    go_enter Tryz.func86, Tryz.ntmps86
    go_wp2_with fail
    go_ret
    exact ⟨by rw [← HX.out]; rfl, rfl⟩
  · have h0 : n % 2 = 0 := by omega
    rw [h0] at hand
    have HX := Lib.hid (show (n : Int) / 2 = (Oct.bit1 n : Int) by rw [Oct.bit1, if_neg h]; simp)
    clear h h0
    go_enter Tryz.func86, Tryz.ntmps86
    go_wp2_with fail
    go_ret
    exact ⟨by rw [← HX.out]; rfl, rfl⟩
theorem xor_byte64 (n : Nat) (c : UInt8) (hn : n < 4294967296) : bits .xor .u64 (n : Int) (IntKind.u64.wrap (c.toNat : Int)) = ((n ^^^ c.toNat : Nat) : Int) := by
  have := c.toNat_lt
  rw [IntKind.wrap_u64, show (c.toNat : Int) % 18446744073709551616 = (c.toNat : Int) by omega, bits_xor_u64_nat _ _ (by omega) (by omega)]
theorem crc_not64 (n : Nat) (hn : n < 4294967296) : wrap64 (bits .xor .u64 (n : Int) 4294967295) = ((n ^^^ 4294967295 : Nat) : Int) := by
  have hx : n ^^^ 4294967295 < 2 ^ 32 := Nat.xor_lt_two_pow hn (by omega)
  have h := bits_xor_u64_nat n 4294967295 (by omega) (by omega)
  rw [show (4294967295 : Int) = ((4294967295 : Nat) : Int) from rfl, h]
  exact IntWalk.wrap64_in _ ⟨by omega, by omega⟩
set_option maxHeartbeats 400000 in
theorem rsum_any (s : ByteArray) (hm : s.size ≤ 281474976710656) (w : World) :
    Calls Tryz.prog 45 #[.string s] w fun e w' => e = .returned (.int .i64 (Oct.sumN s.data.toList)) ∧ w = w' := by
  go_enter Tryz.func45, Tryz.ntmps45
  go_wp2_with fail
  go_loop [3, 4] (fun n i => ∃ k : Nat, k ≤ s.size ∧ i = .int .i64 k ∧ n = .int .u64 (Oct.crcFrom 4294967295 (s.data.toList.take k))) (fun _ i => s.size - (intOf i).toNat)
  case atStart => exact ⟨0, Nat.zero_le _, rfl, rfl⟩
  case round =>
    obtain ⟨k, hk, rfl, rfl⟩ := hrel
    have hr := Oct.crcFrom_lt (s.data.toList.take k) (n := 4294967295) (by omega)
    by_cases hlt : k < s.size
    · have HX := Lib.hid (xor_byte64 (Oct.crcFrom 4294967295 (s.data.toList.take k)) s[k] hr)
      have hr2 : Oct.crcFrom 4294967295 (s.data.toList.take k) ^^^ s[k].toNat < 4294967296 := Nat.xor_lt_two_pow (n := 32) hr (by have := s[k].toNat_lt; omega)
      have HN := Lib.hid (crc_snoc s k hlt)
      go_wp2_with fail
      rw [HX.out]
      generalize hg : Oct.crcFrom 4294967295 (s.data.toList.take k) ^^^ s[k].toNat = r0 at hr2 ⊢
      have HG := Lib.hid hg
      clear hg
      go_loop [3, 5] (fun n i => ∃ j : Nat, j ≤ 8 ∧ i = .int .i64 j ∧ n = .int .u64 (Oct.bits8 j r0)) (fun _ i => 8 - (intOf i).toNat)
      case atStart => exact ⟨0, Nat.zero_le _, rfl, rfl⟩
      case round =>
        obtain ⟨j, hj, rfl, rfl⟩ := hrel
        have hb := Oct.bits8_lt j hr2
        by_cases hjt : j < 8
        · have HB2 := Lib.hid (Oct.bits8_succ j r0)
          go_wp2_with (go_at_call 86; refine (step_any _ hb _).mono ?_; rintro e w' ⟨rfl, rfl⟩)
          go_round
          case rel => exact ⟨j + 1, by omega, by go_num, by rw [HB2.out]⟩
          case measure => simp [intOf]; omega
        · obtain rfl : j = 8 := by omega
          go_wp2_with fail
          go_round
          case rel => exact ⟨k + 1, by omega, by go_num, by rw [HN.out, Oct.crcByte, HG.out]⟩
          case measure => simp [intOf]; omega
    · obtain rfl : k = s.size := by omega
      have HF := Lib.hid (crc_not64 _ hr)
      have HA := Lib.hid (show Oct.crcFrom 4294967295 (s.data.toList.take s.size) ^^^ 4294967295 = Oct.sumN s.data.toList by rw [List.take_of_length_le (by simp)]; rfl)
      go_wp2_with fail
      go_ret
      exact ⟨by rw [← HA.out, ← HF.out]; rfl, rfl⟩
end Go.Proofs.YtojaagnfjenhoaaGreat
/-
  DERIVED: THE SHELF's CONTRACTS AT THIS DUMP, IN PLAIN WORDS (tools/lay-plain.mjs out of 'TryzShelf.lean', which tools/lay-shelf.mjs wrote): THE SAME DECLARATIONS UNDER THE SAME NAMES: 'import', 'namespace', 'open', 'def', 'theorem' AND NOTHING ELSE: no command of the shelf's: FOR A HAND-IN. Each laying: the table of numbers ('.._ren') and one theorem, a field a fact of the dump's own or the kernel's comparison; each contract: ONE APPLICATION.
-/
namespace Go.Proofs
open Go.Shelf
def Tryz.lays105_ren : Go.Shelf.Ren := ⟨fun | 105 => 26 | 212 => 46 | 99 => 47 | 165 => 48 | 166 => 49 | 170 => 50 | 169 => 51 | 263 => 87 | 264 => 88 | 206 => 89 | 240 => 90 | 241 => 91 | 276 => 110 | 277 => 111 | n => n, fun | 9 => 9 | 3 => 3 | 4 => 4 | 20 => 20 | 0 => 0 | 46 => 79 | 109 => 80 | 5 => 5 | 72 => 85 | 76 => 89 | 51 => 130 | 146 => 131 | 53 => 125 | 148 => 133 | 70 => 83 | 37 => 74 | 75 => 88 | 127 => 135 | 164 => 150 | 80 => 60 | n => n, fun | n => n⟩
theorem Tryz.lays105 : Go.Proofs.Lays.n105 Tryz.prog Tryz.lays105_ren := {
  mixed := by kernel_rfl
  f99 := Tryz.func47.trans (congrArg some (by kernel_rfl))
  f105 := Tryz.func26.trans (congrArg some (by kernel_rfl))
  f165 := Tryz.func48.trans (congrArg some (by kernel_rfl))
  f166 := Tryz.func49.trans (congrArg some (by kernel_rfl))
  f169 := Tryz.func51.trans (congrArg some (by kernel_rfl))
  f170 := Tryz.func50.trans (congrArg some (by kernel_rfl))
  f206 := Tryz.func89.trans (congrArg some (by kernel_rfl))
  f212 := Tryz.func46.trans (congrArg some (by kernel_rfl))
  f240 := Tryz.func90.trans (congrArg some (by kernel_rfl))
  f241 := Tryz.func91.trans (congrArg some (by kernel_rfl))
  f263 := Tryz.func87.trans (congrArg some (by kernel_rfl))
  f264 := Tryz.func88.trans (congrArg some (by kernel_rfl))
  f276 := Tryz.func110.trans (congrArg some (by kernel_rfl))
  f277 := Tryz.func111.trans (congrArg some (by kernel_rfl))
  t0 := Tryz.underlying0
  a0 := Tryz.isAgg0
  z0 := Tryz.sizeOf0
  v0 := Tryz.zeroValue0
  t3 := Tryz.underlying3
  a3 := Tryz.isAgg3
  z3 := Tryz.sizeOf3
  v3 := Tryz.zeroValue3
  t4 := Tryz.underlying4
  a4 := Tryz.isAgg4
  z4 := Tryz.sizeOf4
  v4 := Tryz.zeroValue4
  t5 := Tryz.underlying5
  a5 := Tryz.isAgg5
  z5 := Tryz.sizeOf5
  v5 := Tryz.zeroValue5
  t9 := Tryz.underlying9
  a9 := Tryz.isAgg9
  z9 := Tryz.sizeOf9
  v9 := Tryz.zeroValue9
  t20 := Tryz.underlying20
  a20 := Tryz.isAgg20
  z20 := Tryz.sizeOf20
  v20 := Tryz.zeroValue20
  t37 := Tryz.underlying74
  a37 := Tryz.isAgg74
  z37 := Tryz.sizeOf74
  v37 := Tryz.zeroValue74
  t46 := Tryz.underlying79
  a46 := Tryz.isAgg79
  z46 := Tryz.sizeOf79
  v46 := Tryz.zeroValue79
  t51 := Tryz.underlying130
  a51 := Tryz.isAgg130
  z51 := Tryz.sizeOf130
  v51 := Tryz.zeroValue130
  t53 := Tryz.underlying125
  a53 := Tryz.isAgg125
  z53 := Tryz.sizeOf125
  v53 := Tryz.zeroValue125
  t70 := Tryz.underlying83
  a70 := Tryz.isAgg83
  z70 := Tryz.sizeOf83
  v70 := Tryz.zeroValue83
  t72 := Tryz.underlying85
  a72 := Tryz.isAgg85
  z72 := Tryz.sizeOf85
  v72 := Tryz.zeroValue85
  t75 := Tryz.underlying88
  a75 := Tryz.isAgg88
  z75 := Tryz.sizeOf88
  v75 := Tryz.zeroValue88
  t76 := Tryz.underlying89
  a76 := Tryz.isAgg89
  z76 := Tryz.sizeOf89
  v76 := Tryz.zeroValue89
  t109 := Tryz.underlying80
  a109 := Tryz.isAgg80
  z109 := Tryz.sizeOf80
  v109 := Tryz.zeroValue80
  t127 := Tryz.underlying135
  a127 := Tryz.isAgg135
  z127 := Tryz.sizeOf135
  v127 := Tryz.zeroValue135
  t146 := Tryz.underlying131
  a146 := Tryz.isAgg131
  z146 := Tryz.sizeOf131
  v146 := Tryz.zeroValue131
  t148 := Tryz.underlying133
  a148 := Tryz.isAgg133
  z148 := Tryz.sizeOf133
  v148 := Tryz.zeroValue133
  t164 := Tryz.underlying150
  a164 := Tryz.isAgg150
  z164 := Tryz.sizeOf150
  v164 := Tryz.zeroValue150 }
theorem Tryz.Builder_Extra_105 : Builder.Extra Tryz.prog Tryz.lays105_ren := {
  sizeBuilder := by kernel_rfl
  liesBuilder := by kernel_rfl
  t5 := Tryz.underlying5
  a5 := Tryz.isAgg5
  z5 := Tryz.sizeOf5
  v5 := Tryz.zeroValue5
  infoByte := by kernel_rfl
  cellsByte := by kernel_rfl
  sizeByte := by kernel_rfl
  neB5 := by decide }
open Go.RowKit Go.Lib in
/-- **strings.Repeat: count ≥ 0, the result within one allocation: count copies of s.** (LAID: no walk: one application.) -/
theorem Tryz.strings_Repeat (s : ByteArray) (c : Nat) (w : World) (hc : c ≤ 9223372036854775807) (hlen : s.size * c ≤ 140737488355328) :
    Calls Tryz.prog 26 #[.string s, .int .i64 c] w fun e w' => e = .returned (.string ⟨(Lib.repeatL s.data.toList c).toArray⟩) ∧ Below w.heap.size w w' := Any.strings_Repeat Tryz.lays105 Tryz.Builder_Extra_105 s c w hc hlen
def Tryz.laysNm216_ren : Go.Shelf.Ren := ⟨fun | 16 => 53 | n => n, fun | 24 => 24 | 9 => 9 | 4 => 4 | n => n, fun | n => n⟩
theorem Tryz.laysNm216 : Go.Proofs.Lays2.n16 Tryz.prog Tryz.laysNm216_ren := {
  mixed := by kernel_rfl
  f16 := Tryz.func53.trans (congrArg some (by kernel_rfl))
  t4 := Tryz.underlying4
  a4 := Tryz.isAgg4
  z4 := Tryz.sizeOf4
  v4 := Tryz.zeroValue4
  t9 := Tryz.underlying9
  a9 := Tryz.isAgg9
  z9 := Tryz.sizeOf9
  v9 := Tryz.zeroValue9
  t24 := Tryz.underlying24
  a24 := Tryz.isAgg24
  z24 := Tryz.sizeOf24
  v24 := Tryz.zeroValue24
  i9 := by kernel_rfl }
open Go.RowKit Go.Lib in
/-- slices.Clone at []string: "Clone returns a copy of the slice. The elements are copied using assignment, so this is a shallow clone. The result may have additional unused capacity. The result preserves the nilness of s.": OF A SLICE THAT IS NOT nil IT RETURNS A SLICE THAT IS NOT nil, OF THE SAME ELEMENTS, IN MEMORY OF THE CALL's OWN: in the how-to's words (6f): 'w'.ownsRow B e 1 v' n cells': v' begins at the head of a row among the blocks from B on (B: the heap's size at the call), not frozen, whose first cells are the elements · 'Below B w w'': below B all is as it was. The capacity is whatever the run-time gives. 'zs': what the cells behind the slice's address hold; 'zs.take n': its elements. (LAID: no walk: one application.) -/
theorem Tryz.slices_Clone_string (b off n c : Nat) (zs : List ByteArray) (w : World) (hz : n ≤ zs.length) (hbig : n * 16 ≤ 140737488355328) (hc : ∀ j, j < zs.length → w.cell? ⟨b, off + j, none⟩ = some (.string (zs.getD j ByteArray.empty))) :
    Calls Tryz.prog 53 #[.slice (some ⟨b, off, none⟩) n c] w fun e w' => ∃ v', e = .returned v' ∧ w'.ownsRow w.heap.size 9 1 v' n ((zs.take n).map (Value.string)) ∧ v' ≠ .slice none 0 0 ∧ Below w.heap.size w w' := Any.slices_Clone_string Tryz.laysNm216 b off n c zs w hz hbig hc
end Go.Proofs
