/- What the statements of the log keep in memory: two boxes (a disk, a log) and two rows (numbers, records). -/
import Derived.Test.YtojaagnfjenhoaaGreatGl10
import Derived.Test.YtojaagnfjenhoaaGreatGl09
import Derived.BigRegion
import Derived.Test.YtojaagnfjenhoaaGreatGl05
import Derived.Test.YtojaagnfjenhoaaGreatGl01
import Derived.Test.YtojaagnfjenhoaaGreatGl04
import Derived.Test.YtojaagnfjenhoaaGreatGl03
namespace Lg
open Rc
/-- The disk and the log of the statements. -/
structure PL (d : Dk) (g : Lo) (r1 r2 : List Rec) : Prop where
  inv : LInv 1 24 d g r1 r2
  up : d.down = false
  left : -1 ≤ d.left ∧ d.left ≤ 9223372036854775807
  len : d.sectors.length = 26
theorem PL.small {d : Dk} {g : Lo} {r1 r2 : List Rec} (h : PL d g r1 r2) : ∀ b ∈ d.sectors, b.size ≤ 128 := fun b hb => Nat.le_of_eq (h.inv.whole b hb)
/-- What Append and Force do to the disk and the log of the statements. -/
theorem PL.append {d : Dk} {g : Lo} {r1 r2 : List Rec} (h : PL d g r1 r2) (r : Rec) :
    (appendD g r = (g, 0, 1)) ∨ (appendD g r = (g, 0, 18)) ∨ ∃ g2, appendD g r = (g2, g.end_ + 1, 0) ∧ PL d g2 r1 (r2 ++ [{ r with lsn := g.end_ + 1 }]) := by
  rcases h.inv.append r with h1 | h1 | ⟨h1, h2⟩
  · exact .inl h1
  · exact .inr (.inl h1)
  · refine .inr (.inr ⟨(appendD g r).1, ?_, h2, h.up, h.left, h.len⟩)
    rw [← h1]
theorem newD_whole (n : Nat) : Whole (newD n).sectors := fun b hb => by
  have : b = zero128 := by
    have h := List.mem_replicate.1 hb
    exact h.2
  rw [this]; exact zero128_size
theorem PL.new : PL (newD 26) ⟨1, 24, 0, 0, ⟨#[]⟩⟩ [] [] :=
  ⟨LInv.new (newD_whole 26) (by show 1 + 24 ≤ (List.replicate 26 zero128).length; rw [List.length_replicate]; omega), rfl, ⟨Int.le_refl _, by show (-1 : Int) ≤ _; omega⟩, by show (List.replicate 26 zero128).length = 26; rw [List.length_replicate]⟩
end Lg
namespace Go.Proofs.YtojaagnfjenhoaaGreat
open Go.RowKit
def intC (n : Int) : List Value := [.int .i64 n]
abbrev diskA (d : Lg.Dk) (A : Option Addr) (c : Nat) : Array Value := #[.slice A d.sectors.length c, .int .i64 d.left, .bool d.down]
abbrev logA (l : Lg.Lo) : Array Value := #[.int .i64 l.from_, .int .i64 l.n, .int .i64 l.end_, .int .i64 l.safe, .string l.tail]
/-- The memory of a statement: block bd is the disk's box, block bl the log's; behind these lie a row of numbers and a row of records. -/
structure StR (bd bl : Nat) (w u : World) (va vi : Value) (d : Lg.Dk) (A : Option Addr) (c : Nat) (g : Lg.Lo) (la : List Int) (ps : List PRec) : Prop where
  disk : u.heap[bd]? = some (.cells (diskA d A c) 26 (0, 0))
  log : u.heap[bl]? = some (.cells (logA g) 31 (0, 0))
  lo : w.heap.size ≤ bd
  lt : bd < bl
  low : Below w.heap.size w u
  dk : DiskR u d A c
  dt : NewT 0 u 9 A
  ra : OwnL intC 1 3 (bl + 1) u va la
  ri : OwnL recC 18 42 (bl + 1) u vi ps
/-- A row of the call's own stays, where its block does. -/
theorem ownAway {u v : World} {n size B0 : Nat} {e : TypeId} {x : Value} {xs : List Value} (h : u.ownsRow B0 e size x n xs) (hk : ∀ k, x.ownBlock = some k → v.heap[k]? = u.heap[k]?) : v.ownsRow B0 e size x n xs := by
  refine ⟨h.1, ?_⟩
  rcases h.2 with hz | ⟨g', cap, cur, hv, hg, hh, r⟩
  · exact .inl hz
  · exact .inr ⟨g', cap, cur, hv, hg, (hk g' (by rw [hv]; rfl)).trans hh, r⟩
theorem range_blk {w u : World} {b : Nat} {cs : Array Value} {T : TypeId} {fr : Nat × Nat} (h : w.heap[b]? = some (.cells cs T fr)) (hb : Below w.heap.size w u) : u.rangeAt b 0 cs.toList := fun j v hj => by
  rw [Nat.zero_add, hb.cell (p := ⟨b, j, none⟩) (heapLt h), blkCell h]
  simpa using hj
section
variable {bd bl : Nat} {w u v : World} {va vi : Value} {d : Lg.Dk} {A : Option Addr} {c : Nat} {g : Lg.Lo} {la : List Int} {ps : List PRec}
theorem StR.step (h : StR bd bl w u va vi d A c g la ps) (hb : Below u.heap.size u v) : StR bd bl w v va vi d A c g la ps :=
  ⟨blkOld h.disk hb, blkOld h.log hb, h.lo, h.lt, joinB h.low hb, h.dk.below hb, h.dt.below hb, ownBelow h.ra hb, ownBelow h.ri hb⟩
theorem StR.drew (h : StR bd bl w u va vi d A c g la ps) : StR bd bl w u.drew va vi d A c g la ps := h.step (Below.refl _ _).drew
theorem StR.past (h : StR bd bl w u va vi d A c g la ps) : bl < u.heap.size := heapLt h.log
/-- The first state: the log's box is new. -/
theorem StR.new {u' : World} (hd : u.heap[bd]? = some (.cells (diskA d A c) 26 (0, 0))) (hw : w.heap.size ≤ bd) (hb : Below w.heap.size w u) (hk : DiskR u d A c) (ht : NewT 0 u 9 A) (hu : Below u.heap.size u u') : StR bd u'.heap.size w (u'.alloc (.cells (logA g) 31)) (.slice none 0 0) (.slice none 0 0) d A c g [] [] := by
  have h1 := heapLt hd
  have h2 := pastAlloc (o := .cells (logA g) 31) hu
  exact ⟨blkOld hd h2, heap_alloc_new _ _, hw, by have := hu.size; omega, joinB hb h2, hk.below h2, ht.below h2, ownNil _ _ _ _, ownNil _ _ _ _⟩
theorem below_setRow {M b : Nat} {w u : World} (h : Below M w u) (hb : M ≤ b) (cs : Array Value) : Below M w (u.setRow b cs) :=
  ⟨h.os, h.tape, h.output, by show _ ≤ (u.heap.modify _ _).size; have := h.size; simpa using this, fun k hk => (heap_setRow_other _ _ _ _ (by omega)).trans (h.block k hk)⟩
/-- A block of another kind is written. -/
theorem StR.other {b : Nat} {cur : Array Value} {T : TypeId} {fr : Nat × Nat} (h : StR bd bl w u va vi d A c g la ps) (hb : u.heap[b]? = some (.cells cur T fr)) (h1 : 3 ≠ T) (h2 : T ≠ 9) (h3 : vi.ownBlock ≠ some b) (h4 : bl < b) (cs : Array Value) : StR bd bl w (u.setRow b cs) va vi d A c g la ps := by
  have h5 := h.lt
  have h6 := h.lo
  exact ⟨(heap_setRow_other _ _ _ _ (by omega)).trans h.disk, (heap_setRow_other _ _ _ _ (by omega)).trans h.log, h.lo, h.lt, below_setRow h.low (by omega) _, ⟨h.dt.readsRow h.dk.secs hb h2 _, h.dk.small⟩, h.dt.row _ _, ownOther h.ra hb h1 _, ownAway h.ri (fun k hk => heap_setRow_other _ _ _ _ (fun e => h3 (by rw [hk, e])))⟩
end
end Go.Proofs.YtojaagnfjenhoaaGreat
/- Arguments that are rows of acts: opened. -/
namespace Go.Proofs.YtojaagnfjenhoaaGreat
open Go.ChangeShapes Go.WideShapes Go.ChangeAt Go.RowKit
/-- An act: its kind, its number, its record in memory. -/
structure PAct where
  kind : Int
  n : Int
  p : PRec
def actC (a : PAct) : List Value := .int .i64 a.kind :: .int .i64 a.n :: recC a.p
theorem actC_len (a : PAct) : (actC a).length = 20 := rfl
instance : Inhabited PAct := ⟨⟨0, 0, ⟨⟨0, 0, 0, 0, 0, 0, 0, ⟨0, 0, ⟨#[]⟩, ⟨#[]⟩⟩, 0, 0, ⟨⟨#[]⟩, 0, 0⟩, [], []⟩, none, 0, none, 0⟩⟩⟩
theorem cellsAc : Tryz.prog.cellsOf 44 = 20 := by kernel_rfl
theorem bytesAc : 1 ≤ Tryz.prog.bytesOf 44 := by decide +kernel
theorem acFields : ∃ f0 f1 f2 : Field, Tryz.prog.underlying 44 = some (.struct #[f0, f1, f2]) ∧ (f0.offset = 0 ∧ f1.offset = 1 ∧ f2.offset = 2) ∧ f0.type = 3 ∧ f1.type = 3 ∧ f2.type = 42 := ⟨_, _, _, Tryz.underlying44, ⟨rfl, rfl, rfl⟩, rfl, rfl, rfl⟩
section
variable {H : Type} {enc : TypeId × Value → H} {w : World} {base : Nat} {spare : Nat → Bool} {held : Bool}
set_option maxRecDepth 100000 in
theorem trod_act (fuel : Nat) (cs : List Value) (x : DataW H × List MemPlace) (h : DataW.trod enc Tryz.prog w base spare held fuel 44 cs = some x) (hL : Light 44 x.1) : ∃ a : PAct, cs = actC a ∧ PRecR w a.p ∧ a.n ≤ 9223372036854775807 := by
  obtain ⟨f0, f1, f2, hu, ⟨o0, o1, o2⟩, t0, t1, t2⟩ := acFields
  obtain ⟨n, hl, hf⟩ := trod_field hu h
  rw [cellsAc] at hl
  obtain ⟨c0, cs1, rfl⟩ : ∃ c l, cs = c :: l := by cases cs with | nil => simp at hl | cons c l => exact ⟨c, l, rfl⟩
  obtain ⟨c1, cs2, rfl⟩ : ∃ c l, cs1 = c :: l := by cases cs1 with | nil => simp at hl | cons c l => exact ⟨c, l, rfl⟩
  have hl2 : cs2.length = 18 := by simpa using hl
  obtain ⟨y0, h0, gh0⟩ := hf 0 f0 rfl
  obtain ⟨y1, h1, gh1⟩ := hf 1 f1 rfl
  obtain ⟨y2, h2, gh2⟩ := hf 2 f2 rfl
  rw [o0, t0, cellsI] at h0
  rw [o1, t1, cellsI] at h1
  rw [o2, t2, cellsRe] at h2
  obtain ⟨i0, e0, _, _⟩ := DataW.trod_int Tryz.underlying3 h0
  obtain ⟨i1, e1, _, w1⟩ := DataW.trod_int Tryz.underlying3 h1
  have hcs : ((c0 :: c1 :: cs2).drop 2).take 18 = cs2 := by
    show cs2.take 18 = cs2
    exact List.take_of_length_le (by omega)
  rw [hcs] at h2
  obtain ⟨p, e2, hR⟩ := trod_rec _ _ _ h2 (by rw [← t2]; exact gh2 hL)
  simp at e0 e1
  exact ⟨⟨i0, i1, p⟩, by rw [e0, e1, e2]; rfl, hR, (bnd w1).2⟩
set_option maxRecDepth 100000 in
/-- A row of acts, opened. -/
theorem open_acts {r : Reach} {b0 : Nat} {v : Value} {d : DataW H} {ps : List MemPlace} (hval : Value.okWide Tryz.prog w r b0 22 v) (hd : DataW.Trod enc Tryz.prog w base spare held 22 v d ps) (hL : Light 22 d) :
    ∃ (A : Option Addr) (c : Nat) (l : List PAct), v = .slice A l.length c ∧ Reads w A c l.length (l.flatMap actC) ∧ (∀ a ∈ l, PRecR w a.p ∧ a.n ≤ 9223372036854775807) ∧ l.length ≤ 140737488355328 := by
  obtain ⟨a, len, cap, rfl⟩ := okWide_slice Tryz.underlying22 hval
  obtain ⟨fuel, hf⟩ := hd
  obtain ⟨A, c, l, h1, h2, h3, h4⟩ := trod_row (en := actC) (k := 20) actC_len (by omega) Tryz.underlying22 cellsAc bytesAc (Q := fun a => PRecR w a.p ∧ a.n ≤ 9223372036854775807) trod_act hL hf
  exact ⟨A, c, l, by simpa [Value.cells] using h1, h2, h3, h4⟩
end
end Go.Proofs.YtojaagnfjenhoaaGreat
/- Plain facts for the reference's Force: sectors of a tail, by their numbers. -/
namespace Lg
open Rc
/-- The log's tail begins where the sector of its first byte that is not safe begins. -/
structure Al (l : Lo) : Prop where
  s0 : 0 ≤ l.safe
  se : l.safe ≤ l.end_
  tl : l.end_ - (l.tail.size : Int) = l.safe - l.safe % 128
theorem LInv.al {F N : Nat} {d : Dk} {g : Lo} {r1 r2 : List Rec} (h : LInv F N d g r1 r2) : Al g := by
  have hs := h.safe
  have he := h.end_
  have hl := bytes_le r1 r2
  have ht : g.tail.size = (bytes (r1 ++ r2)).length - ((bytes r1).length - (bytes r1).length % 128) := by
    rw [h.tail]
    show ((bytes (r1 ++ r2)).drop _).toArray.size = _
    rw [List.size_toArray, List.length_drop]
  exact ⟨by omega, by omega, by rw [ht, he, hs]; omega⟩
theorem Al.first {l : Lo} (h : Al l) : firstS l = l.safe / 128 := by
  have h1 := h.s0
  have h2 := h.tl
  unfold firstS
  rw [h2]
  omega
theorem cutW_get (n : Nat) : ∀ l : List UInt8, l.length ≤ n → ∀ k, k * 128 < l.length → (cutW l)[k]? = some (pad128 ((l.drop (k * 128)).take 128)) := by
  induction n with
  | zero => intro l hl k hk; omega
  | succ n ih =>
    intro l hl k hk
    have h : l ≠ [] := fun e => by rw [e] at hk; simp at hk
    rw [cutW_cons h]
    cases k with
    | zero => simp
    | succ k =>
      rw [List.getElem?_cons_succ, ih _ (by rw [List.length_drop]; omega) k (by rw [List.length_drop]; omega), List.drop_drop]
      congr 4
      omega
theorem cutB_get (s : ByteArray) (k : Nat) (hk : k * 128 < s.size) : (cutB s)[k]? = some (pad128 ((s.data.toList.drop (k * 128)).take 128)) := cutW_get _ _ (Nat.le_refl _) k (by simpa using hk)
theorem pad_none : pad128 [] = zero128 := by unfold pad128 zero128; simp
end Lg
/- Plain facts of LogPlays: what holds of a disk and its log behind any acts; how the reference reads. -/
namespace Pl
open Lg Rc
/-- A disk of 26 sectors and a log of 24, as any acts leave them. -/
structure Ok (d : Dk) (l : Lo) : Prop where
  whole : Whole d.sectors
  len : d.sectors.length = 26
  left : -1 ≤ d.left ∧ d.left ≤ 9223372036854775807
  f : l.from_ = 1
  n : l.n = 24
  al : Al l
  e1 : l.end_ ≤ 3072
theorem Ok.t0 {d : Dk} {l : Lo} (h : Ok d l) : (l.tail.size : Int) ≤ l.end_ := by
  have h1 := h.al.s0
  have h2 := h.al.tl
  omega
theorem Ok.t1 {d : Dk} {l : Lo} (h : Ok d l) : l.end_ % 128 ≤ (l.tail.size : Int) := by
  have h1 := h.al.s0
  have h2 := h.al.tl
  have h3 := h.al.se
  omega
theorem ok_new : Ok (newD 26) ⟨1, 24, 0, 0, ⟨#[]⟩⟩ := by
  refine ⟨fun b hb => ?_, by unfold newD; simp, ⟨Int.le_refl _, by show (-1 : Int) ≤ _; decide⟩, rfl, rfl, ⟨Int.le_refl _, Int.le_refl _, by decide⟩, by show (0 : Int) ≤ 3072; decide⟩
  unfold newD at hb
  rw [List.eq_of_mem_replicate hb]
  exact zero128_size
theorem ok_append {d : Dk} {l : Lo} (h : Ok d l) (r : Rec) : Ok d (appendD l r).1 := by
  have h1 := h.al.s0
  have h2 := h.al.se
  have h3 := h.al.tl
  have hn := h.n
  by_cases hR : Right { r with lsn := l.end_ + 1 }
  · by_cases hF : l.n * 128 - ((putR { r with lsn := l.end_ + 1 }).length : Int) < l.end_
    · unfold appendD
      simp only
      rw [if_neg (fun hn => hn hR), if_pos hF]
      exact h
    · have e : (appendD l r).1 = { l with end_ := l.end_ + ((putR { r with lsn := l.end_ + 1 }).length : Int), tail := l.tail ++ ⟨(putR { r with lsn := l.end_ + 1 }).toArray⟩ } := by
        unfold appendD
        simp only
        rw [if_neg (fun hn => hn hR), if_neg hF]
      rw [e]
      have hz : (⟨(putR { r with lsn := l.end_ + 1 }).toArray⟩ : ByteArray).size = (putR { r with lsn := l.end_ + 1 }).length := by show (putR { r with lsn := l.end_ + 1 }).toArray.size = _; simp
      refine ⟨h.whole, h.len, h.left, h.f, h.n, ⟨h1, ?_, ?_⟩, ?_⟩
      · show l.safe ≤ l.end_ + ((putR { r with lsn := l.end_ + 1 }).length : Int); omega
      · show l.end_ + ((putR { r with lsn := l.end_ + 1 }).length : Int) - ((l.tail ++ ⟨(putR { r with lsn := l.end_ + 1 }).toArray⟩).size : Int) = l.safe - l.safe % 128
        rw [ByteArray.size_append, hz]
        omega
      · show l.end_ + ((putR { r with lsn := l.end_ + 1 }).length : Int) ≤ 3072
        rw [hn] at hF
        omega
  · unfold appendD
    simp only
    rw [if_pos hR]
    exact h
theorem write_ok {d : Dk} (a : Int) (b : ByteArray) (h : Whole d.sectors) (hl : -1 ≤ d.left ∧ d.left ≤ 9223372036854775807) : Whole (writeD d a b).1.sectors ∧ (writeD d a b).1.sectors.length = d.sectors.length ∧ -1 ≤ (writeD d a b).1.left ∧ (writeD d a b).1.left ≤ 9223372036854775807 := by
  unfold writeD
  split
  · exact ⟨h, rfl, hl⟩
  split
  · exact ⟨h, rfl, hl⟩
  split
  · exact ⟨h, rfl, hl⟩
  · rename_i hh hz
    have hb := (Classical.not_not.1 hh).2
    refine ⟨h.set _ hb, List.length_set, ?_⟩
    show -1 ≤ (if 0 < d.left then d.left - 1 else d.left) ∧ (if 0 < d.left then d.left - 1 else d.left) ≤ _
    split <;> omega
theorem putAll_ok (base : Int) (all : List ByteArray) : ∀ (k : Nat) (d : Dk), Whole d.sectors → (-1 ≤ d.left ∧ d.left ≤ 9223372036854775807) → Whole (putAll base all k d).1.sectors ∧ (putAll base all k d).1.sectors.length = d.sectors.length ∧ -1 ≤ (putAll base all k d).1.left ∧ (putAll base all k d).1.left ≤ 9223372036854775807 := by
  intro k
  induction k with
  | zero => intro d h1 h2; exact ⟨h1, rfl, h2⟩
  | succ k ih =>
    intro d h1 h2
    obtain ⟨a1, a2, a3⟩ := write_ok (base + (k : Int)) (all[k]?.getD ⟨#[]⟩) h1 h2
    unfold putAll
    split
    · obtain ⟨b1, b2, b3⟩ := ih _ a1 a3
      exact ⟨b1, b2.trans a2, b3⟩
    · exact ⟨a1, a2, a3⟩
theorem ok_force {d : Dk} {l : Lo} (h : Ok d l) : Ok (forceD d l).1 (forceD d l).2.1 := by
  unfold forceD
  split
  · exact h
  · obtain ⟨a1, a2, a3⟩ := putAll_ok (l.from_ + firstS l) (allS l) (allS l).length d h.whole h.left
    simp only
    split
    · have h1 := h.al.s0
      have h2 := h.al.se
      have t0 := h.t0
      have t1 := h.t1
      have hsz : ((forcedL l).tail.size : Int) = l.end_ % 128 := by
        unfold forcedL
        show ((l.tail.extract (l.tail.size - (l.end_ % 128).toNat) l.tail.size).size : Int) = _
        rw [ByteArray.size_extract]
        omega
      refine ⟨a1, a2.trans h.len, a3, h.f, h.n, ⟨?_, ?_, ?_⟩, h.e1⟩
      · show 0 ≤ l.end_; omega
      · show l.end_ ≤ l.end_; omega
      · show l.end_ - ((forcedL l).tail.size : Int) = l.end_ - l.end_ % 128; rw [hsz]
    · exact ⟨a1, a2.trans h.len, a3, h.f, h.n, h.al, h.e1⟩
theorem ok_arm {d : Dk} {l : Lo} (h : Ok d l) (n : Int) (hn : n ≤ 9223372036854775807) : Ok (armD d n) l := by
  refine ⟨h.whole, h.len, ?_, h.f, h.n, h.al, h.e1⟩
  show -1 ≤ (if n < 0 then -1 else n) ∧ (if n < 0 then -1 else n) ≤ _
  split <;> omega
theorem ok_open {d : Dk} {l : Lo} (h : Ok d l) : ∃ o rs, openD (startD d) 1 24 = (o, rs, 0) ∧ Ok (startD d) o := by
  have hs := secs_ok (d := startD d) rfl 24 1 (by show 1 + 24 ≤ d.sectors.length; rw [h.len]; decide)
  have hlen : (flat (((startD d).sectors.drop 1).take 24)).length = 24 * 128 := by
    show (flat ((d.sectors.drop 1).take 24)).length = 24 * 128
    rw [flat_len ((h.whole.drop 1).take 24), List.length_take, List.length_drop]
    rw [h.len]
    rfl
  generalize flat (((startD d).sectors.drop 1).take 24) = s at hs hlen
  have ho : openD (startD d) 1 24 = (⟨1, 24, ((openL s (s.length + 1) 0).2 : Int), ((openL s (s.length + 1) 0).2 : Int), ⟨((s.take (openL s (s.length + 1) 0).2).drop ((openL s (s.length + 1) 0).2 - (openL s (s.length + 1) 0).2 % 128)).toArray⟩⟩, (openL s (s.length + 1) 0).1, 0) := by
    unfold openD
    rw [show ((24 : Int)).toNat = 24 from rfl, show (1 : Int) = ((1 : Nat) : Int) from rfl, hs]
  obtain ⟨_, _, hb, _⟩ := openL_is s (s.length + 1) 0 (Nat.zero_le _)
  generalize (openL s (s.length + 1) 0).2 = b at ho hb
  refine ⟨_, _, ho, h.whole, h.len, ⟨Int.le_refl _, by show (-1 : Int) ≤ _; decide⟩, rfl, rfl, ⟨?_, Int.le_refl _, ?_⟩, ?_⟩
  · show (0 : Int) ≤ (b : Int); omega
  · show (b : Int) - ((((s.take b).drop (b - b % 128)).toArray.size : Nat) : Int) = (b : Int) - (b : Int) % 128
    rw [List.size_toArray, List.length_drop, List.length_take]
    omega
  · show (b : Int) ≤ 3072; omega
/-- How the reference reads: the log's own Tail, or sectors ahead of it. -/
theorem read_near {d : Dk} {l : Lo} {k : Int} (h : Al l) (h1 : 1 ≤ k) (h2 : k ≤ l.end_) (hb : ¬ (k - 1) / 128 < l.safe / 128) :
    readL d l k = (match getO l.tail.data.toList (k - 1 - l.safe / 128 * 128).toNat with
      | none => .error 21
      | some (r, _) => if r.lsn = k then .ok r else .error 21) := by
  have hf : (l.end_ - (l.tail.size : Int)) / 128 = l.safe / 128 := h.first
  unfold readL
  rw [if_neg (by omega)]
  simp only [hf]
  rw [show min ((k - 1) / 128) (l.safe / 128) = l.safe / 128 by omega, show (l.safe / 128 - l.safe / 128).toNat = 0 by omega]
  rfl
theorem read_far {d : Dk} {l : Lo} {k : Int} (h : Al l) (h1 : 1 ≤ k) (h2 : k ≤ l.end_) (hb : (k - 1) / 128 < l.safe / 128) :
    readL d l k = (match secsD d (l.from_ + (k - 1) / 128) (l.safe / 128 - (k - 1) / 128).toNat with
      | .error e => .error e
      | .ok s => match getO (s ++ l.tail.data.toList) (k - 1 - (k - 1) / 128 * 128).toNat with
        | none => .error 21
        | some (r, _) => if r.lsn = k then .ok r else .error 21) := by
  have hf : (l.end_ - (l.tail.size : Int)) / 128 = l.safe / 128 := h.first
  unfold readL
  rw [if_neg (by omega)]
  simp only [hf]
  rw [show min ((k - 1) / 128) (l.safe / 128) = (k - 1) / 128 by omega]
  rfl
end Pl
/- What the statement LogPlays keeps in memory: two disks, two logs, and the boxes of a round; the reference of disks: Same. -/
namespace Pl
open Lg Rc
theorem open_short (s : List UInt8) : ∀ (f a : Nat), (openL s f a).1.length ≤ f := by
  intro f
  induction f with
  | zero => intro a; unfold openL; exact Nat.le_refl _
  | succ f ih =>
    intro a
    cases h : getO s a with
    | none => rw [openL_none h]; exact Nat.zero_le _
    | some rb =>
      obtain ⟨r, b⟩ := rb
      by_cases hn : r.lsn = (a : Int) + 1
      · rw [openL_go h hn, List.length_cons]; have := ih b; omega
      · rw [openL_stop h hn]; exact Nat.zero_le _
theorem ok_open2 {d : Dk} {l : Lo} (h : Ok d l) : ∃ o rs, openD (startD d) 1 24 = (o, rs, 0) ∧ Ok (startD d) o ∧ rs.length ≤ 100000 := by
  obtain ⟨o, rs, h1, h2⟩ := ok_open h
  refine ⟨o, rs, h1, h2, ?_⟩
  have hs := secs_ok (d := startD d) rfl 24 1 (by show 1 + 24 ≤ d.sectors.length; rw [h.len]; decide)
  have hlen : (flat (((startD d).sectors.drop 1).take 24)).length = 24 * 128 := by
    show (flat ((d.sectors.drop 1).take 24)).length = 24 * 128
    rw [flat_len ((h.whole.drop 1).take 24), List.length_take, List.length_drop]
    rw [h.len]
    rfl
  generalize flat (((startD d).sectors.drop 1).take 24) = s at hs hlen
  have e : (openD (startD d) 1 24).2.1 = (openL s (s.length + 1) 0).1 := by
    unfold openD
    rw [show ((24 : Int)).toNat = 24 from rfl, show (1 : Int) = ((1 : Nat) : Int) from rfl, hs]
  rw [h1] at e
  have e2 : rs = (openL s (s.length + 1) 0).1 := e
  rw [e2]
  have := open_short s (s.length + 1) 0
  omega
end Pl
namespace Go.Proofs.YtojaagnfjenhoaaGreat
open Go.RowKit
/-- A part of a block is read. -/
theorem listPart {P : Program} {ops : Array Oper} {rest : List Oper} {op : Oper} {a : Act} {w : World} {Q : Exit → Act → World → Prop} (hw : Region.wanted op (yielded ops a.tmps) = true) (ty : TypeId) (x : Operand) (ho : op.op = .load ty x)
    (b o : Nat) (hx : a.eval x = .pointer (some ⟨b, o, none⟩)) (part cells : Array Value) (t : TypeId) (hg : w.heap[b]? = some (.cells cells t (0, 0))) (hp : (cells.toList.drop o).take part.size = part.toList) (d : TypeDesc)
    (hu : P.underlying ty = some d) (hd : d.isRow = true) (hi : (P.info? ty).map (·.size) = some part.size)
    (h : wpList P ops Q rest (a.put op.dst (.agg part)) w) : wpList P ops Q (op :: rest) a w :=
  listWants hw fun K hK => by
    refine wp_load_mid ty x ho b o hx part.toList d (fun j v hj => ?_) hu hd (by simpa using hi) ?_
    · rw [blkCell hg]
      have h1 : j < part.size := by have := (List.getElem?_eq_some_iff.1 hj).1; simpa using this
      rw [← hp, List.getElem?_take, if_pos h1, List.getElem?_drop, Array.getElem?_toList] at hj
      exact hj
    · simpa using hK _ _ h
set_option maxRecDepth 100000 in
set_option maxHeartbeats 4000000 in
theorem rdsame_any (d : Lg.Dk) (A A' : Option Addr) (c c' : Nat) (w : World) (hd : DiskR w d A c) (hd' : DiskR w d A' c') :
    Calls Tryz.prog 20 #[diskV d A c, diskV d A' c'] w fun e w' => e = .returned (.bool true) ∧ Below w.heap.size w w' := by
  have HR1 := Lib.hid hd.secs
  have HR2 := Lib.hid hd'.secs
  have hsl := hd.small
  clear hd hd'
  obtain ⟨L, lf, dn⟩ := d
  simp only at hsl HR1 HR2
  dsimp only [diskV]
  go_enter Tryz.func20, Tryz.ntmps20
  go_upto_region 1 with fail
  have H0 := Lib.hid (show BxL w.heap.size w [(#[.slice A L.length c, .int .i64 lf, .bool dn], 26), (#[.slice A' L.length c', .int .i64 lf, .bool dn], 26)] ((w.alloc (.cells #[.slice A L.length c, .int .i64 lf, .bool dn] 26)).alloc (.cells #[.slice A' L.length c', .int .i64 lf, .bool dn] 26)) from (((BxL.nil (Below.refl w.heap.size w)).new (by simp) #[.slice A L.length c, .int .i64 lf, .bool dn] 26).new (by simp) #[.slice A' L.length c', .int .i64 lf, .bool dn] 26))
  obtain ⟨W0, hW0⟩ : ∃ W, W = ((w.alloc (.cells #[.slice A L.length c, .int .i64 lf, .bool dn] 26)).alloc (.cells #[.slice A' L.length c', .int .i64 lf, .bool dn] 26)) := ⟨_, rfl⟩
  rw [← hW0] at H0 ⊢
  clear hW0
  have hc0 := blkCell H0.out.get0
  have hc1 := blkCell H0.out.get1
  go_upto_region 3 with fail
  clear hc0 hc1
  go_wp2_with fail
  go_loopw [5] (fun v wr => ∃ k : Nat, v = .int .i64 (k : Int) ∧ k ≤ L.length ∧ BxL w.heap.size w [(#[.slice A L.length c, .int .i64 lf, .bool dn], 26), (#[.slice A' L.length c', .int .i64 lf, .bool dn], 26)] wr) (fun v _ => L.length - (intOf v).toNat)
  case atStart => exact ⟨0, rfl, Nat.zero_le _, H0.out⟩
  case round =>
    obtain ⟨k, rfl, hk, hbx⟩ := hrel
    have HX := Lib.hid hbx
    have hc0 := blkCell hbx.get0
    have hc1 := blkCell hbx.get1
    clear hbx H0
    by_cases hlt : k < L.length
    · have hk0 : (0 : Int) ≤ (k : Int) := by omega
      have hk1 : (k : Int) < (L.length : Int) := by omega
      have hwk : IntKind.i64.wrap ((k : Int) + 1) = (k : Int) + 1 := IntWalk.i64_in _ (by omega)
      obtain ⟨b1, o1, rfl, hca, hbl1, hcell1⟩ := read_at strC_len (HR1.out.below HX.out.below) hlt
      obtain ⟨b2, o2, rfl, hcb, hbl2, hcell2⟩ := read_at strC_len (HR2.out.below HX.out.below) hlt
      have q1 := hcell1 0 _ rfl
      have q2 := hcell2 0 _ rfl
      simp only [Nat.mul_one, Nat.add_zero] at q1 q2
      generalize L[k] = x at q1 q2
      clear hcell1 hcell2 hca hcb
      go_upto_region 6 with fail
      go_quiet (fail)
      go_wp2_with fail
      go_roundw
      case rel => exact ⟨k + 1, by go_num, by omega, HX.out.step (drewB _ _)⟩
      case measure => simp [intOf]; omega
    · have hk1 : ¬ (k : Int) < (L.length : Int) := by omega
      go_wp2_with fail
      go_ret
      exact ⟨rfl, HX.out.below⟩
/-- Logs with equal fields are equal. -/
theorem log_same (g : Lg.Lo) (w : World) : (Op.equalIn 10000 31 (.agg (logA g)) (.agg (logA g))).run Tryz.prog w = .ok true w := by
  have hS : Tryz.prog.underlying 31 = some (.struct (Tryz.prog.fieldsOf 31)) := by kernel_rfl
  have hp : Tryz.prog.stoodInHeld 31 = false := by kernel_rfl
  rw [show (10000 : Nat) = 9999 + 1 from rfl, run_equalIn_agg w 9999 31 _ _ hS hp]
  simp only [Program.fieldsOf, Tryz.underlying31]
  go_simp
section
variable {bd bx bg bh ba : Nat} {w u v : World} {d x : Lg.Dk} {A A' : Option Addr} {c c' : Nat} {g h : Lg.Lo} {ac rc sc : Array Value}
/-- Two disks, two logs: the code's (bd, bg) and the reference's (bx, bh). -/
structure PlS (bd bx bg bh : Nat) (w u : World) (d x : Lg.Dk) (A : Option Addr) (c : Nat) (A' : Option Addr) (c' : Nat) (g h : Lg.Lo) : Prop where
  disk : u.heap[bd]? = some (.cells (diskA d A c) 26 (0, 0))
  xdisk : u.heap[bx]? = some (.cells (diskA x A' c') 26 (0, 0))
  log : u.heap[bg]? = some (.cells (logA g) 31 (0, 0))
  xlog : u.heap[bh]? = some (.cells (logA h) 31 (0, 0))
  lo : w.heap.size ≤ bd
  lt : bd < bx ∧ bx < bg ∧ bg < bh
  low : Below w.heap.size w u
  dk : DiskR u d A c
  dt : NewT 0 u 9 A
  xk : DiskR u x A' c'
  xt : NewT 0 u 9 A'
theorem PlS.step (s : PlS bd bx bg bh w u d x A c A' c' g h) (hb : Below u.heap.size u v) : PlS bd bx bg bh w v d x A c A' c' g h :=
  ⟨blkOld s.disk hb, blkOld s.xdisk hb, blkOld s.log hb, blkOld s.xlog hb, s.lo, s.lt, joinB s.low hb, s.dk.below hb, s.dt.below hb, s.xk.below hb, s.xt.below hb⟩
theorem PlS.past (s : PlS bd bx bg bh w u d x A c A' c' g h) : bh < u.heap.size := heapLt s.xlog
/-- A younger block of another kind is written. -/
theorem PlS.other {b : Nat} {cur : Array Value} {T : TypeId} {fr : Nat × Nat} (s : PlS bd bx bg bh w u d x A c A' c' g h) (hb : u.heap[b]? = some (.cells cur T fr)) (h1 : T ≠ 9) (h2 : bh < b) (cs : Array Value) : PlS bd bx bg bh w (u.setRow b cs) d x A c A' c' g h := by
  have h3 := s.lt
  have h4 := s.lo
  exact ⟨(heap_setRow_other _ _ _ _ (by omega)).trans s.disk, (heap_setRow_other _ _ _ _ (by omega)).trans s.xdisk, (heap_setRow_other _ _ _ _ (by omega)).trans s.log, (heap_setRow_other _ _ _ _ (by omega)).trans s.xlog, h4, h3, below_setRow s.low (by omega) _,
    ⟨s.dt.readsRow s.dk.secs hb h1 _, s.dk.small⟩, s.dt.row _ _, ⟨s.xt.readsRow s.xk.secs hb h1 _, s.xk.small⟩, s.xt.row _ _⟩
theorem PlS.setG (s : PlS bd bx bg bh w u d x A c A' c' g h) (g' : Lg.Lo) : PlS bd bx bg bh w (u.setRow bg (logA g')) d x A c A' c' g' h := by
  have h3 := s.lt
  have h4 := s.lo
  exact ⟨(heap_setRow_other _ _ _ _ (by omega)).trans s.disk, (heap_setRow_other _ _ _ _ (by omega)).trans s.xdisk, setRow_heap _ _ _ _ _ _ s.log, (heap_setRow_other _ _ _ _ (by omega)).trans s.xlog, h4, h3, below_setRow s.low (by omega) _,
    ⟨s.dt.readsRow s.dk.secs s.log (by decide) _, s.dk.small⟩, s.dt.row _ _, ⟨s.xt.readsRow s.xk.secs s.log (by decide) _, s.xk.small⟩, s.xt.row _ _⟩
theorem PlS.setH (s : PlS bd bx bg bh w u d x A c A' c' g h) (h' : Lg.Lo) : PlS bd bx bg bh w (u.setRow bh (logA h')) d x A c A' c' g h' := by
  have h3 := s.lt
  have h4 := s.lo
  exact ⟨(heap_setRow_other _ _ _ _ (by omega)).trans s.disk, (heap_setRow_other _ _ _ _ (by omega)).trans s.xdisk, (heap_setRow_other _ _ _ _ (by omega)).trans s.log, setRow_heap _ _ _ _ _ _ s.xlog, h4, h3, below_setRow s.low (by omega) _,
    ⟨s.dt.readsRow s.dk.secs s.xlog (by decide) _, s.dk.small⟩, s.dt.row _ _, ⟨s.xt.readsRow s.xk.secs s.xlog (by decide) _, s.xk.small⟩, s.xt.row _ _⟩
theorem PlS.setD {d' : Lg.Dk} {B : Option Addr} {k : Nat} (s : PlS bd bx bg bh w u d x A c A' c' g h) (hd : DiskR u d' B k) (ht : NewT 0 u 9 B) : PlS bd bx bg bh w (u.setRow bd (diskA d' B k)) d' x B k A' c' g h := by
  have h3 := s.lt
  have h4 := s.lo
  exact ⟨setRow_heap _ _ _ _ _ _ s.disk, (heap_setRow_other _ _ _ _ (by omega)).trans s.xdisk, (heap_setRow_other _ _ _ _ (by omega)).trans s.log, (heap_setRow_other _ _ _ _ (by omega)).trans s.xlog, h4, h3, below_setRow s.low (by omega) _,
    ⟨ht.readsRow hd.secs s.disk (by decide) _, hd.small⟩, ht.row _ _, ⟨s.xt.readsRow s.xk.secs s.disk (by decide) _, s.xk.small⟩, s.xt.row _ _⟩
theorem PlS.setX {d' : Lg.Dk} {B : Option Addr} {k : Nat} (s : PlS bd bx bg bh w u d x A c A' c' g h) (hd : DiskR u d' B k) (ht : NewT 0 u 9 B) : PlS bd bx bg bh w (u.setRow bx (diskA d' B k)) d d' A c B k g h := by
  have h3 := s.lt
  have h4 := s.lo
  exact ⟨(heap_setRow_other _ _ _ _ (by omega)).trans s.disk, setRow_heap _ _ _ _ _ _ s.xdisk, (heap_setRow_other _ _ _ _ (by omega)).trans s.log, (heap_setRow_other _ _ _ _ (by omega)).trans s.xlog, h4, h3, below_setRow s.low (by omega) _,
    ⟨s.dt.readsRow s.dk.secs s.xdisk (by decide) _, s.dk.small⟩, s.dt.row _ _, ⟨ht.readsRow hd.secs s.xdisk (by decide) _, hd.small⟩, ht.row _ _⟩
theorem PlS.new {z : Array Value} (h1 : u.heap[bd]? = some (.cells (diskA d A c) 26 (0, 0))) (h2 : u.heap[bx]? = some (.cells (diskA d A c) 26 (0, 0))) (hl : w.heap.size ≤ bd) (hl2 : bd < bx) (low : Below w.heap.size w u) (dk : DiskR u d A c) (dt : NewT 0 u 9 A) (hb : Below u.heap.size u v) :
    PlS bd bx v.heap.size (v.heap.size + 1) w ((((v.alloc (.cells z 31)).alloc (.cells z 31)).setRow v.heap.size (logA g)).setRow (v.heap.size + 1) (logA g)) d d A c A c g g := by
  have hx := heapLt h2
  have hs := hb.size
  have B1 : BxL v.heap.size v [(z, 31), (z, 31)] ((v.alloc (.cells z 31)).alloc (.cells z 31)) := ((BxL.nil (Below.refl v.heap.size v)).new (by simp) z 31).new (by simp) z 31
  have B2 := (B1.row 0 (logA g) _ rfl).row 1 (logA g) _ rfl
  have hB := joinB hb B2.below
  exact ⟨blkOld h1 hB, blkOld h2 hB, B2.get0, B2.get1, hl, ⟨hl2, by omega, by omega⟩, joinB low hB, dk.below hB, dt.below hB, dk.below hB, dt.below hB⟩
/-- The boxes of a round: the act, the two records. -/
structure PlB (ba : Nat) (u : World) (ac rc sc : Array Value) : Prop where
  act : u.heap[ba]? = some (.cells ac 44 (0, 0))
  r : u.heap[ba + 1]? = some (.cells rc 42 (0, 0))
  s : u.heap[ba + 2]? = some (.cells sc 42 (0, 0))
theorem PlB.step (b : PlB ba u ac rc sc) (hb : Below u.heap.size u v) : PlB ba v ac rc sc := ⟨blkOld b.act hb, blkOld b.r hb, blkOld b.s hb⟩
theorem PlB.off (b : PlB ba u ac rc sc) {i : Nat} (hi : i < ba) (cs : Array Value) : PlB ba (u.setRow i cs) ac rc sc :=
  ⟨(heap_setRow_other _ _ _ _ (by omega)).trans b.act, (heap_setRow_other _ _ _ _ (by omega)).trans b.r, (heap_setRow_other _ _ _ _ (by omega)).trans b.s⟩
theorem PlB.setR (b : PlB ba u ac rc sc) (cs : Array Value) : PlB ba (u.setRow (ba + 1) cs) ac cs sc :=
  ⟨(heap_setRow_other _ _ _ _ (by omega)).trans b.act, setRow_heap _ _ _ _ _ _ b.r, (heap_setRow_other _ _ _ _ (by omega)).trans b.s⟩
theorem PlB.setS (b : PlB ba u ac rc sc) (cs : Array Value) : PlB ba (u.setRow (ba + 2) cs) ac rc cs :=
  ⟨(heap_setRow_other _ _ _ _ (by omega)).trans b.act, (heap_setRow_other _ _ _ _ (by omega)).trans b.r, setRow_heap _ _ _ _ _ _ b.s⟩
/-- Behind an act: both sides answered alike. -/
def PlCut (bd bx bg bh ba : Nat) (w : World) (e f n m p q : Value) (u : World) : Prop :=
  ∃ (e0 n0 : Int) (d : Lg.Dk) (A : Option Addr) (c : Nat) (A' : Option Addr) (c' : Nat) (g : Lg.Lo) (r : Rc.Rec) (ac : Array Value) (A5 : Option Addr) (c5 : Nat) (B5 : Option Addr) (d5 : Nat) (A6 : Option Addr) (c6 : Nat) (B6 : Option Addr) (d6 : Nat) (ps qs : List PRec) (Ap : Option Addr) (cp : Nat) (Aq : Option Addr) (cq : Nat),
    (e = .int .i64 e0 ∧ f = .int .i64 e0 ∧ n = .int .i64 n0 ∧ m = .int .i64 n0 ∧ p = .slice Ap ps.length cp ∧ q = .slice Aq qs.length cq) ∧ Pl.Ok d g ∧ PlS bd bx bg bh w u d d A c A' c' g g ∧
    PlB ba u ac (recA r (.slice A5 r.txns.length c5) (.slice B5 r.dirty.length d5)) (recA r (.slice A6 r.txns.length c6) (.slice B6 r.dirty.length d6)) ∧ RecR u r A5 c5 B5 d5 ∧ RecR u r A6 c6 B6 d6 ∧
    ps.map (·.r) = qs.map (·.r) ∧ ps.length ≤ 100000 ∧ qs.length ≤ 100000 ∧ Reads u Ap cp ps.length (ps.flatMap recC) ∧ Reads u Aq cq qs.length (qs.flatMap recC) ∧ (∀ p ∈ ps, PRecR u p) ∧ (∀ p ∈ qs, PRecR u p)
theorem PlCut.plain {e0 n0 : Int} (ho : Pl.Ok d g) (s : PlS bd bx bg bh w u d d A c A' c' g g) (b : PlB ba u ac zeroA zeroA) : PlCut bd bx bg bh ba w (.int .i64 e0) (.int .i64 e0) (.int .i64 n0) (.int .i64 n0) (.slice none 0 0) (.slice none 0 0) u :=
  ⟨e0, n0, d, A, c, A', c', g, ⟨0, 0, 0, 0, 0, 0, 0, ⟨0, 0, ⟨#[]⟩, ⟨#[]⟩⟩, 0, 0, ⟨⟨#[]⟩, 0, 0⟩, [], []⟩, ac, none, 0, none, 0, none, 0, none, 0, [], [], none, 0, none, 0, ⟨rfl, rfl, rfl, rfl, rfl, rfl⟩, ho, s, b, recR_none _ _ rfl rfl, recR_none _ _ rfl rfl, rfl, by simp, by simp, Reads.none_ _ _ _ _, Reads.none_ _ _ _ _, (fun _ h => by cases h), (fun _ h => by cases h)⟩
theorem PlCut.read {n0 : Int} {r : Rc.Rec} {A5 B5 A6 B6 : Option Addr} {c5 d5 c6 d6 : Nat} (ho : Pl.Ok d g) (s : PlS bd bx bg bh w u d d A c A' c' g g) (b : PlB ba u ac (recA r (.slice A5 r.txns.length c5) (.slice B5 r.dirty.length d5)) (recA r (.slice A6 r.txns.length c6) (.slice B6 r.dirty.length d6))) (h5 : RecR u r A5 c5 B5 d5) (h6 : RecR u r A6 c6 B6 d6) : PlCut bd bx bg bh ba w (.int .i64 0) (.int .i64 0) (.int .i64 n0) (.int .i64 n0) (.slice none 0 0) (.slice none 0 0) u :=
  ⟨0, n0, d, A, c, A', c', g, r, ac, A5, c5, B5, d5, A6, c6, B6, d6, [], [], none, 0, none, 0, ⟨rfl, rfl, rfl, rfl, rfl, rfl⟩, ho, s, b, h5, h6, rfl, by simp, by simp, Reads.none_ _ _ _ _, Reads.none_ _ _ _ _, (fun _ h => by cases h), (fun _ h => by cases h)⟩
theorem PlCut.opened {n0 : Int} {ps qs : List PRec} {Ap Aq : Option Addr} {cp cq : Nat} (ho : Pl.Ok d g) (s : PlS bd bx bg bh w u d d A c A' c' g g) (b : PlB ba u ac zeroA zeroA) (he : ps.map (·.r) = qs.map (·.r)) (hl : ps.length ≤ 100000) (hp : Reads u Ap cp ps.length (ps.flatMap recC)) (hq : Reads u Aq cq qs.length (qs.flatMap recC)) (rp : ∀ p ∈ ps, PRecR u p) (rq : ∀ p ∈ qs, PRecR u p) : PlCut bd bx bg bh ba w (.int .i64 0) (.int .i64 0) (.int .i64 n0) (.int .i64 n0) (.slice Ap ps.length cp) (.slice Aq qs.length cq) u :=
  ⟨0, n0, d, A, c, A', c', g, ⟨0, 0, 0, 0, 0, 0, 0, ⟨0, 0, ⟨#[]⟩, ⟨#[]⟩⟩, 0, 0, ⟨⟨#[]⟩, 0, 0⟩, [], []⟩, ac, none, 0, none, 0, none, 0, none, 0, ps, qs, Ap, cp, Aq, cq, ⟨rfl, rfl, rfl, rfl, rfl, rfl⟩, ho, s, b, recR_none _ _ rfl rfl, recR_none _ _ rfl rfl, he, hl, by have h := congrArg List.length he; simp at h; omega, hp, hq, rp, rq⟩
end
end Go.Proofs.YtojaagnfjenhoaaGreat
/- The walks over the reference of records: small, number, pageNum, slot, Op, Entry. -/
namespace Go.Proofs.YtojaagnfjenhoaaGreat
open Go.RowKit
set_option maxRecDepth 100000 in
theorem rsmall_any (n b : Int) (w : World) :
    Calls Tryz.prog 107 #[.int .i64 n, .int .i64 b] w fun e w' => e = .returned (.bool (decide (0 ≤ n ∧ n < b))) ∧ Below w.heap.size w w' := by
  by_cases h0 : 0 ≤ n
  · by_cases h1 : n < b
    · rw [decide_eq_true (And.intro h0 h1)]
      go_enter Tryz.func107, Tryz.ntmps107
      go_wp2_with fail
      go_ret
      exact ⟨by simp, Below.refl _ _⟩
    · rw [decide_eq_false (fun h : 0 ≤ n ∧ n < b => h1 h.2)]
      go_enter Tryz.func107, Tryz.ntmps107
      go_wp2_with fail
      go_ret
      exact ⟨by simp, Below.refl _ _⟩
  · rw [decide_eq_false (fun h : 0 ≤ n ∧ n < b => h0 h.1)]
    go_enter Tryz.func107, Tryz.ntmps107
    go_wp2_with fail
    go_ret
    exact ⟨by simp, Below.refl _ _⟩
set_option maxRecDepth 100000 in
theorem rnumber_any (n : Int) (w : World) :
    Calls Tryz.prog 77 #[.int .i64 n] w fun e w' => e = .returned (.bool (decide (Rc.num n))) ∧ Below w.heap.size w w' := by
  have HC := Lib.hid (fun W => by (have h := rsmall_any n 1099511627776 W); rw [show decide (0 ≤ n ∧ n < 1099511627776) = decide (Rc.num n) from decide_eq_decide.2 Iff.rfl] at h; exact h)
  go_enter Tryz.func77, Tryz.ntmps77
  go_wp2_with (go_at_call 107; (with_reducible refine (HC.out _).mono ?_); rintro e w2 ⟨rfl, hb2⟩)
  go_ret
  exact ⟨rfl, hb2⟩
set_option maxRecDepth 100000 in
theorem rpage_any (n : Int) (w : World) :
    Calls Tryz.prog 80 #[.int .i64 n] w fun e w' => e = .returned (.bool (decide (Rc.pg n))) ∧ Below w.heap.size w w' := by
  have HC := Lib.hid (fun W => by (have h := rsmall_any n 8388608 W); rw [show decide (0 ≤ n ∧ n < 8388608) = decide (Rc.pg n) from decide_eq_decide.2 Iff.rfl] at h; exact h)
  go_enter Tryz.func80, Tryz.ntmps80
  go_wp2_with (go_at_call 107; (with_reducible refine (HC.out _).mono ?_); rintro e w2 ⟨rfl, hb2⟩)
  go_ret
  exact ⟨rfl, hb2⟩
set_option maxRecDepth 100000 in
theorem rslot_any (n : Int) (w : World) :
    Calls Tryz.prog 109 #[.int .i64 n] w fun e w' => e = .returned (.bool (decide (Rc.sl n))) ∧ Below w.heap.size w w' := by
  have HC := Lib.hid (fun W => by (have h := rsmall_any n 32768 W); rw [show decide (0 ≤ n ∧ n < 32768) = decide (Rc.sl n) from decide_eq_decide.2 Iff.rfl] at h; exact h)
  go_enter Tryz.func109, Tryz.ntmps109
  go_wp2_with (go_at_call 107; (with_reducible refine (HC.out _).mono ?_); rintro e w2 ⟨rfl, hb2⟩)
  go_ret
  exact ⟨rfl, hb2⟩
set_option maxRecDepth 100000 in
set_option maxHeartbeats 400000 in
theorem rop_any (o : Rc.Op) (w : World) :
    Calls Tryz.prog 81 #[opV o] w fun e w' => e = .returned (.bool (decide (Rc.opR o))) ∧ Below w.heap.size w w' := by
  obtain ⟨k, s, o, n⟩ := o
  by_cases h0 : 1 ≤ k
  rotate_left
  · have g0 : k < 1 := by omega
    clear h0
    rw [show decide (Rc.opR ⟨k, s, o, n⟩) = false from decide_eq_false (fun h => by obtain ⟨h1, h2, h3, h4, h5⟩ := h; simp only at h1 h2 h3 h4 h5; omega)]
    go_enter Tryz.func81, Tryz.ntmps81
    go_wp2_with fail
    go_ret
    exact ⟨by simp [*], allocB _ _⟩
  by_cases h1 : k ≤ 7
  rotate_left
  · have g1 : 7 < k := by omega
    clear h1
    rw [show decide (Rc.opR ⟨k, s, o, n⟩) = false from decide_eq_false (fun h => by obtain ⟨h1, h2, h3, h4, h5⟩ := h; simp only at h1 h2 h3 h4 h5; omega)]
    go_enter Tryz.func81, Tryz.ntmps81
    go_wp2_with fail
    go_ret
    exact ⟨by simp [*], allocB _ _⟩
  cases hs : decide (Rc.sl s) with
  | false =>
    rw [show decide (Rc.opR ⟨k, s, o, n⟩) = false from decide_eq_false (fun h => by obtain ⟨h1, h2, h3, h4, h5⟩ := h; simp only at h1 h2 h3 h4 h5; exact of_decide_eq_false hs h3)]
    have hS := Lib.hid hs
    clear hs
    go_enter Tryz.func81, Tryz.ntmps81
    go_wp2_with (first | (go_at_call 109; (with_reducible refine (rslot_any s _).mono ?_); rintro e w2 ⟨rfl, hb2⟩; rw [hS.out]; have hx := blkOld (heap_alloc_new w _) hb2; have h22 := blkCell hx 2; have h33 := blkCell hx 3; clear hx; simp at h22 h33))
    go_ret
    exact ⟨by simp [*], joinB (allocB _ _) hb2⟩
  | true =>
  have hS := Lib.hid hs
  have hS2 := Lib.hid (of_decide_eq_true hs)
  clear hs
  by_cases h3 : (o.size : Int) ≤ 512
  rotate_left
  · have g3 : 512 < (o.size : Int) := by omega
    clear h3
    rw [show decide (Rc.opR ⟨k, s, o, n⟩) = false from decide_eq_false (fun h => by obtain ⟨h1, h2, h3, h4, h5⟩ := h; simp only at h1 h2 h3 h4 h5; omega)]
    go_enter Tryz.func81, Tryz.ntmps81
    go_wp2_with (first | (go_at_call 109; (with_reducible refine (rslot_any s _).mono ?_); rintro e w2 ⟨rfl, hb2⟩; rw [hS.out]; have hx := blkOld (heap_alloc_new w _) hb2; have h22 := blkCell hx 2; have h33 := blkCell hx 3; clear hx; simp at h22 h33))
    go_ret
    exact ⟨by simp [*], joinB (allocB _ _) hb2⟩
  by_cases h4 : (n.size : Int) ≤ 512
  rotate_left
  · have g4 : 512 < (n.size : Int) := by omega
    clear h4
    rw [show decide (Rc.opR ⟨k, s, o, n⟩) = false from decide_eq_false (fun h => by obtain ⟨h1, h2, h3, h4, h5⟩ := h; simp only at h1 h2 h3 h4 h5; omega)]
    go_enter Tryz.func81, Tryz.ntmps81
    go_wp2_with (first | (go_at_call 109; (with_reducible refine (rslot_any s _).mono ?_); rintro e w2 ⟨rfl, hb2⟩; rw [hS.out]; have hx := blkOld (heap_alloc_new w _) hb2; have h22 := blkCell hx 2; have h33 := blkCell hx 3; clear hx; simp at h22 h33))
    go_ret
    exact ⟨by simp [*], joinB (allocB _ _) hb2⟩
  rw [show decide (Rc.opR ⟨k, s, o, n⟩) = true from decide_eq_true ⟨by assumption, by assumption, hS2.out, by show o.size ≤ 512; omega, by show n.size ≤ 512; omega⟩]
  go_enter Tryz.func81, Tryz.ntmps81
  go_wp2_with (first | (go_at_call 109; (with_reducible refine (rslot_any s _).mono ?_); rintro e w2 ⟨rfl, hb2⟩; rw [hS.out]; have hx := blkOld (heap_alloc_new w _) hb2; have h22 := blkCell hx 2; have h33 := blkCell hx 3; clear hx; simp at h22 h33))
  go_ret
  exact ⟨by simp [*], joinB (allocB _ _) hb2⟩
set_option maxRecDepth 100000 in
theorem rentry_any (e0 : Rc.Key) (w : World) :
    Calls Tryz.prog 108 #[keyV e0] w fun e w' => e = .returned (.bool (decide (e0.key.size ≤ 100 ∧ Rc.pg e0.page ∧ Rc.sl e0.slot))) ∧ Below w.heap.size w w' := by
  obtain ⟨k, p, s⟩ := e0
  dsimp only
  by_cases h0 : (k.size : Int) ≤ 100
  · have h0n : k.size ≤ 100 := by omega
    have HP := Lib.hid (fun W => rpage_any p W)
    have HS := Lib.hid (fun W => rslot_any s W)
    by_cases hp : Rc.pg p
    · rw [decide_eq_true hp] at HP
      by_cases hs : Rc.sl s
      · rw [decide_eq_true hs] at HS
        rw [decide_eq_true (show k.size ≤ 100 ∧ Rc.pg p ∧ Rc.sl s from ⟨h0n, hp, hs⟩)]
        clear hp hs
        go_enter Tryz.func108, Tryz.ntmps108
        go_wp2_with (first
          | (go_at_call 80; (with_reducible refine (HP.out _).mono ?_); rintro e w2 ⟨rfl, hb2⟩; have hx := blkCell (blkOld (heap_alloc_new w _) hb2))
          | (go_at_call 109; (with_reducible refine (HS.out _).mono ?_); rintro e w3 ⟨rfl, hb3⟩))
        go_ret
        exact ⟨rfl, joinB (joinB (allocB _ _) hb2) hb3⟩
      · rw [decide_eq_false hs] at HS
        rw [decide_eq_false (show ¬ (k.size ≤ 100 ∧ Rc.pg p ∧ Rc.sl s) from fun h => hs h.2.2)]
        clear hp hs
        go_enter Tryz.func108, Tryz.ntmps108
        go_wp2_with (first
          | (go_at_call 80; (with_reducible refine (HP.out _).mono ?_); rintro e w2 ⟨rfl, hb2⟩; have hx := blkCell (blkOld (heap_alloc_new w _) hb2))
          | (go_at_call 109; (with_reducible refine (HS.out _).mono ?_); rintro e w3 ⟨rfl, hb3⟩))
        go_ret
        exact ⟨rfl, joinB (joinB (allocB _ _) hb2) hb3⟩
    · rw [decide_eq_false hp] at HP
      rw [decide_eq_false (show ¬ (k.size ≤ 100 ∧ Rc.pg p ∧ Rc.sl s) from fun h => hp h.2.1)]
      clear hp
      go_enter Tryz.func108, Tryz.ntmps108
      go_wp2_with (go_at_call 80; (with_reducible refine (HP.out _).mono ?_); rintro e w2 ⟨rfl, hb2⟩)
      go_ret
      exact ⟨rfl, joinB (allocB _ _) hb2⟩
  · have h0n : 100 < (k.size : Int) := by omega
    rw [decide_eq_false (show ¬ (k.size ≤ 100 ∧ Rc.pg p ∧ Rc.sl s) from fun h => by have := h.1; omega)]
    go_enter Tryz.func108, Tryz.ntmps108
    go_wp2_with fail
    go_ret
    exact ⟨by simp, allocB _ _⟩
end Go.Proofs.YtojaagnfjenhoaaGreat
/- The walks over the reference of records: a text's bytes, a change's bytes. -/
namespace Rc
/-- A text's bytes, as a string. -/
def tB (s : ByteArray) : ByteArray := ⟨(t s).toArray⟩
theorem tB_size (s : ByteArray) : (tB s).size = 2 + s.size := by
  unfold tB
  show (t s).toArray.size = _
  rw [List.size_toArray]
  unfold t
  rw [List.length_append, p_length]; simp
theorem tB_eq (s : ByteArray) (_h : s.size ≤ 65535) : Oct.putB s.size 2 ++ s = tB s := by
  apply ByteArray.ext
  rw [ByteArray.data_append]
  apply Array.toList_inj.1
  rw [Array.toList_append, show Oct.putB (s.size : Int) 2 = Oct.putB (s.size : Int) ((2 : Nat) : Int) from rfl, Oct.putB_list _ _ (by omega)]
  unfold tB t p
  rfl
end Rc
namespace Go.Proofs.YtojaagnfjenhoaaGreat
open Go.RowKit
set_option maxRecDepth 100000 in
theorem rputtext_any (s : ByteArray) (hs : s.size ≤ 65535) (w : World) :
    Calls Tryz.prog 84 #[.string s] w fun e w' => e = .returned (.string (Rc.tB s)) ∧ Below w.heap.size w w' := by
  have HP := Lib.hid (fun W => rput_any (s.size : Int) 2 (by omega) (by omega) W)
  have HE := Lib.hid (Rc.tB_eq s hs)
  have hz : (Oct.putB (s.size : Int) ((2 : Nat) : Int)).size = 2 := Oct.putB_size _ 2 (by omega)
  have hz2 : (Oct.putB (s.size : Int) 2).size = 2 := hz
  have h1 : ¬ (65535 : Int) < (s.size : Int) := by omega
  have hadd : ∀ W : World, (Op.stringOp .add (Oct.putB (s.size : Int) 2) s).run Tryz.prog W = .ok (.string (Rc.tB s)) W := fun W => by
    rw [← HE.out]; exact run_string_add_sum W _ _ (by rw [hz2]; omega)
  go_enter Tryz.func84, Tryz.ntmps84
  go_wp2_with (go_at_call 44; (with_reducible refine (HP.out _).mono ?_); rintro e w2 ⟨rfl, hb2⟩)
  go_ret
  exact ⟨rfl, hb2⟩
set_option maxRecDepth 100000 in
set_option maxHeartbeats 2000000 in
theorem ropb_any (o : Rc.Op) (h1 : o.old.size ≤ 65535) (h2 : o.new.size ≤ 65535) (w : World) :
    Calls Tryz.prog 83 #[opV o] w fun e w' => e = .returned (.string ⟨(Rc.opB o).toArray⟩) ∧ Below w.heap.size w w' := by
  obtain ⟨k, sl, oo, on⟩ := o
  dsimp only at h1 h2 ⊢
  have HP1 := Lib.hid (fun W => rput_any k 1 (by omega) (by omega) W)
  have HP2 := Lib.hid (fun W => rput_any sl 2 (by omega) (by omega) W)
  have HT1 := Lib.hid (fun W => rputtext_any oo h1 W)
  have HT2 := Lib.hid (fun W => rputtext_any on h2 W)
  have z1 : (Oct.putB k ((1 : Nat) : Int)).size = 1 := Oct.putB_size _ 1 (by omega)
  have z2 : (Oct.putB sl ((2 : Nat) : Int)).size = 2 := Oct.putB_size _ 2 (by omega)
  have z3 := Rc.tB_size oo
  have z4 := Rc.tB_size on
  have HE := Lib.hid (show Oct.putB k 1 ++ Oct.putB sl 2 ++ Rc.tB oo ++ Rc.tB on = ⟨(Rc.opB ⟨k, sl, oo, on⟩).toArray⟩ from by
    apply ByteArray.ext
    rw [ByteArray.data_append, ByteArray.data_append, ByteArray.data_append]
    apply Array.toList_inj.1
    rw [Array.toList_append, Array.toList_append, Array.toList_append, show Oct.putB k 1 = Oct.putB k ((1 : Nat) : Int) from rfl, show Oct.putB sl 2 = Oct.putB sl ((2 : Nat) : Int) from rfl, Oct.putB_list _ 1 (by omega), Oct.putB_list _ 2 (by omega)]
    unfold Rc.opB Rc.tB Rc.p
    simp only [List.append_assoc])
  rw [← HE.out]
  clear HE
  have y1 : (Oct.putB k 1).size = 1 := z1
  have y2 : (Oct.putB sl 2).size = 2 := z2
  clear z1 z2
  generalize Oct.putB k 1 = B1 at HP1 y1 ⊢
  generalize Oct.putB sl 2 = B2 at HP2 y2 ⊢
  generalize Rc.tB oo = B3 at HT1 z3 ⊢
  generalize Rc.tB on = B4 at HT2 z4 ⊢
  have a1 : ∀ W : World, (Op.stringOp .add B1 B2).run Tryz.prog W = .ok (.string (B1 ++ B2)) W := fun W => run_string_add_sum W _ _ (by omega)
  have y3 : (B1 ++ B2).size = 3 := by rw [ByteArray.size_append]; omega
  generalize B1 ++ B2 = C1 at a1 y3 ⊢
  have a2 : ∀ W : World, (Op.stringOp .add C1 B3).run Tryz.prog W = .ok (.string (C1 ++ B3)) W := fun W => run_string_add_sum W _ _ (by omega)
  have y4 : (C1 ++ B3).size = 3 + B3.size := by rw [ByteArray.size_append]; omega
  generalize C1 ++ B3 = C2 at a2 y4 ⊢
  have a3 : ∀ W : World, (Op.stringOp .add C2 B4).run Tryz.prog W = .ok (.string (C2 ++ B4)) W := fun W => run_string_add_sum W _ _ (by omega)
  generalize C2 ++ B4 = C3 at a3 ⊢
  clear y1 y2 y3 y4 z3 z4 h1 h2
  have HX := Lib.hid (heap_alloc_new w (.cells #[.int .i64 k, .int .i64 sl, .string oo, .string on] 34))
  have HB := Lib.hid (allocB w (.cells #[.int .i64 k, .int .i64 sl, .string oo, .string on] 34))
  go_enter Tryz.func83, Tryz.ntmps83
  go_upto_region 1 with fail
  obtain ⟨g, hg⟩ : ∃ g, g = w.heap.size := ⟨_, rfl⟩
  obtain ⟨W0, hW0⟩ : ∃ W, W = w.alloc (.cells #[.int .i64 k, .int .i64 sl, .string oo, .string on] 34) := ⟨_, rfl⟩
  rw [← hg, ← hW0] at HX
  rw [← hW0] at HB
  rw [← hg, ← hW0]
  clear hg hW0
  have X0 := blkOld HX.out (Below.refl _ W0).drew
  have B0 := joinB HB.out (Below.refl _ W0).drew
  refine wp_region_held_drew (S := (fun u => u.heap[g]? = some (.cells #[.int .i64 k, .int .i64 sl, .string oo, .string on] 34 (0, 0)))) (by kernel_rfl) ?_ (fun hHeld => ?_)
  · first | exact hSn | exact X0
  refine tkW 0 (some 3) (v := ?_) rfl ?_ (tkW 1 (some 4) (v := ?_) rfl ?_ (tkW 3 (some 6) (v := ?_) rfl ?_ (tkW 4 (some 7) (v := ?_) rfl ?_ (tkW 7 (some 10) (v := ?_) rfl ?_ (tkW 8 (some 11) (v := ?_) rfl ?_ (tkW 11 (some 14) (v := ?_) rfl ?_ (tkW 12 (some 15) (v := ?_) rfl ?_ ?_)))))))
  iterate 8 (rotate_left; focus (intro u hSu; have hSv := blkCell hSu; clear hSu; go_simp; (try with_reducible rfl)))
  try simp only [Act.put, pS]
  refine rdH 2 (some 5) rfl (fun K hK => ?_)
  go_simp
  refine (HP1.out _).mono ?_; rintro e v1 ⟨rfl, hb⟩; have X1 := blkOld X0 hb; have B1 := joinB B0 hb; try clear hSn
  have hSn := X1
  clear hb
  refine hK.out _ _ ?_ (fun hHeld => ?_)
  · first | exact hSn | exact X0
  clear hK K
  try simp only [Act.put, pS]
  refine rdH 5 (some 8) rfl (fun K hK => ?_)
  go_simp
  refine (HP2.out _).mono ?_; rintro e v2 ⟨rfl, hb⟩; have X2 := blkOld X1 hb; have B2 := joinB B1 hb; try clear hSn
  have hSn := X2
  clear hb
  refine hK.out _ _ ?_ (fun hHeld => ?_)
  · first | exact hSn | exact X0
  clear hK K
  try simp only [Act.put, pS]
  refine tkW 6 (some 9) (v := ?_) rfl ?_ ?_
  rotate_left
  · intro u hSu; have hSv := blkCell hSu; clear hSu; go_simp; (try with_reducible rfl)
  try simp only [Act.put, pS]
  refine rdH 9 (some 12) rfl (fun K hK => ?_)
  go_simp
  refine (HT1.out _).mono ?_; rintro e v3 ⟨rfl, hb⟩; have X3 := blkOld X2 hb; have B3 := joinB B2 hb; try clear hSn
  have hSn := X3
  clear hb
  refine hK.out _ _ ?_ (fun hHeld => ?_)
  · first | exact hSn | exact X0
  clear hK K
  try simp only [Act.put, pS]
  refine tkW 10 (some 13) (v := ?_) rfl ?_ ?_
  rotate_left
  · intro u hSu; have hSv := blkCell hSu; clear hSu; go_simp; (try with_reducible rfl)
  try simp only [Act.put, pS]
  refine rdH 13 (some 16) rfl (fun K hK => ?_)
  go_simp
  refine (HT2.out _).mono ?_; rintro e v4 ⟨rfl, hb⟩; have X4 := blkOld X3 hb; have B4 := joinB B3 hb; try clear hSn
  have hSn := X4
  clear hb
  refine hK.out _ _ ?_ (fun hHeld => ?_)
  · first | exact hSn | exact X0
  clear hK K
  try simp only [Act.put, pS]
  refine tkW 14 (some 17) (v := ?_) rfl ?_ (tkW 15 (some 2) (v := ?_) rfl ?_ ?_)
  iterate 2 (rotate_left; focus (intro u hSu; have hSv := blkCell hSu; clear hSu; go_simp; (try with_reducible rfl)))
  try simp only [Act.put, pS]
  refine wpAnyH_done (by kernel_rfl) ?_ _
  clear hHeld hSn
  go_wp2_with fail
  go_ret
  exact ⟨rfl, B4⟩
end Go.Proofs.YtojaagnfjenhoaaGreat
/- The walks over the reference of records: a record's bytes. -/
namespace Rc
/-- Bytes as a string. -/
def mk (l : List UInt8) : ByteArray := ⟨l.toArray⟩
theorem mk_size (l : List UInt8) : (mk l).size = l.length := by unfold mk; show l.toArray.size = _; simp
theorem mk_app (a b : List UInt8) : mk a ++ mk b = mk (a ++ b) := by
  apply ByteArray.ext
  rw [ByteArray.data_append]
  unfold mk
  simp
theorem put_mk (n : Int) (k : Nat) (hk : k ≤ 8) : Oct.putB n (k : Int) = mk (p n k) := by
  apply ByteArray.ext
  apply Array.toList_inj.1
  rw [Oct.putB_list _ _ hk]
  rfl
end Rc
namespace Go.Proofs.YtojaagnfjenhoaaGreat
open Go.RowKit
theorem rput_mk (n : Int) (k : Nat) (hk : k ≤ 8) (w : World) :
    Calls Tryz.prog 44 #[.int .i64 n, .int .i64 (k : Int)] w fun e w' => e = .returned (.string (Rc.mk (Rc.p n k))) ∧ Below w.heap.size w w' := by
  rw [← Rc.put_mk n k hk]
  exact rput_any n k (by omega) (by omega) w
theorem add_mk (a b : List UInt8) (h : a.length + b.length ≤ 1000000) (W : World) : (Op.stringOp .add (Rc.mk a) (Rc.mk b)).run Tryz.prog W = .ok (.string (Rc.mk (a ++ b))) W := by
  rw [← Rc.mk_app]
  exact run_string_add_sum W _ _ (by rw [Rc.mk_size, Rc.mk_size]; omega)
end Go.Proofs.YtojaagnfjenhoaaGreat
/- The walks over the references of disk and log: Is, Read, first. -/
namespace Go.Proofs.YtojaagnfjenhoaaGreat
open Go.RowKit
set_option maxRecDepth 100000 in
theorem ris_any (d : Lg.Dk) (A : Option Addr) (c : Nat) (a : Int) (w : World) :
    Calls Tryz.prog 54 #[diskV d A c, .int .i64 a] w fun e w' => e = .returned (.bool (decide (Lg.hasD d a))) ∧ Below w.heap.size w w' := by
  obtain ⟨L, left, down⟩ := d
  by_cases h0 : 0 ≤ a
  · by_cases h1 : a < (L.length : Int)
    · rw [decide_eq_true (show Lg.hasD ⟨L, left, down⟩ a from And.intro h0 h1)]
      go_enter Tryz.func54, Tryz.ntmps54
      go_wp2_with fail
      go_ret
      exact ⟨by simp, allocB _ _⟩
    · rw [decide_eq_false (show ¬ Lg.hasD ⟨L, left, down⟩ a from fun h => h1 h.2)]
      go_enter Tryz.func54, Tryz.ntmps54
      go_wp2_with fail
      go_ret
      exact ⟨by simp, allocB _ _⟩
  · rw [decide_eq_false (show ¬ Lg.hasD ⟨L, left, down⟩ a from fun h => h0 h.1)]
    go_enter Tryz.func54, Tryz.ntmps54
    go_wp2_with fail
    go_ret
    exact ⟨by simp, allocB _ _⟩
set_option maxRecDepth 100000 in
set_option maxHeartbeats 1000000 in
theorem rdread_any (d : Lg.Dk) (A : Option Addr) (c : Nat) (a : Int) (w : World) (h : DiskR w d A c) :
    Calls Tryz.prog 60 #[diskV d A c, .int .i64 a] w fun e w' => e = .returned (.tuple #[.string (Lg.readD d a).1, .int .i64 (Lg.readD d a).2]) ∧ Below w.heap.size w w' := by
  have HH := Lib.hid (fun W => ris_any d A c a W)
  have HR := Lib.hid h.secs
  clear h
  unfold Lg.readD
  cases hd : d.down with
  | true =>
    obtain ⟨L, left, down⟩ := d
    simp only at hd
    subst hd
    rw [if_pos rfl]
    dsimp only [diskV]
    go_enter Tryz.func60, Tryz.ntmps60
    go_wp2_with fail
    go_ret2
    exact ⟨rfl, allocB _ _⟩
  | false =>
    rw [if_neg (by simp)]
    by_cases hh : Lg.hasD d a
    · rw [if_pos hh]
      rw [decide_eq_true hh] at HH
      obtain ⟨L, left, down⟩ := d
      simp only at hd
      subst hd
      unfold Lg.hasD at hh
      unfold Lg.secAt
      dsimp only [diskV] at hh HH HR ⊢
      obtain ⟨h0, h1⟩ := hh
      obtain ⟨k, rfl⟩ := Int.eq_ofNat_of_zero_le h0
      have hk : k < L.length := by omega
      obtain ⟨b, off, rfl, hc, hbl, hcell⟩ := read_at strC_len HR.out hk
      have q0 := hcell 0 _ rfl
      simp only [Nat.mul_one, Nat.add_zero] at q0
      rw [Int.toNat_natCast, List.getElem?_eq_getElem hk, Option.getD_some]
      generalize L[k] = x at q0 ⊢
      have Q0 := Lib.hid q0
      clear q0 hcell h0
      go_enter Tryz.func60, Tryz.ntmps60
      go_upto_region 5 with (go_at_call 54; (with_reducible refine (HH.out _).mono ?_); rintro e w1 ⟨rfl, hb1⟩; have hbx := blkCell (blkNew hb1))
      have q1 : w1.cell? ⟨b, off + k, none⟩ = some (.string x) := (joinB (allocB w _) hb1).cell (p := ⟨b, off + k, none⟩) hbl |>.trans Q0.out
      have HB1 := Lib.hid (joinB (allocB w _) hb1)
      clear hb1
      go_wp2_with fail
      go_ret2
      exact ⟨rfl, HB1.out⟩
    · rw [if_neg hh]
      rw [decide_eq_false hh] at HH
      clear hh
      obtain ⟨L, left, down⟩ := d
      simp only at hd
      subst hd
      dsimp only [diskV] at HH ⊢
      go_enter Tryz.func60, Tryz.ntmps60
      go_wp2_with (go_at_call 54; (with_reducible refine (HH.out _).mono ?_); rintro e w1 ⟨rfl, hb1⟩)
      go_ret2
      exact ⟨rfl, joinB (allocB _ _) hb1⟩
theorem add_mkS (l : List UInt8) (x : ByteArray) (h : l.length + x.size ≤ 1000000) (W : World) : (Op.stringOp .add (Rc.mk l) x).run Tryz.prog W = .ok (.string (Rc.mk (l ++ x.data.toList))) W := by
  have h1 := add_mk l x.data.toList (by have : x.data.toList.length = x.size := (by simp); omega) W
  have h2 : Rc.mk x.data.toList = x := rfl
  rw [h2] at h1
  exact h1
set_option maxRecDepth 100000 in
theorem rfirst_any (f n e s : Int) (t : ByteArray) (hs0 : 0 ≤ s) (hs : s ≤ 1000000000) (w : World) :
    Calls Tryz.prog 28 #[.agg #[.int .i64 f, .int .i64 n, .int .i64 e, .int .i64 s, .string t]] w fun x w' => x = .returned (.int .i64 (s / 128)) ∧ Below w.heap.size w w' := by
  have hq : s.tdiv 128 = s / 128 := Int.tdiv_eq_ediv_of_nonneg hs0
  have hwq : IntKind.i64.wrap (s / 128) = s / 128 := IntWalk.i64_in _ (by omega)
  have hwq2 : IntKind.i64.wrap (s.tdiv 128) = s / 128 := by rw [hq]; exact hwq
  go_enter Tryz.func28, Tryz.ntmps28
  go_wp2_with fail
  go_ret
  exact ⟨by simp, allocB _ _⟩
end Go.Proofs.YtojaagnfjenhoaaGreat
/- The walks over the references of disk and log: Is, Read, May, sectors. -/
namespace Go.Proofs.YtojaagnfjenhoaaGreat
open Go.RowKit
/-- What the reference's May says. -/
def Lg.mayD (d : Lg.Dk) : Prop := (∀ x ∈ d.sectors, x.size = 128) ∧ 1 ≤ (d.sectors.length : Int) ∧ (d.sectors.length : Int) ≤ 65536 ∧ -1 ≤ d.left ∧ (d.down = true → d.left = 0)
instance (d : Lg.Dk) : Decidable (Lg.mayD d) := by unfold Lg.mayD; exact inferInstance
set_option maxRecDepth 100000 in
set_option maxHeartbeats 4000000 in
theorem rsectors_any (d : Lg.Dk) (hw : ∀ b ∈ d.sectors, b.size ≤ 1000) (A : Option Addr) (c : Nat) (f : Int) (a : Nat) (n : Int) (hf1 : -9223372036854775808 ≤ f + (a : Int)) (hf2 : f + (a : Int) ≤ 9223372036854775807) (ha : a ≤ 1000) (hn : n ≤ 1000) (w : World) (h : DiskR w d A c) :
    Calls Tryz.prog 34 #[diskV d A c, .int .i64 f, .int .i64 (a : Int), .int .i64 n] w (SecOut (Lg.secsD d (f + (a : Int)) (n - (a : Int)).toNat) w) := by
  have HR := Lib.hid (fun a W (hb : Below w.heap.size w W) => rdread_any d A c a W (h.below hb))
  have hsm := h.small
  obtain ⟨N, hN⟩ : ∃ N, N = (n - (a : Int)).toNat := ⟨_, rfl⟩
  rw [← hN]
  have hmax : (N : Int) = max (n - (a : Int)) 0 := by omega
  have hN2 : N ≤ 1000 := by omega
  obtain ⟨q, hq⟩ : ∃ q, q = f + (a : Int) := ⟨_, rfl⟩
  rw [← hq] at hf1 hf2
  rw [← hq]
  have HF := Lib.hid (fun r (hr : Lg.secsD d q N = r) w' (hb : Below w.heap.size w w') => show SecOut (Lg.secsD d q N) w (.returned (secV r)) w' from ⟨hb, by rw [hr]⟩)
  have HA := Lib.hid (Lg.Acc.zero d q N)
  have HW := Lib.hid hw
  generalize SecOut (Lg.secsD d q N) w = Q at HF ⊢
  have HS := Lib.hid (show (d.sectors.length : Int) ≤ 1000000 by omega)
  have HMX := Lib.hid hmax
  have HQE := Lib.hid hq
  clear h hN hw hsm hmax hq
  dsimp only [diskV] at HR ⊢
  go_enter Tryz.func34, Tryz.ntmps34
  go_upto_region 1 with fail
  have H0 := Lib.hid (show BxL w.heap.size w [(#[.slice A d.sectors.length c, .int .i64 d.left, .bool d.down], 26)] (w.alloc (.cells #[.slice A d.sectors.length c, .int .i64 d.left, .bool d.down] 26)) from (BxL.nil (Below.refl w.heap.size w)).new (by simp) #[.slice A d.sectors.length c, .int .i64 d.left, .bool d.down] 26)
  obtain ⟨W0, hW0⟩ : ∃ W, W = w.alloc (.cells #[.slice A d.sectors.length c, .int .i64 d.left, .bool d.down] 26) := ⟨_, rfl⟩
  rw [← hW0] at H0 ⊢
  clear hW0
  go_wp2_with fail
  go_loopw [10, 11] (fun s i wr => ∃ (k : Nat) (l : List UInt8), s = .string (Rc.mk l) ∧ i = .int .i64 ((a : Int) + (k : Int)) ∧ Lg.Acc d q N k l ∧ l.length ≤ k * 1000 ∧ (0 < k → 0 ≤ q ∧ q + (k : Int) ≤ 1000000) ∧ BxL w.heap.size w [(#[.slice A d.sectors.length c, .int .i64 d.left, .bool d.down], 26)] wr) (fun _ i _ => N - (intOf i - (a : Int)).toNat)
  case atStart => exact ⟨0, [], rfl, by simp, HA.out, Nat.le_refl _, fun h => absurd h (by omega), H0.out⟩
  case round =>
    obtain ⟨k, l, rfl, rfl, hacc, hll, hfk, hbx⟩ := hrel
    have HAC := Lib.hid hacc
    have HX := Lib.hid hbx
    have HFK := Lib.hid hfk
    have hkN := hacc.le
    clear hacc hbx hfk H0 HA
    by_cases hlt : k < N
    · have hin : (a : Int) + (k : Int) < n := by have := HMX.out; omega
      have hwr : IntKind.i64.wrap (f + ((a : Int) + (k : Int))) = q + (k : Int) := by
        have e : f + ((a : Int) + (k : Int)) = q + (k : Int) := by have := HQE.out; omega
        rw [e]
        refine IntWalk.i64_in _ ?_
        rcases Nat.eq_zero_or_pos k with h0 | h0
        · subst h0; simp; omega
        · have := HFK.out h0; omega
      have hRD := HR.out (q + (k : Int)) wr HX.out.below
      have HACE := Lib.hid (fun h => HAC.out.fault hlt h)
      have HACN := Lib.hid (fun h => HAC.out.next hlt h)
      have HINK := Lib.hid (@Lg.readD_in d (q + (k : Int)))
      have HSZ := Lib.hid (@Lg.secAt_size d (q + (k : Int)) HW.out)
      generalize Lg.readD d (q + (k : Int)) = rd at hRD HACE HACN HINK
      obtain ⟨x, e⟩ := rd
      simp only at hRD HACE HACN HINK
      have HRD := Lib.hid hRD
      clear hRD HAC
      by_cases he : e = 0
      · subst he
        have HACN2 := Lib.hid (HACN.out rfl)
        have hin := HINK.out rfl
        have hxs : x.size ≤ 1000 := by rw [hin.2]; exact HSZ.out
        have hfk2 : 0 ≤ q ∧ q + ((k + 1 : Nat) : Int) ≤ 1000000 := by
          have h1 := hin.1.1
          have h2 := hin.1.2
          have h3 := HS.out
          refine ⟨?_, by omega⟩
          rcases Nat.eq_zero_or_pos k with h0 | h0
          · subst h0; simpa using h1
          · exact (HFK.out h0).1
        have HFK2 := Lib.hid hfk2
        have hl2 : (l ++ x.data.toList).length ≤ (k + 1) * 1000 := by rw [List.length_append]; simp; omega
        have HL2 := Lib.hid hl2
        have hadd := add_mkS l x (by omega)
        obtain ⟨S2, hS2⟩ : ∃ S, S = Rc.mk (l ++ x.data.toList) := ⟨_, rfl⟩
        rw [← hS2] at hadd
        have HS2 := Lib.hid hS2
        obtain ⟨S1, hS1⟩ : ∃ S, S = Rc.mk l := ⟨_, rfl⟩
        rw [← hS1] at hadd
        rw [← hS1]
        have hwk : IntKind.i64.wrap ((a : Int) + (k : Int) + 1) = (a : Int) + (k : Int) + 1 := IntWalk.i64_in _ (by omega)
        clear hin hfk2 hl2 HACN HACE HINK HSZ HFK hS1 hS2
        go_wp2_with (first
          | (with_reducible refine listLoad (by kernel_rfl) 26 (.tmp 4) rfl w.heap.size rfl #[.slice A d.sectors.length c, .int .i64 d.left, .bool d.down] _ HX.out.get0 _ Tryz.underlying26 (by kernel_rfl) (by kernel_rfl) ?_)
          | (go_at_call 60; (with_reducible refine HRD.out.mono ?_); rintro e w1 ⟨rfl, hb1⟩; have HX1 := Lib.hid (HX.out.step hb1); clear hb1))
        go_roundw
        case rel => exact ⟨k + 1, l ++ x.data.toList, by rw [← HS2.out], by go_num, HACN2.out, HL2.out, fun _ => HFK2.out, HX1.out⟩
        case measure => simp [intOf]; omega
      · have HACE2 := Lib.hid (HACE.out he)
        have he1 : (e == 0) = false := by simpa using he
        have he2 : (e != 0) = true := by simpa using he
        clear he HACN HACE HINK HSZ HFK
        go_wp2_with (first
          | (with_reducible refine listLoad (by kernel_rfl) 26 (.tmp 4) rfl w.heap.size rfl #[.slice A d.sectors.length c, .int .i64 d.left, .bool d.down] _ HX.out.get0 _ Tryz.underlying26 (by kernel_rfl) (by kernel_rfl) ?_)
          | (go_at_call 60; (with_reducible refine HRD.out.mono ?_); rintro e w1 ⟨rfl, hb1⟩; have HX1 := Lib.hid (HX.out.step hb1); clear hb1))
        exact HF.out _ HACE2.out _ HX1.out.below
    · obtain rfl : k = N := by omega
      have hin : ¬ (a : Int) + (k : Int) < n := by have := HMX.out; omega
      have HDN := Lib.hid HAC.out.done
      go_wp2_with fail
      exact HF.out _ HDN.out _ HX.out.below
end Go.Proofs.YtojaagnfjenhoaaGreat
/- The walks over the reference of records: its reader's numbers and texts. -/
namespace Go.Proofs.YtojaagnfjenhoaaGreat
open Go.RowKit
theorem there_no (s : ByteArray) (a size : Nat) (hin : ¬ a + size ≤ s.size) (hm : s.size ≤ 281474976710656) (ha : a ≤ 281474976710656) (w : World) :
    Calls Tryz.prog 94 #[.string s, .int .i64 (a : Int), .int .i64 (size : Int)] w fun e w' => e = .returned (.bool false) ∧ w = w' := by
  have hw : IntKind.i64.wrap ((s.size : Int) - (a : Int)) = (s.size : Int) - (a : Int) := IntWalk.i64_in _ (by omega)
  by_cases h1 : (a : Int) ≤ (s.size : Int)
  · have h2 : ¬ (size : Int) ≤ (s.size : Int) - (a : Int) := by omega
    go_enter Tryz.func94, Tryz.ntmps94
    go_wp2_with fail
    go_ret
    exact ⟨by simp; try omega, rfl⟩
  · go_enter Tryz.func94, Tryz.ntmps94
    go_wp2_with fail
    go_ret
    exact ⟨by simp; try omega, rfl⟩
theorem rget_no (s : ByteArray) (a size : Nat) (hs1 : 1 ≤ size) (hs8 : size ≤ 8) (hin : ¬ a + size ≤ s.size) (hm : s.size ≤ 281474976710656) (ha : a ≤ 281474976710656) (w : World) :
    Calls Tryz.prog 61 #[.string s, .int .i64 (a : Int), .int .i64 (size : Int)] w fun e w' => e = .returned (.tuple #[.int .i64 0, .bool false]) ∧ w = w' := by
  have HT := Lib.hid (fun W => there_no s a size hin hm ha W)
  have h1 : ¬ (size : Int) < 1 := by omega
  have h8 : ¬ (8 : Int) < (size : Int) := by omega
  go_enter Tryz.func61, Tryz.ntmps61
  go_wp2_with (go_at_call 94; (with_reducible refine (HT.out _).mono ?_); rintro e w1 ⟨rfl, rfl⟩)
  go_ret2
  exact ⟨rfl, rfl⟩
/-- The reader's box. -/
abbrev iC (s : ByteArray) (a : Nat) (bad : Bool) : Array Value := #[.string s, .int .i64 (a : Int), .bool bad]
def INumOut (s : ByteArray) (y : Int × Rc.St) (b : Nat) (w : World) (e : Ending) (w' : World) : Prop :=
  e = .returned (.int .i64 y.1) ∧ w'.heap[b]? = some (.cells (iC s y.2.at_ y.2.bad) 140 (0, 0)) ∧ KeptB w.heap.size b w w'
set_option maxRecDepth 100000 in
set_option maxHeartbeats 2000000 in
theorem inum_yes (b : Nat) (s : ByteArray) (a : Nat) (bad : Bool) (k : Nat) (h1 : 1 ≤ k) (h6 : k ≤ 6) (hm : s.size ≤ 1000000000) (hin : a + k ≤ s.size) (n : Nat) (hn : Oct.getN s.data.toList a k = n) (w : World) (hb : w.heap[b]? = some (.cells (iC s a bad) 140 (0, 0))) :
    Calls Tryz.prog 95 #[.pointer (some ⟨b, 0, none⟩), .int .i64 (k : Int)] w (INumOut s ((n : Int), ⟨a + k, bad⟩) b w) := by
  have hi : Oct.intOf (Oct.getN s.data.toList a k) = (n : Int) := by
    have hp := getN_small s.data.toList a k
    have h2 : 256 ^ k ≤ 256 ^ 6 := Nat.pow_le_pow_right (by omega) h6
    have h3 : Oct.getN s.data.toList a k < 281474976710656 := Nat.lt_of_lt_of_le hp h2
    rw [← hn]; unfold Oct.intOf; rw [if_pos (by omega)]
  have HG := Lib.hid (fun W => by (have h := rget_yes s a k h1 (by omega) hin (by omega) W); rw [hi] at h; exact h)
  have hw : IntKind.i64.wrap ((a : Int) + (k : Int)) = ((a + k : Nat) : Int) := by rw [Int.natCast_add]; exact IntWalk.i64_in _ (by omega)
  have HX := Lib.hid hb
  clear hb hi hn
  go_enter Tryz.func95, Tryz.ntmps95
  go_upto_region 1 with fail
  have X0 := blkOld HX.out (Below.refl _ w).drew
  refine wp_region_held_drew (S := (fun u => u.heap[b]? = some (.cells (iC s a bad) 140 (0, 0)))) (by kernel_rfl) ?_ (fun hHeld => ?_)
  · first | exact hSn | exact X0
  refine tkW 0 (some 8) (v := ?_) rfl ?_ (tkW 1 (some 9) (v := ?_) rfl ?_ (tkW 2 (some 10) (v := ?_) rfl ?_ (tkW 3 (some 11) (v := ?_) rfl ?_ (tkW 4 (some 12) (v := ?_) rfl ?_ (tkW 5 (some 13) (v := ?_) rfl ?_ (tkW 6 (some 14) (v := ?_) rfl ?_ (tkW 7 (some 15) (v := ?_) rfl ?_ (tkW 8 (some 16) (v := ?_) rfl ?_ ?_))))))))
  iterate 9 (rotate_left; focus (intro u hSu; have hSv := blkCell hSu; clear hSu; go_simp; (try with_reducible rfl)))
  try simp only [Act.put, pS]
  refine rdH 9 (some 17) rfl (fun K hK => ?_)
  go_simp
  refine (HG.out _).mono ?_; rintro e w1 ⟨rfl, rfl⟩; have hSn := X0
  refine hK.out _ _ ?_ (fun hHeld => ?_)
  · first | exact hSn | exact X0
  clear hK K
  try simp only [Act.put, pS]
  refine tkW 10 (some 7) (v := ?_) rfl ?_ (tkW 11 (some 18) (v := ?_) rfl ?_ (tkW 12 (some 19) (v := ?_) rfl ?_ (tkW 13 (some 5) (v := ?_) rfl ?_ (tkW 14 (some 6) (v := ?_) rfl ?_ ?_))))
  iterate 5 (rotate_left; focus (intro u hSu; have hSv := blkCell hSu; clear hSu; go_simp; (try with_reducible rfl)))
  try simp only [Act.put, pS]
  refine wpAnyH_done (by kernel_rfl) ?_ _
  clear hHeld hSn
  have hc := blkCell X0
  have hz := blkFrozen X0
  go_wp2_with fail
  go_ret
  have hs := blkSet 1 X0 (.int .i64 ((a + k : Nat) : Int))
  refine ⟨rfl, ?_, ?_⟩
  · exact hs
  · refine ⟨rfl, rfl, rfl, ?_, fun j hj hne => ?_⟩
    · simp [World.setCell]
    · exact Below.heap_setCell _ _ _ _ hne
set_option maxRecDepth 100000 in
set_option maxHeartbeats 2000000 in
theorem inum_no (b : Nat) (s : ByteArray) (a : Nat) (bad : Bool) (k : Nat) (h1 : 1 ≤ k) (h6 : k ≤ 6) (hm : s.size ≤ 1000000000) (ha : a ≤ 2000000000) (hin : ¬ a + k ≤ s.size) (w : World) (hb : w.heap[b]? = some (.cells (iC s a bad) 140 (0, 0))) :
    Calls Tryz.prog 95 #[.pointer (some ⟨b, 0, none⟩), .int .i64 (k : Int)] w (INumOut s (0, ⟨a, true⟩) b w) := by
  have HG := Lib.hid (fun W => rget_no s a k h1 (by omega) hin (by omega) (by omega) W)
  have HX := Lib.hid hb
  clear hb
  go_enter Tryz.func95, Tryz.ntmps95
  go_upto_region 1 with fail
  have X0 := blkOld HX.out (Below.refl _ w).drew
  refine wp_region_held_drew (S := (fun u => u.heap[b]? = some (.cells (iC s a bad) 140 (0, 0)))) (by kernel_rfl) ?_ (fun hHeld => ?_)
  · first | exact hSn | exact X0
  refine tkW 0 (some 8) (v := ?_) rfl ?_ (tkW 1 (some 9) (v := ?_) rfl ?_ (tkW 2 (some 10) (v := ?_) rfl ?_ (tkW 3 (some 11) (v := ?_) rfl ?_ (tkW 4 (some 12) (v := ?_) rfl ?_ (tkW 5 (some 13) (v := ?_) rfl ?_ (tkW 6 (some 14) (v := ?_) rfl ?_ (tkW 7 (some 15) (v := ?_) rfl ?_ (tkW 8 (some 16) (v := ?_) rfl ?_ ?_))))))))
  iterate 9 (rotate_left; focus (intro u hSu; have hSv := blkCell hSu; clear hSu; go_simp; (try with_reducible rfl)))
  try simp only [Act.put, pS]
  refine rdH 9 (some 17) rfl (fun K hK => ?_)
  go_simp
  refine (HG.out _).mono ?_; rintro e w1 ⟨rfl, rfl⟩; have hSn := X0
  refine hK.out _ _ ?_ (fun hHeld => ?_)
  · first | exact hSn | exact X0
  clear hK K
  try simp only [Act.put, pS]
  refine tkW 10 (some 7) (v := ?_) rfl ?_ (tkW 11 (some 18) (v := ?_) rfl ?_ (tkW 12 (some 19) (v := ?_) rfl ?_ (tkW 13 (some 5) (v := ?_) rfl ?_ (tkW 14 (some 6) (v := ?_) rfl ?_ ?_))))
  iterate 5 (rotate_left; focus (intro u hSu; have hSv := blkCell hSu; clear hSu; go_simp; (try with_reducible rfl)))
  try simp only [Act.put, pS]
  refine wpAnyH_done (by kernel_rfl) ?_ _
  clear hHeld hSn
  have hc := blkCell X0
  have hz := blkFrozen X0
  go_wp2_with fail
  go_ret
  have hs := blkSet 2 X0 (.bool true)
  refine ⟨rfl, ?_, ?_⟩
  · exact hs
  · refine ⟨rfl, rfl, rfl, ?_, fun j hj hne => ?_⟩
    · simp [World.setCell]
    · exact Below.heap_setCell _ _ _ _ hne
/-- A number of the reader. -/
theorem inum_any (b : Nat) (s : ByteArray) (x : Rc.St) (k : Nat) (h1 : 1 ≤ k) (h6 : k ≤ 6) (hm : s.size ≤ 1000000000) (ha : x.at_ ≤ 2000000000) (w : World) (hb : w.heap[b]? = some (.cells (iC s x.at_ x.bad) 140 (0, 0))) :
    Calls Tryz.prog 95 #[.pointer (some ⟨b, 0, none⟩), .int .i64 (k : Int)] w (INumOut s (Rc.numM false s.data.toList x k) b w) := by
  obtain ⟨a, bad⟩ := x
  have hl : s.data.toList.length = s.size := by simp
  by_cases hin : a + k ≤ s.size
  · have hN : Rc.numM false s.data.toList ⟨a, bad⟩ k = (((Oct.getN s.data.toList a k : Nat) : Int), (⟨a + k, bad⟩ : Rc.St)) := by unfold Rc.numM; rw [if_pos (by show a + k ≤ _; omega)]
    rw [hN]
    exact inum_yes b s a bad k h1 h6 hm hin _ rfl w hb
  · have hN : Rc.numM false s.data.toList ⟨a, bad⟩ k = (0, (⟨a, true⟩ : Rc.St)) := by unfold Rc.numM; rw [if_neg (by show ¬ a + k ≤ _; omega)]; rfl
    rw [hN]
    exact inum_no b s a bad k h1 h6 hm ha hin w hb
end Go.Proofs.YtojaagnfjenhoaaGreat
/- The walks over the reference of records: its reader's texts. -/
namespace Go.Proofs.YtojaagnfjenhoaaGreat
open Go.RowKit
set_option maxRecDepth 100000 in
theorem rgettext_yes (s : ByteArray) (a n : Nat) (hm : s.size ≤ 1000000000) (hn : Oct.getN s.data.toList a 2 = n) (hin : a + 2 + n ≤ s.size) (w : World) :
    Calls Tryz.prog 116 #[.string s, .int .i64 (a : Int)] w fun e w' => e = .returned (.tuple #[.string (s.extract (a + 2) (a + 2 + n)), .int .i64 ((a + 2 + n : Nat) : Int), .bool true]) ∧ w = w' := by
      have hpow := getN_small s.data.toList a 2
      have HG := Lib.hid (fun W => rget_yes s a 2 (by omega) (by omega) (by omega) (by omega) W)
      rw [hn] at hpow HG
      have hn2 : n < 65536 := by simpa using hpow
      rw [show Oct.intOf n = (n : Int) from by unfold Oct.intOf; rw [if_pos (by omega)]] at HG
      clear hpow hn
      have HT := Lib.hid (fun W => show Calls Tryz.prog 94 #[.string s, .int .i64 ((a : Int) + 2), .int .i64 (n : Int)] W _ from by (have h := there_yes s.size s (a + 2) n rfl hin (by omega) W); rw [show ((a + 2 : Nat) : Int) = (a : Int) + 2 by omega] at h; exact h)
      have w3 : IntKind.i64.wrap ((a : Int) + 2) = (a : Int) + 2 := IntWalk.i64_in _ (by omega)
      have w4 : IntKind.i64.wrap ((a : Int) + 2 + (n : Int)) = (a : Int) + 2 + (n : Int) := IntWalk.i64_in _ (by omega)
      have g1 : (0 : Int) ≤ (a : Int) + 2 := by omega
      have g2 : (a : Int) + 2 ≤ (a : Int) + 2 + (n : Int) := by omega
      have g3 : (a : Int) + 2 + (n : Int) ≤ (s.size : Int) := by omega
      have n1 : ((a : Int) + 2).toNat = a + 2 := by omega
      have n2 : ((a : Int) + 2 + (n : Int)).toNat = a + 2 + n := by omega
      go_enter Tryz.func116, Tryz.ntmps116
      go_wp2_with (first | (go_at_call 61; refine (HG.out _).mono ?_; rintro e w1 ⟨rfl, rfl⟩) | (go_at_call 94; (with_reducible refine (HT.out _).mono ?_); rintro e w1 ⟨rfl, rfl⟩))
      refine bodyPost_ret (v := .tuple #[.string (s.extract (a + 2) (a + 2 + n)), .int .i64 ((a + 2 + n : Nat) : Int), .bool true]) (by simp [results, Tryz.results116, go_sem]) rfl ⟨rfl, rfl⟩
set_option maxRecDepth 100000 in
theorem rgettext_no (s : ByteArray) (a : Nat) (hm : s.size ≤ 1000000000) (ha : a ≤ 2000000000) (hin : ¬ a + 2 + Oct.getN s.data.toList a 2 ≤ s.size) (w : World) :
    Calls Tryz.prog 116 #[.string s, .int .i64 (a : Int)] w fun e w' => e = .returned (.tuple #[.string ⟨#[]⟩, .int .i64 0, .bool false]) ∧ w = w' := by
  by_cases h2 : a + 2 ≤ s.size
  · have hpow := getN_small s.data.toList a 2
    have HG := Lib.hid (fun W => rget_yes s a 2 (by omega) (by omega) h2 (by omega) W)
    generalize Oct.getN s.data.toList a 2 = n at hpow HG hin
    have hn2 : n < 65536 := by simpa using hpow
    rw [show Oct.intOf n = (n : Int) from by unfold Oct.intOf; rw [if_pos (by omega)]] at HG
    clear hpow
    have HT := Lib.hid (fun W => show Calls Tryz.prog 94 #[.string s, .int .i64 ((a : Int) + 2), .int .i64 (n : Int)] W _ from by (have h := there_no s (a + 2) n hin (by omega) (by omega) W); rw [show ((a + 2 : Nat) : Int) = (a : Int) + 2 by omega] at h; exact h)
    have w3 : IntKind.i64.wrap ((a : Int) + 2) = (a : Int) + 2 := IntWalk.i64_in _ (by omega)
    go_enter Tryz.func116, Tryz.ntmps116
    go_wp2_with (first | (go_at_call 61; refine (HG.out _).mono ?_; rintro e w1 ⟨rfl, rfl⟩) | (go_at_call 94; (with_reducible refine (HT.out _).mono ?_); rintro e w1 ⟨rfl, rfl⟩))
    refine bodyPost_ret (v := .tuple #[.string ⟨#[]⟩, .int .i64 0, .bool false]) (by simp [results, Tryz.results116, go_sem]) rfl ⟨rfl, rfl⟩
  · have HG := Lib.hid (fun W => rget_no s a 2 (by omega) (by omega) h2 (by omega) (by omega) W)
    go_enter Tryz.func116, Tryz.ntmps116
    go_wp2_with (go_at_call 61; refine (HG.out _).mono ?_; rintro e w1 ⟨rfl, rfl⟩)
    refine bodyPost_ret (v := .tuple #[.string ⟨#[]⟩, .int .i64 0, .bool false]) (by simp [results, Tryz.results116, go_sem]) rfl ⟨rfl, rfl⟩
def ITextOut (s : ByteArray) (y : ByteArray × Rc.St) (b : Nat) (w : World) (e : Ending) (w' : World) : Prop :=
  e = .returned (.string y.1) ∧ w'.heap[b]? = some (.cells (iC s y.2.at_ y.2.bad) 140 (0, 0)) ∧ KeptB w.heap.size b w w'
set_option maxRecDepth 100000 in
set_option maxHeartbeats 2000000 in
theorem itext_yes (b : Nat) (s : ByteArray) (a : Nat) (bad : Bool) (hm : s.size ≤ 1000000000) (n : Nat) (hn : Oct.getN s.data.toList a 2 = n) (hin : a + 2 + n ≤ s.size) (w : World) (hb : w.heap[b]? = some (.cells (iC s a bad) 140 (0, 0))) :
    Calls Tryz.prog 113 #[.pointer (some ⟨b, 0, none⟩)] w (ITextOut s (s.extract (a + 2) (a + 2 + n), ⟨a + 2 + n, bad⟩) b w) := by
  have HG := Lib.hid (fun W => rgettext_yes s a n hm hn hin W)
  have HX := Lib.hid hb
  clear hb
  go_enter Tryz.func113, Tryz.ntmps113
  go_upto_region 1 with fail
  have X0 := blkOld HX.out (Below.refl _ w).drew
  refine wp_region_held_drew (S := (fun u => u.heap[b]? = some (.cells (iC s a bad) 140 (0, 0)))) (by kernel_rfl) ?_ (fun hHeld => ?_)
  · first | exact hSn | exact X0
  refine tkW 0 (some 7) (v := ?_) rfl ?_ (tkW 1 (some 8) (v := ?_) rfl ?_ (tkW 2 (some 9) (v := ?_) rfl ?_ (tkW 3 (some 10) (v := ?_) rfl ?_ (tkW 4 (some 11) (v := ?_) rfl ?_ (tkW 5 (some 12) (v := ?_) rfl ?_ (tkW 6 (some 13) (v := ?_) rfl ?_ (tkW 7 (some 14) (v := ?_) rfl ?_ ?_)))))))
  iterate 8 (rotate_left; focus (intro u hSu; have hSv := blkCell hSu; clear hSu; go_simp; (try with_reducible rfl)))
  try simp only [Act.put, pS]
  refine rdH 8 (some 15) rfl (fun K hK => ?_)
  go_simp
  refine (HG.out _).mono ?_; rintro e w1 ⟨rfl, rfl⟩; have hSn := X0
  refine hK.out _ _ ?_ (fun hHeld => ?_)
  · first | exact hSn | exact X0
  clear hK K
  try simp only [Act.put, pS]
  refine tkW 9 (some 6) (v := ?_) rfl ?_ (tkW 10 (some 16) (v := ?_) rfl ?_ (tkW 11 (some 17) (v := ?_) rfl ?_ (tkW 12 (some 18) (v := ?_) rfl ?_ (tkW 13 (some 3) (v := ?_) rfl ?_ (tkW 14 (some 4) (v := ?_) rfl ?_ (tkW 15 (some 5) (v := ?_) rfl ?_ ?_))))))
  iterate 7 (rotate_left; focus (intro u hSu; have hSv := blkCell hSu; clear hSu; go_simp; (try with_reducible rfl)))
  try simp only [Act.put, pS]
  refine wpAnyH_done (by kernel_rfl) ?_ _
  clear hHeld hSn
  have hc := blkCell X0
  have hz := blkFrozen X0
  go_wp2_with fail
  go_ret
  have hs := blkSet 1 X0 (.int .i64 ((a + 2 + n : Nat) : Int))
  refine ⟨rfl, ?_, ?_⟩
  · exact hs
  · refine ⟨rfl, rfl, rfl, ?_, fun j hj hne => ?_⟩
    · simp [World.setCell]
    · exact Below.heap_setCell _ _ _ _ hne
set_option maxRecDepth 100000 in
set_option maxHeartbeats 2000000 in
theorem itext_no (b : Nat) (s : ByteArray) (a : Nat) (bad : Bool) (hm : s.size ≤ 1000000000) (ha : a ≤ 2000000000) (hin : ¬ a + 2 + Oct.getN s.data.toList a 2 ≤ s.size) (w : World) (hb : w.heap[b]? = some (.cells (iC s a bad) 140 (0, 0))) :
    Calls Tryz.prog 113 #[.pointer (some ⟨b, 0, none⟩)] w (ITextOut s (⟨#[]⟩, ⟨a, true⟩) b w) := by
  have HG := Lib.hid (fun W => rgettext_no s a hm ha hin W)
  have HX := Lib.hid hb
  clear hb
  go_enter Tryz.func113, Tryz.ntmps113
  go_upto_region 1 with fail
  have X0 := blkOld HX.out (Below.refl _ w).drew
  refine wp_region_held_drew (S := (fun u => u.heap[b]? = some (.cells (iC s a bad) 140 (0, 0)))) (by kernel_rfl) ?_ (fun hHeld => ?_)
  · first | exact hSn | exact X0
  refine tkW 0 (some 7) (v := ?_) rfl ?_ (tkW 1 (some 8) (v := ?_) rfl ?_ (tkW 2 (some 9) (v := ?_) rfl ?_ (tkW 3 (some 10) (v := ?_) rfl ?_ (tkW 4 (some 11) (v := ?_) rfl ?_ (tkW 5 (some 12) (v := ?_) rfl ?_ (tkW 6 (some 13) (v := ?_) rfl ?_ (tkW 7 (some 14) (v := ?_) rfl ?_ ?_)))))))
  iterate 8 (rotate_left; focus (intro u hSu; have hSv := blkCell hSu; clear hSu; go_simp; (try with_reducible rfl)))
  try simp only [Act.put, pS]
  refine rdH 8 (some 15) rfl (fun K hK => ?_)
  go_simp
  refine (HG.out _).mono ?_; rintro e w1 ⟨rfl, rfl⟩; have hSn := X0
  refine hK.out _ _ ?_ (fun hHeld => ?_)
  · first | exact hSn | exact X0
  clear hK K
  try simp only [Act.put, pS]
  refine tkW 9 (some 6) (v := ?_) rfl ?_ (tkW 10 (some 16) (v := ?_) rfl ?_ (tkW 11 (some 17) (v := ?_) rfl ?_ (tkW 12 (some 18) (v := ?_) rfl ?_ (tkW 13 (some 3) (v := ?_) rfl ?_ (tkW 14 (some 4) (v := ?_) rfl ?_ (tkW 15 (some 5) (v := ?_) rfl ?_ ?_))))))
  iterate 7 (rotate_left; focus (intro u hSu; have hSv := blkCell hSu; clear hSu; go_simp; (try with_reducible rfl)))
  try simp only [Act.put, pS]
  refine wpAnyH_done (by kernel_rfl) ?_ _
  clear hHeld hSn
  have hc := blkCell X0
  have hz := blkFrozen X0
  go_wp2_with fail
  go_ret
  have hs := blkSet 2 X0 (.bool true)
  refine ⟨rfl, ?_, ?_⟩
  · exact hs
  · refine ⟨rfl, rfl, rfl, ?_, fun j hj hne => ?_⟩
    · simp [World.setCell]
    · exact Below.heap_setCell _ _ _ _ hne
/-- A text of the reader. -/
theorem itext_any (b : Nat) (s : ByteArray) (x : Rc.St) (hm : s.size ≤ 1000000000) (ha : x.at_ ≤ 2000000000) (w : World) (hb : w.heap[b]? = some (.cells (iC s x.at_ x.bad) 140 (0, 0))) :
    Calls Tryz.prog 113 #[.pointer (some ⟨b, 0, none⟩)] w (ITextOut s (Rc.textM s.data.toList x) b w) := by
  obtain ⟨a, bad⟩ := x
  have hl : s.data.toList.length = s.size := by simp
  by_cases hin : a + 2 + Oct.getN s.data.toList a 2 ≤ s.size
  · have hN : Rc.textM s.data.toList ⟨a, bad⟩ = (s.extract (a + 2) (a + 2 + Oct.getN s.data.toList a 2), (⟨a + 2 + Oct.getN s.data.toList a 2, bad⟩ : Rc.St)) := by
      unfold Rc.textM
      rw [if_pos (by show a + 2 + Oct.getN s.data.toList a 2 ≤ _; omega)]
      congr 1
      apply ByteArray.ext
      rw [ByteArray.data_extract]
      apply Array.toList_inj.1
      rw [Array.toList_extract, List.extract_eq_drop_take']
      simp only
      rw [List.drop_take]
      congr 1
      omega
    rw [hN]
    exact itext_yes b s a bad hm _ rfl hin w hb
  · have hN : Rc.textM s.data.toList ⟨a, bad⟩ = (⟨#[]⟩, (⟨a, true⟩ : Rc.St)) := by unfold Rc.textM; rw [if_neg (by show ¬ a + 2 + Oct.getN s.data.toList a 2 ≤ _; omega)]
    rw [hN]
    exact itext_no b s a bad hm ha hin w hb
end Go.Proofs.YtojaagnfjenhoaaGreat
