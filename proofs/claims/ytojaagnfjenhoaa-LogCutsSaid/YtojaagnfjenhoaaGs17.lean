/- What the statements of the log keep in memory: two boxes (a disk, a log) and two rows (numbers, records). -/
import Derived.Test.YtojaagnfjenhoaaGs16
namespace Lg
open Rc
theorem LInv.bounds {F N : Nat} {d : Dk} {g : Lo} {r1 r2 : List Rec} (h : LInv F N d g r1 r2) : 0 ≤ g.end_ ∧ g.end_ ≤ (N : Int) * 128 ∧ (g.tail.size : Int) ≤ g.end_ ∧ g.end_ % 128 ≤ (g.tail.size : Int) ∧ g.from_ = (F : Int) ∧ g.n = (N : Int) := by
  have h1 := h.end_
  have h2 := h.tail_size
  have h3 := h.fit
  have h4 := bytes_le r1 r2
  refine ⟨by omega, by omega, by omega, by omega, h.hf, h.hn⟩
/-- The disk and the log of the statements. -/
structure PL (d : Dk) (g : Lo) (r1 r2 : List Rec) : Prop where
  inv : LInv 1 24 d g r1 r2
  up : d.down = false
  left : -1 ≤ d.left ∧ d.left ≤ 9223372036854775807
  len : d.sectors.length = 26
theorem PL.small {d : Dk} {g : Lo} {r1 r2 : List Rec} (h : PL d g r1 r2) : ∀ b ∈ d.sectors, b.size ≤ 128 := fun b hb => Nat.le_of_eq (h.inv.whole b hb)
theorem PL.bounds {d : Dk} {g : Lo} {r1 r2 : List Rec} (h : PL d g r1 r2) : 0 ≤ g.end_ ∧ g.end_ ≤ 3072 ∧ (g.tail.size : Int) ≤ g.end_ ∧ g.end_ % 128 ≤ (g.tail.size : Int) ∧ g.from_ = 1 ∧ g.n = 24 := by
  obtain ⟨h1, h2, h3, h4, h5, h6⟩ := h.inv.bounds
  exact ⟨h1, by omega, h3, h4, by rw [h5]; rfl, by rw [h6]; rfl⟩
theorem LInv.readAt {F N : Nat} {d : Dk} {g : Lo} {r1 r2 rs : List Rec} (h : LInv F N d g r1 r2) (hd : d.down = false) (hrs : rs = r1 ++ r2) (j : Nat) (hj : j < rs.length) : readL d g rs[j].lsn = .ok rs[j] := by
  have e : r1 ++ r2 = rs.take j ++ rs[j] :: rs.drop (j + 1) := by
    rw [← hrs, ← List.drop_eq_getElem_cons, List.take_append_drop]
  obtain ⟨h1, h2⟩ := h.read hd _ _ _ e
  rw [h1]; exact h2
/-- What Append and Force do to the disk and the log of the statements. -/
theorem PL.append {d : Dk} {g : Lo} {r1 r2 : List Rec} (h : PL d g r1 r2) (r : Rec) :
    (appendD g r = (g, 0, 1)) ∨ (appendD g r = (g, 0, 18)) ∨ ∃ g2, appendD g r = (g2, g.end_ + 1, 0) ∧ PL d g2 r1 (r2 ++ [{ r with lsn := g.end_ + 1 }]) := by
  rcases h.inv.append r with h1 | h1 | ⟨h1, h2⟩
  · exact .inl h1
  · exact .inr (.inl h1)
  · refine .inr (.inr ⟨(appendD g r).1, ?_, h2, h.up, h.left, h.len⟩)
    rw [← h1]
theorem forceD_left {d : Dk} {g : Lo} (h : d.left ≤ 9223372036854775807) : (forceD d g).1.left ≤ 9223372036854775807 := by
  have key : ∀ base all i (d : Dk), d.left ≤ 9223372036854775807 → (putAll base all i d).1.left ≤ 9223372036854775807 := by
    intro base all i
    induction i with
    | zero => intro d h; exact h
    | succ i ih =>
      intro d h
      have hw : (writeD d (base + (i : Int)) (all[i]?.getD ⟨#[]⟩)).1.left ≤ 9223372036854775807 := by
        unfold writeD
        split
        · exact h
        · split
          · exact h
          · split
            · exact h
            · simp only; split <;> omega
      unfold putAll
      split
      · exact ih _ hw
      · exact hw
  unfold forceD
  split
  · exact h
  · simp only
    split <;> exact key _ _ _ _ h
theorem PL.force {d : Dk} {g : Lo} {r1 r2 : List Rec} (h : PL d g r1 r2) :
    (∃ d2 g2, forceD d g = (d2, g2, 0) ∧ PL d2 g2 (r1 ++ r2) [] ∧ (d.left = -1 → d2.left = -1) ∧ g2.safe = g2.end_ ∧ (Lies (logS 1 24 d) r1 ∨ r2 ≠ [] → Lies (logS 1 24 d2) (r1 ++ r2))) ∨
    (∃ d2, forceD d g = (d2, g, 20) ∧ r2 ≠ [] ∧ d.left ≠ -1 ∧ Whole d2.sectors ∧ d2.sectors.length = 26 ∧ ∃ n q, Lies n (r1 ++ r2) ∧ n.length = 24 * 128 ∧ logS 1 24 d2 = mix (logS 1 24 d) n q) := by
  have hleft := forceD_left (d := d) (g := g) h.left.2
  rcases h.inv.force h.up h.left.1 with ⟨a1, a2, a3, a4, a5, a6, a7, a8⟩ | ⟨a1, a2, a3, a4, a5, a6, a7⟩
  · refine .inl ⟨(forceD d g).1, (forceD d g).2.1, ?_, ⟨a2, a3, ⟨a4, hleft⟩, a6.trans h.len⟩, a5, a7, a8⟩
    rw [← a1]
  · refine .inr ⟨(forceD d g).1, ?_, a2, a4, a5, a6.trans h.len, a7⟩
    have e : forceD d g = ((forceD d g).1, (forceD d g).2.1, (forceD d g).2.2) := rfl
    rw [a3, a1] at e
    exact e
theorem newD_whole (n : Nat) : Whole (newD n).sectors := fun b hb => by
  have : b = zero128 := by
    have h := List.mem_replicate.1 hb
    exact h.2
  rw [this]; exact zero128_size
theorem PL.new : PL (newD 26) ⟨1, 24, 0, 0, ⟨#[]⟩⟩ [] [] :=
  ⟨LInv.new (newD_whole 26) (by show 1 + 24 ≤ (List.replicate 26 zero128).length; rw [List.length_replicate]; omega), rfl, ⟨Int.le_refl _, by show (-1 : Int) ≤ _; omega⟩, by show (List.replicate 26 zero128).length = 26; rw [List.length_replicate]⟩
end Lg
namespace Go.Proofs.Ytojaagnfjenhoaa
open Go.RowKit
def intC (n : Int) : List Value := [.int .i64 n]
theorem intC_len (n : Int) : (intC n).length = 1 := rfl
theorem info_int : (Try.prog.info? 3).map (fun i => (i.zero, i.size, i.bytes)) = some (some (.int .i64 0), 1, 8) := by kernel_rfl
abbrev diskA (d : Lg.Dk) (A : Option Addr) (c : Nat) : Array Value := #[.slice A d.sectors.length c, .int .i64 d.left, .bool d.down]
abbrev logA (l : Lg.Lo) : Array Value := #[.int .i64 l.from_, .int .i64 l.n, .int .i64 l.end_, .int .i64 l.safe, .string l.tail]
/-- The memory of a statement: block bd is the disk's box, block bl the log's; behind these lie a row of numbers and a row of records. -/
structure StR (bd bl : Nat) (w u : World) (va vi : Value) (d : Lg.Dk) (A : Option Addr) (c : Nat) (g : Lg.Lo) (la : List Int) (ps : List PRec) : Prop where
  disk : u.heap[bd]? = some (.cells (diskA d A c) 24 (0, 0))
  log : u.heap[bl]? = some (.cells (logA g) 28 (0, 0))
  lo : w.heap.size ≤ bd
  lt : bd < bl
  low : Below w.heap.size w u
  dk : DiskR u d A c
  dt : NewT 0 u 9 A
  ra : OwnL intC 1 3 (bl + 1) u va la
  ri : OwnL recC 18 49 (bl + 1) u vi ps
theorem box_grown {u v : World} {n m size B0 : Nat} {e : TypeId} {x : Value} {xs : List Value} {o : Obj} (ho : u.heap[n]? = some o) (_ : u.ownsRow B0 e size x m xs) (hne : x.ownBlock ≠ some n) (hg : u.grownBy v x.ownBlock) : v.heap[n]? = some o :=
  (hg.block n (heapLt ho) (fun e1 => hne e1.symm)).trans ho
theorem own_old {u : World} {n m size B0 : Nat} {e : TypeId} {x : Value} {xs : List Value} (h : u.ownsRow B0 e size x m xs) (hn : u.heap.size ≤ n) : x.ownBlock ≠ some n := by
  rcases h.2 with ⟨rfl, _⟩ | ⟨g', cap, cur, rfl, _, hh, _⟩
  · simp [Value.ownBlock]
  · intro he
    have hgg : g' = n := by simpa [Value.ownBlock] using he
    have := heapLt hh
    omega
/-- A row of the call's own stays, where its block does. -/
theorem ownAway {u v : World} {n size B0 : Nat} {e : TypeId} {x : Value} {xs : List Value} (h : u.ownsRow B0 e size x n xs) (hk : ∀ k, x.ownBlock = some k → v.heap[k]? = u.heap[k]?) : v.ownsRow B0 e size x n xs := by
  refine ⟨h.1, ?_⟩
  rcases h.2 with hz | ⟨g', cap, cur, hv, hg, hh, r⟩
  · exact .inl hz
  · exact .inr ⟨g', cap, cur, hv, hg, (hk g' (by rw [hv]; rfl)).trans hh, r⟩
theorem range_blk {w u : World} {b : Nat} {cs : Array Value} {T : TypeId} {fr : Nat × Nat} (h : w.heap[b]? = some (.cells cs T fr)) (hb : Below w.heap.size w u) : u.rangeAt b 0 cs.toList := fun j v hj => by
  rw [Nat.zero_add, hb.cell (p := ⟨b, j, none⟩) (heapLt h), blkCell h]
  simpa using hj
section
variable {bd bl : Nat} {w u v : World} {va vi : Value} {d : Lg.Dk} {A : Option Addr} {c : Nat} {g : Lg.Lo} {la : List Int} {ps : List PRec}
theorem StR.step (h : StR bd bl w u va vi d A c g la ps) (hb : Below u.heap.size u v) : StR bd bl w v va vi d A c g la ps :=
  ⟨blkOld h.disk hb, blkOld h.log hb, h.lo, h.lt, joinB h.low hb, h.dk.below hb, h.dt.below hb, ownBelow h.ra hb, ownBelow h.ri hb⟩
theorem StR.drew (h : StR bd bl w u va vi d A c g la ps) : StR bd bl w u.drew va vi d A c g la ps := h.step (Below.refl _ _).drew
theorem StR.past (h : StR bd bl w u va vi d A c g la ps) : bl < u.heap.size := heapLt h.log
/-- The first state: the log's box is new. -/
theorem StR.new {u' : World} (hd : u.heap[bd]? = some (.cells (diskA d A c) 24 (0, 0))) (hw : w.heap.size ≤ bd) (hb : Below w.heap.size w u) (hk : DiskR u d A c) (ht : NewT 0 u 9 A) (hu : Below u.heap.size u u') : StR bd u'.heap.size w (u'.alloc (.cells (logA g) 28)) (.slice none 0 0) (.slice none 0 0) d A c g [] [] := by
  have h1 := heapLt hd
  have h2 := pastAlloc (o := .cells (logA g) 28) hu
  exact ⟨blkOld hd h2, heap_alloc_new _ _, hw, by have := hu.size; omega, joinB hb h2, hk.below h2, ht.below h2, ownNil _ _ _ _, ownNil _ _ _ _⟩
theorem StR.pushA {va' : Value} {n : Int} (h : StR bd bl w u va vi d A c g la ps) (ho : OwnL intC 1 3 (bl + 1) v va' (la ++ [n])) (hg : u.grownBy v va.ownBlock) (hb : Below (bl + 1) u v) : StR bd bl w v va' vi d A c g (la ++ [n]) ps := by
  have h1 := h.lt
  have h2 := h.lo
  exact ⟨(hb.block _ (by omega)).trans h.disk, (hb.block _ (by omega)).trans h.log, h.lo, h.lt, h.low.trans (hb.mono (by omega)), ⟨h.dt.reads h.dk.secs h.ra (by decide) hg, h.dk.small⟩, h.dt.grown h.ra (by decide) hg, ho, ownGrown h.ri h.ra (by decide) hg⟩
theorem StR.pushI {vi' : Value} {p : PRec} (h : StR bd bl w u va vi d A c g la ps) (ho : OwnL recC 18 49 (bl + 1) v vi' (ps ++ [p])) (hg : u.grownBy v vi.ownBlock) (hb : Below (bl + 1) u v) : StR bd bl w v va vi' d A c g la (ps ++ [p]) := by
  have h1 := h.lt
  have h2 := h.lo
  exact ⟨(hb.block _ (by omega)).trans h.disk, (hb.block _ (by omega)).trans h.log, h.lo, h.lt, h.low.trans (hb.mono (by omega)), ⟨h.dt.reads h.dk.secs h.ri (by decide) hg, h.dk.small⟩, h.dt.grown h.ri (by decide) hg, ownGrown h.ra h.ri (by decide) hg, ho⟩
theorem below_setRow {M b : Nat} {w u : World} (h : Below M w u) (hb : M ≤ b) (cs : Array Value) : Below M w (u.setRow b cs) :=
  ⟨h.os, h.tape, h.output, by show _ ≤ (u.heap.modify _ _).size; have := h.size; simpa using this, fun k hk => (heap_setRow_other _ _ _ _ (by omega)).trans (h.block k hk)⟩
/-- A block of another kind is written. -/
theorem StR.other {b : Nat} {cur : Array Value} {T : TypeId} {fr : Nat × Nat} (h : StR bd bl w u va vi d A c g la ps) (hb : u.heap[b]? = some (.cells cur T fr)) (h1 : 3 ≠ T) (h2 : T ≠ 9) (h3 : vi.ownBlock ≠ some b) (h4 : bl < b) (cs : Array Value) : StR bd bl w (u.setRow b cs) va vi d A c g la ps := by
  have h5 := h.lt
  have h6 := h.lo
  exact ⟨(heap_setRow_other _ _ _ _ (by omega)).trans h.disk, (heap_setRow_other _ _ _ _ (by omega)).trans h.log, h.lo, h.lt, below_setRow h.low (by omega) _, ⟨h.dt.readsRow h.dk.secs hb h2 _, h.dk.small⟩, h.dt.row _ _, ownOther h.ra hb h1 _, ownAway h.ri (fun k hk => heap_setRow_other _ _ _ _ (fun e => h3 (by rw [hk, e])))⟩
/-- The log's box is written. -/
theorem StR.setLog (h : StR bd bl w u va vi d A c g la ps) (g' : Lg.Lo) : StR bd bl w (u.setRow bl (logA g')) va vi d A c g' la ps := by
  have h1 := h.lt
  have h2 := h.lo
  exact ⟨(heap_setRow_other _ _ _ _ (by omega)).trans h.disk, setRow_heap _ _ _ _ _ _ h.log, h.lo, h.lt, below_setRow h.low (by omega) _, ⟨h.dt.readsRow h.dk.secs h.log (by decide) _, h.dk.small⟩, h.dt.row _ _, ownRowOff h.ra _ _ (by omega), ownRowOff h.ri _ _ (by omega)⟩
/-- The disk's box is written; the new disk is in memory. -/
theorem StR.setDisk {d' : Lg.Dk} {A' : Option Addr} {c' : Nat} (h : StR bd bl w u va vi d A c g la ps) (hd : DiskR u d' A' c') (ht : NewT 0 u 9 A') : StR bd bl w (u.setRow bd (diskA d' A' c')) va vi d' A' c' g la ps := by
  have h1 := h.lt
  have h2 := h.lo
  exact ⟨setRow_heap _ _ _ _ _ _ h.disk, (heap_setRow_other _ _ _ _ (by omega)).trans h.log, h.lo, h.lt, below_setRow h.low (by omega) _, ⟨ht.readsRow hd.secs h.disk (by decide) _, hd.small⟩, ht.row _ _, ownRowOff h.ra _ _ (by omega), ownRowOff h.ri _ _ (by omega)⟩
/-- What Force answers is laid into both boxes. -/
theorem StR.forced {u' : World} {d' : Lg.Dk} {A' : Option Addr} {c' : Nat} {g' : Lg.Lo} (h : StR bd bl w u va vi d A c g la ps) (hd : DiskR u' d' A' c') (ht : A' = A ∨ NewT u.heap.size u' 9 A') (hb : Below u.heap.size u u') :
    StR bd bl w ((u'.setRow bd (diskA d' A' c')).setRow bl (logA g')) va vi d' A' c' g' la ps :=
  (((h.step hb).setDisk hd (ht.elim (fun e => by rw [e]; exact h.dt.below hb) (fun e => e.mono (Nat.zero_le _)))).setLog g')
end
end Go.Proofs.Ytojaagnfjenhoaa
