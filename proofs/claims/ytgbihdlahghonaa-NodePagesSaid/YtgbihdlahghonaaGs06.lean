/- The invariant of look's three appends in one statement, and what each operation does to it. -/
import Derived.Test.YtgbihdlahghonaaGs05
import Derived.Deep.MidRow
import Derived.Great.BuildSlice
namespace Go.Proofs.Ytgbihdlahghonaa
open Go.RowKit

/-- Entries, one behind the other, in a row's cells. -/
def entCells (l : List Nd.Entry) : List Value := l.flatMap fun e => [.string e.key, .int .i64 e.page, .int .i64 e.slot]
theorem entCells_length (l : List Nd.Entry) : (entCells l).length = 3 * l.length := by
  induction l with
  | nil => rfl
  | cons e l ih => simp [entCells] at ih ⊢; omega
theorem entCells_append (a b : List Nd.Entry) : entCells (a ++ b) = entCells a ++ entCells b := by simp [entCells]
abbrev OwnEs (B : Nat) (w : World) (v : Value) (l : List Nd.Entry) : Prop := w.ownsRow B 45 3 v l.length (entCells l)
abbrev OwnIs (B : Nat) (w : World) (v : Value) (l : List Int) : Prop := w.ownsRow B 3 1 v l.length (l.map (Value.int .i64))

/-- The data of the statement. -/
structure Dat where
  X : Nat
  Y : Nat
  Z : Nat
  B : Nat
  lf : Bool
  v1 : Value
  v2 : Value
  v3 : Value
  rs : List ByteArray
  es : List Nd.Entry
  is : List Int
  r : ByteArray
  e : Nd.Entry
  c : Int
  w0 : World
variable (d : Dat)
/-- What holds of the slots and the world, by which operations have come up. -/
structure Reg (b : Nat → Bool) (y : Nat → Value) (w : World) : Prop where
  a0 : b 0 = true → y 60 = .pointer (some ⟨d.Y, 1, none⟩)
  a1 : b 1 = true → y 61 = d.v1
  a2 : b 2 = true → y 62 = .string d.r
  a3 : b 3 = true → b 4 = false → ∃ g, y 63 = .slice (some ⟨g, 0, none⟩) 1 1 ∧ w.heap[g]? = some (.cells #[.string d.r] 9 (0, 0))
  a4 : b 4 = true → OwnT d.B w (y 64) (d.rs ++ [d.r])
  o1 : b 4 = false → OwnT d.B w d.v1 d.rs
  b5 : b 5 = true → y 65 = .pointer (some ⟨d.Y, 2, none⟩)
  b6 : b 6 = true → y 66 = d.v2
  b7 : b 7 = true → y 67 = entV d.e
  b8 : b 8 = true → b 9 = false → ∃ g, y 68 = .slice (some ⟨g, 0, none⟩) 1 1 ∧ w.heap[g]? = some (.cells #[.string d.e.key, .int .i64 d.e.page, .int .i64 d.e.slot] 45 (0, 0)) ∧ d.v2.ownBlock ≠ some g
  b9 : b 9 = true → OwnEs d.B w (y 69) (d.es ++ [d.e])
  o2 : b 9 = false → OwnEs d.B w d.v2 d.es
  c10 : b 10 = true → y 70 = .pointer (some ⟨d.Y, 3, none⟩)
  c11 : b 11 = true → y 71 = d.v3
  c12 : b 12 = true → y 72 = .int .i64 d.c
  c13 : b 13 = true → b 14 = false → ∃ g, y 73 = .slice (some ⟨g, 0, none⟩) 1 1 ∧ w.heap[g]? = some (.cells #[.int .i64 d.c] 3 (0, 0)) ∧ d.v3.ownBlock ≠ some g
  c14 : b 14 = true → OwnIs d.B w (y 74) (d.is ++ [d.c])
  o3 : b 14 = false → OwnIs d.B w d.v3 d.is
  s15 : b 15 = true → y 75 = .pointer (some ⟨d.Y, 1, none⟩)
  s17 : b 17 = true → y 76 = .pointer (some ⟨d.Y, 2, none⟩)
  s19 : b 19 = true → y 77 = .pointer (some ⟨d.Y, 3, none⟩)
  box : w.heap[d.Y]? = some (.cells #[.bool d.lf, if b 16 then y 64 else d.v1, if b 18 then y 69 else d.v2, if b 20 then y 74 else d.v3] 86 (0, 0))
  st : b 16 = true ∨ b 18 = true ∨ b 20 = true → b 4 = true ∧ b 9 = true ∧ b 14 = true
  cl : (b 8 = true → b 7 = true) ∧ (b 9 = true → b 8 = true) ∧ (b 14 = true → b 9 = true)
  la : (b 4 = true → b 1 = true) ∧ (b 9 = true → b 6 = true ∧ b 4 = true) ∧ (b 14 = true → b 11 = true)
  zc : b 7 = false → w.heap[d.Z]? = some (.cells #[.string d.e.key, .int .i64 d.e.page, .int .i64 d.e.slot] 45 (0, 0))
  xc : w.heap[d.X]? = some (.cells #[.bool false, .slice none 0 0, .slice none 0 0, .slice none 0 0] 86 (0, 0))
  bs : d.B ≤ w.heap.size
  low : d.w0.heap.size ≤ d.X ∧ d.X < d.Y ∧ d.Y < d.B ∧ d.B ≤ d.Z
  bw : Below d.w0.heap.size d.w0 w
variable {d}
variable {b : Nat → Bool} {y : Nat → Value} {w : World}
theorem Reg.p0 (h : Reg d b y w) : Reg d (on b 0) (turn y 60 (.pointer (some ⟨d.Y, 1, none⟩))) w :=
  { a0 := fun _ => rfl, a1 := h.a1, a2 := h.a2, a3 := h.a3, a4 := h.a4, o1 := h.o1, b5 := h.b5, b6 := h.b6, b7 := h.b7, b8 := h.b8, b9 := h.b9, o2 := h.o2, c10 := h.c10, c11 := h.c11, c12 := h.c12, c13 := h.c13, c14 := h.c14, o3 := h.o3, s15 := h.s15, s17 := h.s17, s19 := h.s19, box := h.box, st := h.st, cl := h.cl, la := h.la, zc := h.zc, xc := h.xc, bs := h.bs, low := h.low, bw := h.bw }
theorem Reg.p1 (h : Reg d b y w) : Reg d (on b 1) (turn y 61 (d.v1)) w :=
  { a0 := h.a0, a1 := fun _ => rfl, a2 := h.a2, a3 := h.a3, a4 := h.a4, o1 := h.o1, b5 := h.b5, b6 := h.b6, b7 := h.b7, b8 := h.b8, b9 := h.b9, o2 := h.o2, c10 := h.c10, c11 := h.c11, c12 := h.c12, c13 := h.c13, c14 := h.c14, o3 := h.o3, s15 := h.s15, s17 := h.s17, s19 := h.s19, box := h.box, st := h.st, cl := h.cl, la := ⟨fun _ => rfl, h.la.2⟩, zc := h.zc, xc := h.xc, bs := h.bs, low := h.low, bw := h.bw }
theorem Reg.p2 (h : Reg d b y w) : Reg d (on b 2) (turn y 62 (.string d.r)) w :=
  { a0 := h.a0, a1 := h.a1, a2 := fun _ => rfl, a3 := h.a3, a4 := h.a4, o1 := h.o1, b5 := h.b5, b6 := h.b6, b7 := h.b7, b8 := h.b8, b9 := h.b9, o2 := h.o2, c10 := h.c10, c11 := h.c11, c12 := h.c12, c13 := h.c13, c14 := h.c14, o3 := h.o3, s15 := h.s15, s17 := h.s17, s19 := h.s19, box := h.box, st := h.st, cl := h.cl, la := h.la, zc := h.zc, xc := h.xc, bs := h.bs, low := h.low, bw := h.bw }
theorem Reg.p5 (h : Reg d b y w) : Reg d (on b 5) (turn y 65 (.pointer (some ⟨d.Y, 2, none⟩))) w :=
  { a0 := h.a0, a1 := h.a1, a2 := h.a2, a3 := h.a3, a4 := h.a4, o1 := h.o1, b5 := fun _ => rfl, b6 := h.b6, b7 := h.b7, b8 := h.b8, b9 := h.b9, o2 := h.o2, c10 := h.c10, c11 := h.c11, c12 := h.c12, c13 := h.c13, c14 := h.c14, o3 := h.o3, s15 := h.s15, s17 := h.s17, s19 := h.s19, box := h.box, st := h.st, cl := h.cl, la := h.la, zc := h.zc, xc := h.xc, bs := h.bs, low := h.low, bw := h.bw }
theorem Reg.p6 (h : Reg d b y w) : Reg d (on b 6) (turn y 66 (d.v2)) w :=
  { a0 := h.a0, a1 := h.a1, a2 := h.a2, a3 := h.a3, a4 := h.a4, o1 := h.o1, b5 := h.b5, b6 := fun _ => rfl, b7 := h.b7, b8 := h.b8, b9 := h.b9, o2 := h.o2, c10 := h.c10, c11 := h.c11, c12 := h.c12, c13 := h.c13, c14 := h.c14, o3 := h.o3, s15 := h.s15, s17 := h.s17, s19 := h.s19, box := h.box, st := h.st, cl := h.cl, la := ⟨h.la.1, fun q => ⟨rfl, (h.la.2.1 q).2⟩, h.la.2.2⟩, zc := h.zc, xc := h.xc, bs := h.bs, low := h.low, bw := h.bw }
theorem Reg.p7 (h : Reg d b y w) : Reg d (on b 7) (turn y 67 (entV d.e)) w :=
  { a0 := h.a0, a1 := h.a1, a2 := h.a2, a3 := h.a3, a4 := h.a4, o1 := h.o1, b5 := h.b5, b6 := h.b6, b7 := fun _ => rfl, b8 := h.b8, b9 := h.b9, o2 := h.o2, c10 := h.c10, c11 := h.c11, c12 := h.c12, c13 := h.c13, c14 := h.c14, o3 := h.o3, s15 := h.s15, s17 := h.s17, s19 := h.s19, box := h.box, st := h.st, cl := ⟨fun _ => rfl, h.cl.2⟩, la := h.la, zc := fun h0 => absurd h0 (by simp [on]), xc := h.xc, bs := h.bs, low := h.low, bw := h.bw }
theorem Reg.p10 (h : Reg d b y w) : Reg d (on b 10) (turn y 70 (.pointer (some ⟨d.Y, 3, none⟩))) w :=
  { a0 := h.a0, a1 := h.a1, a2 := h.a2, a3 := h.a3, a4 := h.a4, o1 := h.o1, b5 := h.b5, b6 := h.b6, b7 := h.b7, b8 := h.b8, b9 := h.b9, o2 := h.o2, c10 := fun _ => rfl, c11 := h.c11, c12 := h.c12, c13 := h.c13, c14 := h.c14, o3 := h.o3, s15 := h.s15, s17 := h.s17, s19 := h.s19, box := h.box, st := h.st, cl := h.cl, la := h.la, zc := h.zc, xc := h.xc, bs := h.bs, low := h.low, bw := h.bw }
theorem Reg.p11 (h : Reg d b y w) : Reg d (on b 11) (turn y 71 (d.v3)) w :=
  { a0 := h.a0, a1 := h.a1, a2 := h.a2, a3 := h.a3, a4 := h.a4, o1 := h.o1, b5 := h.b5, b6 := h.b6, b7 := h.b7, b8 := h.b8, b9 := h.b9, o2 := h.o2, c10 := h.c10, c11 := fun _ => rfl, c12 := h.c12, c13 := h.c13, c14 := h.c14, o3 := h.o3, s15 := h.s15, s17 := h.s17, s19 := h.s19, box := h.box, st := h.st, cl := h.cl, la := ⟨h.la.1, h.la.2.1, fun _ => rfl⟩, zc := h.zc, xc := h.xc, bs := h.bs, low := h.low, bw := h.bw }
theorem Reg.p12 (h : Reg d b y w) : Reg d (on b 12) (turn y 72 (.int .i64 d.c)) w :=
  { a0 := h.a0, a1 := h.a1, a2 := h.a2, a3 := h.a3, a4 := h.a4, o1 := h.o1, b5 := h.b5, b6 := h.b6, b7 := h.b7, b8 := h.b8, b9 := h.b9, o2 := h.o2, c10 := h.c10, c11 := h.c11, c12 := fun _ => rfl, c13 := h.c13, c14 := h.c14, o3 := h.o3, s15 := h.s15, s17 := h.s17, s19 := h.s19, box := h.box, st := h.st, cl := h.cl, la := h.la, zc := h.zc, xc := h.xc, bs := h.bs, low := h.low, bw := h.bw }
theorem Reg.p15 (h : Reg d b y w) : Reg d (on b 15) (turn y 75 (.pointer (some ⟨d.Y, 1, none⟩))) w :=
  { a0 := h.a0, a1 := h.a1, a2 := h.a2, a3 := h.a3, a4 := h.a4, o1 := h.o1, b5 := h.b5, b6 := h.b6, b7 := h.b7, b8 := h.b8, b9 := h.b9, o2 := h.o2, c10 := h.c10, c11 := h.c11, c12 := h.c12, c13 := h.c13, c14 := h.c14, o3 := h.o3, s15 := fun _ => rfl, s17 := h.s17, s19 := h.s19, box := h.box, st := h.st, cl := h.cl, la := h.la, zc := h.zc, xc := h.xc, bs := h.bs, low := h.low, bw := h.bw }
theorem Reg.p17 (h : Reg d b y w) : Reg d (on b 17) (turn y 76 (.pointer (some ⟨d.Y, 2, none⟩))) w :=
  { a0 := h.a0, a1 := h.a1, a2 := h.a2, a3 := h.a3, a4 := h.a4, o1 := h.o1, b5 := h.b5, b6 := h.b6, b7 := h.b7, b8 := h.b8, b9 := h.b9, o2 := h.o2, c10 := h.c10, c11 := h.c11, c12 := h.c12, c13 := h.c13, c14 := h.c14, o3 := h.o3, s15 := h.s15, s17 := fun _ => rfl, s19 := h.s19, box := h.box, st := h.st, cl := h.cl, la := h.la, zc := h.zc, xc := h.xc, bs := h.bs, low := h.low, bw := h.bw }
theorem Reg.p19 (h : Reg d b y w) : Reg d (on b 19) (turn y 77 (.pointer (some ⟨d.Y, 3, none⟩))) w :=
  { a0 := h.a0, a1 := h.a1, a2 := h.a2, a3 := h.a3, a4 := h.a4, o1 := h.o1, b5 := h.b5, b6 := h.b6, b7 := h.b7, b8 := h.b8, b9 := h.b9, o2 := h.o2, c10 := h.c10, c11 := h.c11, c12 := h.c12, c13 := h.c13, c14 := h.c14, o3 := h.o3, s15 := h.s15, s17 := h.s17, s19 := fun _ => rfl, box := h.box, st := h.st, cl := h.cl, la := h.la, zc := h.zc, xc := h.xc, bs := h.bs, low := h.low, bw := h.bw }

theorem own_blk_ne {w : World} {B g n size : Nat} {e t : TypeId} {v : Value} {xs : List Value} {cs : Array Value} {fr : Nat × Nat} (h : w.ownsRow B e size v n xs) (hg : w.heap[g]? = some (.cells cs t fr)) (hne : e ≠ t) : v.ownBlock ≠ some g := by
  rcases h.2 with ⟨rfl, _⟩ | ⟨g', cap, cur, rfl, _, hh, _⟩
  · simp [Value.ownBlock]
  · intro he
    have hgg : g' = g := by simpa [Value.ownBlock] using he
    subst hgg
    rw [hh] at hg
    injection hg with hg
    injection hg with _ ht
    exact hne ht
theorem own_own_ne {w : World} {B B' n m size size' : Nat} {e t : TypeId} {v u : Value} {xs ys : List Value} (h : w.ownsRow B e size v n xs) (k : w.ownsRow B' t size' u m ys) (hne : e ≠ t) : v.ownBlock = none ∨ v.ownBlock ≠ u.ownBlock := by
  rcases h.2 with ⟨rfl, _⟩ | ⟨g', cap, cur, rfl, _, hh, _⟩
  · exact .inl (by simp [Value.ownBlock])
  · right
    intro he
    have := own_blk_ne k hh (fun e => hne e.symm)
    exact this (by rw [← he]; simp [Value.ownBlock])
theorem heap_lt {w : World} {g : Nat} {o : Obj} (h : w.heap[g]? = some o) : g < w.heap.size := (Array.getElem?_eq_some_iff.1 h).1
theorem grown_at {w w' : World} {row : Option Nat} {g : Nat} {o : Obj} (hg : w.grownBy w' row) (h : w.heap[g]? = some o) (hne : row ≠ some g) : w'.heap[g]? = some o :=
  (hg.block g (heap_lt h) (fun e => hne e.symm)).trans h

/-- A new block. -/
theorem Reg.grow {w' : World} (h : Reg d b y w) (hb : Below w.heap.size w w') : Reg d b y w' :=
  { a0 := h.a0, a1 := h.a1, a2 := h.a2, a3 := fun p q => (by obtain ⟨g, h1, h2⟩ := h.a3 p q; exact ⟨g, h1, blk_old h2 hb⟩), a4 := fun p => ownsRow_below (h.a4 p) hb, o1 := fun p => ownsRow_below (h.o1 p) hb,
    b5 := h.b5, b6 := h.b6, b7 := h.b7, b8 := fun p q => (by obtain ⟨g, h1, h2, h3⟩ := h.b8 p q; exact ⟨g, h1, blk_old h2 hb, h3⟩), b9 := fun p => ownsRow_below (h.b9 p) hb, o2 := fun p => ownsRow_below (h.o2 p) hb,
    c10 := h.c10, c11 := h.c11, c12 := h.c12, c13 := fun p q => (by obtain ⟨g, h1, h2, h3⟩ := h.c13 p q; exact ⟨g, h1, blk_old h2 hb, h3⟩), c14 := fun p => ownsRow_below (h.c14 p) hb, o3 := fun p => ownsRow_below (h.o3 p) hb,
    s15 := h.s15, s17 := h.s17, s19 := h.s19, box := blk_old h.box hb, st := h.st, cl := h.cl, la := h.la, zc := fun p => blk_old (h.zc p) hb, xc := blk_old h.xc hb, bs := Nat.le_trans h.bs hb.size, low := h.low, bw := andThen h.bw hb }
theorem Reg.p3 {w' : World} (h : Reg d b y w) (hb : Below w.heap.size w w') (hn : w'.heap[w.heap.size]? = some (.cells #[.string d.r] 9 (0, 0))) : Reg d (on b 3) (turn y 63 (.slice (some ⟨w.heap.size, 0, none⟩) 1 1)) w' :=
  have k := h.grow hb
  { a0 := k.a0, a1 := k.a1, a2 := k.a2, a3 := fun _ _ => ⟨_, rfl, hn⟩, a4 := k.a4, o1 := k.o1, b5 := k.b5, b6 := k.b6, b7 := k.b7, b8 := k.b8, b9 := k.b9, o2 := k.o2, c10 := k.c10, c11 := k.c11, c12 := k.c12, c13 := k.c13, c14 := k.c14, o3 := k.o3, s15 := k.s15, s17 := k.s17, s19 := k.s19, box := k.box, st := k.st, cl := k.cl, la := k.la, zc := k.zc, xc := k.xc, bs := k.bs, low := k.low, bw := k.bw }
theorem Reg.p8 {w' : World} (h : Reg d b y w) (h7 : b 7 = true) (hb : Below w.heap.size w w') (hn : w'.heap[w.heap.size]? = some (.cells #[.string d.e.key, .int .i64 d.e.page, .int .i64 d.e.slot] 45 (0, 0))) : Reg d (on b 8) (turn y 68 (.slice (some ⟨w.heap.size, 0, none⟩) 1 1)) w' :=
  have k := h.grow hb
  { a0 := k.a0, a1 := k.a1, a2 := k.a2, a3 := k.a3, a4 := k.a4, o1 := k.o1, b5 := k.b5, b6 := k.b6, b7 := k.b7, b8 := fun _ q => ⟨_, rfl, hn, fun e0 => by have := ((h.o2 q).lt _ e0).2; omega⟩, b9 := k.b9, o2 := k.o2, c10 := k.c10, c11 := k.c11, c12 := k.c12, c13 := k.c13, c14 := k.c14, o3 := k.o3, s15 := k.s15, s17 := k.s17, s19 := k.s19, box := k.box, st := k.st, cl := ⟨fun _ => h7, fun _ => rfl, k.cl.2.2⟩, la := k.la, zc := k.zc, xc := k.xc, bs := k.bs, low := k.low, bw := k.bw }
theorem Reg.p13 {w' : World} (h : Reg d b y w) (hb : Below w.heap.size w w') (hn : w'.heap[w.heap.size]? = some (.cells #[.int .i64 d.c] 3 (0, 0))) : Reg d (on b 13) (turn y 73 (.slice (some ⟨w.heap.size, 0, none⟩) 1 1)) w' :=
  have k := h.grow hb
  { a0 := k.a0, a1 := k.a1, a2 := k.a2, a3 := k.a3, a4 := k.a4, o1 := k.o1, b5 := k.b5, b6 := k.b6, b7 := k.b7, b8 := k.b8, b9 := k.b9, o2 := k.o2, c10 := k.c10, c11 := k.c11, c12 := k.c12, c13 := fun _ q => ⟨_, rfl, hn, fun e0 => by have := ((h.o3 q).lt _ e0).2; omega⟩, c14 := k.c14, o3 := k.o3, s15 := k.s15, s17 := k.s17, s19 := k.s19, box := k.box, st := k.st, cl := k.cl, la := k.la, zc := k.zc, xc := k.xc, bs := k.bs, low := k.low, bw := k.bw }
theorem Reg.p4 {w' : World} {v' : Value} (h : Reg d b y w) (hb4 : b 4 = false) (h1 : b 1 = true) (hn : OwnT d.B w' v' (d.rs ++ [d.r])) (hg : w.grownBy w' d.v1.ownBlock) : Reg d (on b 4) (turn y 64 v') w' :=
  have ho := h.o1 hb4
  have hs : b 16 = false ∧ b 18 = false ∧ b 20 = false := (by have e := h.st; cases h16 : b 16 <;> cases h18 : b 18 <;> cases h20 : b 20 <;> simp_all)
  have hbx : w.heap[d.Y]? = some (.cells #[.bool d.lf, d.v1, d.v2, d.v3] 86 (0, 0)) := (by simpa [hs.1, hs.2.1, hs.2.2] using h.box)
  { a0 := (h.a0), a1 := (h.a1), a2 := (h.a2), a3 := (fun _ q => absurd q (by simp [on])), a4 := (fun _ => hn), o1 := (fun p => absurd p (by simp [on])), b5 := (h.b5), b6 := (h.b6), b7 := (h.b7), b8 := (fun p q => (by obtain ⟨g, h1, h2, h3⟩ := h.b8 p q; exact ⟨g, h1, grown_at hg h2 (own_blk_ne ho h2 (by decide)), h3⟩)), b9 := (fun p => (h.b9 p).kept hg (own_own_ne (h.b9 p) ho (by decide))), o2 := (fun p => (h.o2 p).kept hg (own_own_ne (h.o2 p) ho (by decide))), c10 := (h.c10), c11 := (h.c11), c12 := (h.c12), c13 := (fun p q => (by obtain ⟨g, h1, h2, h3⟩ := h.c13 p q; exact ⟨g, h1, grown_at hg h2 (own_blk_ne ho h2 (by decide)), h3⟩)), c14 := (fun p => (h.c14 p).kept hg (own_own_ne (h.c14 p) ho (by decide))), o3 := (fun p => (h.o3 p).kept hg (own_own_ne (h.o3 p) ho (by decide))), s15 := (h.s15), s17 := (h.s17), s19 := (h.s19), box := (by simpa [on, hs.1, hs.2.1, hs.2.2] using grown_at hg hbx (fun e0 => by have := (ho.lt _ e0).1; have := h.low; omega)), st := (fun p => ⟨rfl, (h.st p).2⟩), cl := (h.cl), la := (⟨fun _ => h1, fun q => ⟨(h.la.2.1 q).1, rfl⟩, h.la.2.2⟩), zc := (fun p => grown_at hg (h.zc p) (own_blk_ne ho (h.zc p) (by decide))), xc := (grown_at hg h.xc (fun e0 => by have := (ho.lt _ e0).1; have := h.low; omega)), bs := (Nat.le_trans h.bs hg.size), low := (h.low), bw := (h.bw.grown hg (by have := h.bs; have := h.low; omega) (fun k e0 => by have := (ho.lt _ e0).1; have := h.low; omega)) }
theorem Reg.p9 {w' : World} {v' : Value} (h : Reg d b y w) (hb9 : b 9 = false) (h4 : b 4 = true) (h6 : b 6 = true) (h7 : b 7 = true) (h8 : b 8 = true) (hn : OwnEs d.B w' v' (d.es ++ [d.e])) (hg : w.grownBy w' d.v2.ownBlock) : Reg d (on b 9) (turn y 69 v') w' :=
  have ho := h.o2 hb9
  have hs : b 16 = false ∧ b 18 = false ∧ b 20 = false := (by have e := h.st; cases h16 : b 16 <;> cases h18 : b 18 <;> cases h20 : b 20 <;> simp_all)
  have hbx : w.heap[d.Y]? = some (.cells #[.bool d.lf, d.v1, d.v2, d.v3] 86 (0, 0)) := (by simpa [hs.1, hs.2.1, hs.2.2] using h.box)
  { a0 := (h.a0), a1 := (h.a1), a2 := (h.a2), a3 := (fun p q => (by obtain ⟨g, h1, h2⟩ := h.a3 p q; exact ⟨g, h1, grown_at hg h2 (own_blk_ne ho h2 (by decide))⟩)), a4 := (fun p => (h.a4 p).kept hg (own_own_ne (h.a4 p) ho (by decide))), o1 := (fun p => (h.o1 p).kept hg (own_own_ne (h.o1 p) ho (by decide))), b5 := (h.b5), b6 := (h.b6), b7 := (h.b7), b8 := (fun _ q => absurd q (by simp [on])), b9 := (fun _ => hn), o2 := (fun p => absurd p (by simp [on])), c10 := (h.c10), c11 := (h.c11), c12 := (h.c12), c13 := (fun p q => (by obtain ⟨g, h1, h2, h3⟩ := h.c13 p q; exact ⟨g, h1, grown_at hg h2 (own_blk_ne ho h2 (by decide)), h3⟩)), c14 := (fun p => (h.c14 p).kept hg (own_own_ne (h.c14 p) ho (by decide))), o3 := (fun p => (h.o3 p).kept hg (own_own_ne (h.o3 p) ho (by decide))), s15 := (h.s15), s17 := (h.s17), s19 := (h.s19), box := (by simpa [on, hs.1, hs.2.1, hs.2.2] using grown_at hg hbx (fun e0 => by have := (ho.lt _ e0).1; have := h.low; omega)), st := (fun p => ⟨(h.st p).1, rfl, (h.st p).2.2⟩), cl := (⟨h.cl.1, fun _ => h8, fun _ => rfl⟩), la := (⟨h.la.1, fun _ => ⟨h6, h4⟩, h.la.2.2⟩), zc := (fun p => absurd (show b 7 = false from p) (by rw [h7]; simp)), xc := (grown_at hg h.xc (fun e0 => by have := (ho.lt _ e0).1; have := h.low; omega)), bs := (Nat.le_trans h.bs hg.size), low := (h.low), bw := (h.bw.grown hg (by have := h.bs; have := h.low; omega) (fun k e0 => by have := (ho.lt _ e0).1; have := h.low; omega)) }
theorem Reg.p14 {w' : World} {v' : Value} (h : Reg d b y w) (hb14 : b 14 = false) (h9 : b 9 = true) (h11 : b 11 = true) (hn : OwnIs d.B w' v' (d.is ++ [d.c])) (hg : w.grownBy w' d.v3.ownBlock) : Reg d (on b 14) (turn y 74 v') w' :=
  have ho := h.o3 hb14
  have hs : b 16 = false ∧ b 18 = false ∧ b 20 = false := (by have e := h.st; cases h16 : b 16 <;> cases h18 : b 18 <;> cases h20 : b 20 <;> simp_all)
  have hbx : w.heap[d.Y]? = some (.cells #[.bool d.lf, d.v1, d.v2, d.v3] 86 (0, 0)) := (by simpa [hs.1, hs.2.1, hs.2.2] using h.box)
  { a0 := (h.a0), a1 := (h.a1), a2 := (h.a2), a3 := (fun p q => (by obtain ⟨g, h1, h2⟩ := h.a3 p q; exact ⟨g, h1, grown_at hg h2 (own_blk_ne ho h2 (by decide))⟩)), a4 := (fun p => (h.a4 p).kept hg (own_own_ne (h.a4 p) ho (by decide))), o1 := (fun p => (h.o1 p).kept hg (own_own_ne (h.o1 p) ho (by decide))), b5 := (h.b5), b6 := (h.b6), b7 := (h.b7), b8 := (fun p q => (by obtain ⟨g, h1, h2, h3⟩ := h.b8 p q; exact ⟨g, h1, grown_at hg h2 (own_blk_ne ho h2 (by decide)), h3⟩)), b9 := (fun p => (h.b9 p).kept hg (own_own_ne (h.b9 p) ho (by decide))), o2 := (fun p => (h.o2 p).kept hg (own_own_ne (h.o2 p) ho (by decide))), c10 := (h.c10), c11 := (h.c11), c12 := (h.c12), c13 := (fun _ q => absurd q (by simp [on])), c14 := (fun _ => hn), o3 := (fun p => absurd p (by simp [on])), s15 := (h.s15), s17 := (h.s17), s19 := (h.s19), box := (by simpa [on, hs.1, hs.2.1, hs.2.2] using grown_at hg hbx (fun e0 => by have := (ho.lt _ e0).1; have := h.low; omega)), st := (fun p => ⟨(h.st p).1, (h.st p).2.1, rfl⟩), cl := (⟨h.cl.1, h.cl.2.1, fun _ => h9⟩), la := (⟨h.la.1, h.la.2.1, fun _ => h11⟩), zc := (fun p => grown_at hg (h.zc p) (own_blk_ne ho (h.zc p) (by decide))), xc := (grown_at hg h.xc (fun e0 => by have := (ho.lt _ e0).1; have := h.low; omega)), bs := (Nat.le_trans h.bs hg.size), low := (h.low), bw := (h.bw.grown hg (by have := h.bs; have := h.low; omega) (fun k e0 => by have := (ho.lt _ e0).1; have := h.low; omega)) }
theorem Reg.p16 (h : Reg d b y w) (h4 : b 4 = true) (h7 : b 7 = true) (h9 : b 9 = true) (h14 : b 14 = true) : Reg d (on b 16) y (w.setCell ⟨d.Y, 1, none⟩ (y 64)) :=
  { a0 := (h.a0), a1 := (h.a1), a2 := (h.a2), a3 := (fun _ q => absurd (show b 4 = false from q) (by rw [h4]; simp)), a4 := (fun p => ownsRow_set (h.a4 p) _ _ h.low.2.2.1), o1 := (fun p => ownsRow_set (h.o1 p) _ _ h.low.2.2.1), b5 := (h.b5), b6 := (h.b6), b7 := (h.b7), b8 := (fun _ q => absurd (show b 9 = false from q) (by rw [h9]; simp)), b9 := (fun p => ownsRow_set (h.b9 p) _ _ h.low.2.2.1), o2 := (fun p => ownsRow_set (h.o2 p) _ _ h.low.2.2.1), c10 := (h.c10), c11 := (h.c11), c12 := (h.c12), c13 := (fun _ q => absurd (show b 14 = false from q) (by rw [h14]; simp)), c14 := (fun p => ownsRow_set (h.c14 p) _ _ h.low.2.2.1), o3 := (fun p => ownsRow_set (h.o3 p) _ _ h.low.2.2.1), s15 := (h.s15), s17 := (h.s17), s19 := (h.s19), box := (blk_set 1 h.box (y 64)), st := (fun _ => ⟨h4, h9, h14⟩), cl := (h.cl), la := (h.la), zc := (fun p => absurd (show b 7 = false from p) (by rw [h7]; simp)), xc := ((Below.heap_setCell w ⟨d.Y, 1, none⟩ (y 64) d.X (by have := h.low; show d.X ≠ d.Y; omega)).trans h.xc), bs := (by simpa using h.bs), low := (h.low), bw := (h.bw.setCell (by have := h.low; show d.w0.heap.size ≤ d.Y; omega) _) }
theorem Reg.p18 (h : Reg d b y w) (h4 : b 4 = true) (h7 : b 7 = true) (h9 : b 9 = true) (h14 : b 14 = true) : Reg d (on b 18) y (w.setCell ⟨d.Y, 2, none⟩ (y 69)) :=
  { a0 := (h.a0), a1 := (h.a1), a2 := (h.a2), a3 := (fun _ q => absurd (show b 4 = false from q) (by rw [h4]; simp)), a4 := (fun p => ownsRow_set (h.a4 p) _ _ h.low.2.2.1), o1 := (fun p => ownsRow_set (h.o1 p) _ _ h.low.2.2.1), b5 := (h.b5), b6 := (h.b6), b7 := (h.b7), b8 := (fun _ q => absurd (show b 9 = false from q) (by rw [h9]; simp)), b9 := (fun p => ownsRow_set (h.b9 p) _ _ h.low.2.2.1), o2 := (fun p => ownsRow_set (h.o2 p) _ _ h.low.2.2.1), c10 := (h.c10), c11 := (h.c11), c12 := (h.c12), c13 := (fun _ q => absurd (show b 14 = false from q) (by rw [h14]; simp)), c14 := (fun p => ownsRow_set (h.c14 p) _ _ h.low.2.2.1), o3 := (fun p => ownsRow_set (h.o3 p) _ _ h.low.2.2.1), s15 := (h.s15), s17 := (h.s17), s19 := (h.s19), box := (blk_set 2 h.box (y 69)), st := (fun _ => ⟨h4, h9, h14⟩), cl := (h.cl), la := (h.la), zc := (fun p => absurd (show b 7 = false from p) (by rw [h7]; simp)), xc := ((Below.heap_setCell w ⟨d.Y, 2, none⟩ (y 69) d.X (by have := h.low; show d.X ≠ d.Y; omega)).trans h.xc), bs := (by simpa using h.bs), low := (h.low), bw := (h.bw.setCell (by have := h.low; show d.w0.heap.size ≤ d.Y; omega) _) }
theorem Reg.p20 (h : Reg d b y w) (h4 : b 4 = true) (h7 : b 7 = true) (h9 : b 9 = true) (h14 : b 14 = true) : Reg d (on b 20) y (w.setCell ⟨d.Y, 3, none⟩ (y 74)) :=
  { a0 := (h.a0), a1 := (h.a1), a2 := (h.a2), a3 := (fun _ q => absurd (show b 4 = false from q) (by rw [h4]; simp)), a4 := (fun p => ownsRow_set (h.a4 p) _ _ h.low.2.2.1), o1 := (fun p => ownsRow_set (h.o1 p) _ _ h.low.2.2.1), b5 := (h.b5), b6 := (h.b6), b7 := (h.b7), b8 := (fun _ q => absurd (show b 9 = false from q) (by rw [h9]; simp)), b9 := (fun p => ownsRow_set (h.b9 p) _ _ h.low.2.2.1), o2 := (fun p => ownsRow_set (h.o2 p) _ _ h.low.2.2.1), c10 := (h.c10), c11 := (h.c11), c12 := (h.c12), c13 := (fun _ q => absurd (show b 14 = false from q) (by rw [h14]; simp)), c14 := (fun p => ownsRow_set (h.c14 p) _ _ h.low.2.2.1), o3 := (fun p => ownsRow_set (h.o3 p) _ _ h.low.2.2.1), s15 := (h.s15), s17 := (h.s17), s19 := (h.s19), box := (blk_set 3 h.box (y 74)), st := (fun _ => ⟨h4, h9, h14⟩), cl := (h.cl), la := (h.la), zc := (fun p => absurd (show b 7 = false from p) (by rw [h7]; simp)), xc := ((Below.heap_setCell w ⟨d.Y, 3, none⟩ (y 74) d.X (by have := h.low; show d.X ≠ d.Y; omega)).trans h.xc), bs := (by simpa using h.bs), low := (h.low), bw := (h.bw.setCell (by have := h.low; show d.w0.heap.size ≤ d.Y; omega) _) }
end Go.Proofs.Ytgbihdlahghonaa
/- What the single operations of look's three appends do, in any frame. -/
namespace Go.Proofs.Ytgbihdlahghonaa
open Go.RowKit

section
variable {T : Array Value} {y : Nat → Value} {ds : List Nat} {U : World}
theorem ev_in {k : Nat} (h : k ∈ ds) (hs : k < T.size) : (Act.mk (updL T y ds) []).eval (.tmp k) = y k := updL_in h hs
theorem ev_out {k : Nat} (h : k ∉ ds) : (Act.mk (updL T y ds) []).eval (.tmp k) = T.getD k undef := updL_out h
/-- Operation 0: the address of a field. -/
theorem run_field (ev : Operand → Value) (n : Nat) (hn : n ≤ 3) (Y : Nat) (d : Nat) (ty : TypeId) (pos : String) (af : Array Edge) (h : ev (.tmp 4) = .pointer (some ⟨Y, 0, none⟩)) :
    (execOp ev { dst := some d, op := .fieldAddr 86 (.tmp 4) n, type := ty, pos := pos, after := af, guard := none }).run Try.prog U = .ok (.value (.pointer (some ⟨Y, n, none⟩))) U := by
  have hn4 : n = 0 ∨ n = 1 ∨ n = 2 ∨ n = 3 := by omega
  rcases hn4 with rfl | rfl | rfl | rfl <;> simp [execOp, h, go_sem]
theorem run_move (ev : Operand → Value) (x : Operand) (d : Nat) (ty : TypeId) (pos : String) (af : Array Edge) :
    (execOp ev { dst := some d, op := .move x, type := ty, pos := pos, after := af, guard := none }).run Try.prog U = .ok (.value (ev x)) U := by
  simp [execOp, go_sem]
theorem run_load1 (ev : Operand → Value) (d : Nat) (t : TypeId) (x : Operand) (A : Addr) (v : Value) (ty : TypeId) (pos : String) (af : Array Edge) (ht : t = 40 ∨ t = 51 ∨ t = 54) (h : ev x = .pointer (some A)) (hc : U.cell? A = some v) :
    (execOp ev { dst := some d, op := .load t x, type := ty, pos := pos, after := af, guard := none }).run Try.prog U = .ok (.value v) U := by
  rcases ht with rfl | rfl | rfl <;> simp [execOp, h, go_sem, hc]
theorem run_load3 (ev : Operand → Value) (d : Nat) (x : Operand) (Z : Nat) (v1 v2 v3 : Value) (ty : TypeId) (pos : String) (af : Array Edge) (h : ev x = .pointer (some ⟨Z, 0, none⟩)) (h0 : U.cell? ⟨Z, 0, none⟩ = some v1) (h1 : U.cell? ⟨Z, 1, none⟩ = some v2) (h2 : U.cell? ⟨Z, 2, none⟩ = some v3) :
    (execOp ev { dst := some d, op := .load 45 x, type := ty, pos := pos, after := af, guard := none }).run Try.prog U = .ok (.value (.agg #[v1, v2, v3])) U := by
  simp [execOp, h, go_sem, h0, h1, h2]
theorem run_store1 (ev : Operand → Value) (t : TypeId) (x s : Operand) (A : Addr) (v u : Value) (ty : TypeId) (pos : String) (af : Array Edge) (ht : t = 40 ∨ t = 51 ∨ t = 54) (h : ev x = .pointer (some A)) (hs : ev s = v) (hv : ∃ a n c, v = .slice a n c) (hc : U.cell? A = some u) (hf : U.frozen? A = false) :
    (execOp ev { dst := none, op := .store t x s, type := ty, pos := pos, after := af, guard := none }).run Try.prog U = .ok (.skip) (U.setCell A v) := by
  obtain ⟨a, n, c, rfl⟩ := hv
  rcases ht with rfl | rfl | rfl <;> simp [execOp, h, hs, go_sem, hc, hf]
theorem own_slice {B n size : Nat} {e : TypeId} {v : Value} {xs : List Value} {w : World} (h : w.ownsRow B e size v n xs) : ∃ a n c, v = .slice a n c := by
  rcases h.2 with ⟨rfl, _⟩ | ⟨g', cap, cur, rfl, _⟩
  · exact ⟨_, _, _, rfl⟩
  · exact ⟨_, _, _, rfl⟩
theorem info_int : (Try.prog.info? 3).map (fun i => (i.zero, i.size, i.bytes)) = some (some (.int .i64 0), 1, 8) := by kernel_rfl
theorem info_entry : (Try.prog.info? 45).map (fun i => (i.zero, i.size, i.bytes)) = some (some (.agg #[.string ⟨#[]⟩, .int .i64 0, .int .i64 0]), 3, 32) := by kernel_rfl
theorem run_row1 (ev : Operand → Value) (d : Nat) (t e : TypeId) (x : Operand) (v : Value) (ty : TypeId) (pos : String) (af : Array Edge) (ht : (t = 40 ∧ e = 9) ∨ (t = 54 ∧ e = 3)) (h : ev x = v) (hv : (∃ s, v = .string s) ∨ ∃ n, v = .int .i64 n) :
    (execOp ev { dst := some d, op := .buildSlice t 1 #[(0, x)], type := ty, pos := pos, after := af, guard := none }).run Try.prog U = .ok (.value (.slice (some ⟨U.heap.size, 0, none⟩) 1 1)) (U.alloc (.cells #[v] e)) := by
  obtain ⟨i0, hi, hz0, hz1, hz2⟩ := info_parts info_string
  obtain ⟨i1, hi1, hy0, hy1, hy2⟩ := info_parts info_int
  rcases ht with ⟨rfl, rfl⟩ | ⟨rfl, rfl⟩ <;> rcases hv with ⟨s, rfl⟩ | ⟨s, rfl⟩ <;> simp [execOp, h]
  · rw [run_buildSlice U _ 9 1 #[(0, .string s)] #[.string s] i0 (.string ⟨#[]⟩) Try.underlying40 hi hz0 (by rw [hz1]; decide) (by rw [hz1]; decide) (by rw [hz1]; simp [go_sem, Array.range]; simp [Array.ofFn_succ])]; rfl
  · rw [run_buildSlice U _ 9 1 #[(0, .int .i64 s)] #[.int .i64 s] i0 (.string ⟨#[]⟩) Try.underlying40 hi hz0 (by rw [hz1]; decide) (by rw [hz1]; decide) (by rw [hz1]; simp [go_sem, Array.range]; simp [Array.ofFn_succ])]; rfl
  · rw [run_buildSlice U _ 3 1 #[(0, .string s)] #[.string s] i1 (.int .i64 0) Try.underlying54 hi1 hy0 (by rw [hy1]; decide) (by rw [hy1]; decide) (by rw [hy1]; simp [go_sem, Array.range]; simp [Array.ofFn_succ])]; rfl
  · rw [run_buildSlice U _ 3 1 #[(0, .int .i64 s)] #[.int .i64 s] i1 (.int .i64 0) Try.underlying54 hi1 hy0 (by rw [hy1]; decide) (by rw [hy1]; decide) (by rw [hy1]; simp [go_sem, Array.range]; simp [Array.ofFn_succ])]; rfl
theorem run_row3 (ev : Operand → Value) (d : Nat) (x : Operand) (s : ByteArray) (a b : Int) (ty : TypeId) (pos : String) (af : Array Edge) (h : ev x = .agg #[.string s, .int .i64 a, .int .i64 b]) :
    (execOp ev { dst := some d, op := .buildSlice 51 1 #[(0, x)], type := ty, pos := pos, after := af, guard := none }).run Try.prog U = .ok (.value (.slice (some ⟨U.heap.size, 0, none⟩) 1 1)) (U.alloc (.cells #[.string s, .int .i64 a, .int .i64 b] 45)) := by
  obtain ⟨i0, hi, hz0, hz1, hz2⟩ := info_parts info_entry
  simp [execOp, h]
  rw [run_buildSlice U _ 45 1 #[(0, .agg #[.string s, .int .i64 a, .int .i64 b])] #[.string s, .int .i64 a, .int .i64 b] i0 _ Try.underlying51 hi hz0 (by rw [hz1]; decide) (by rw [hz1]; decide) (by rw [hz1]; simp [go_sem, Array.range]; simp [Array.ofFn_succ])]; rfl
end
end Go.Proofs.Ytgbihdlahghonaa
/- Look's region 17, whole: each of its operations keeps the invariant. -/
namespace Go.Proofs.Ytgbihdlahghonaa
open Go.RowKit

/-- The slots that the region fills. -/
abbrev DS : List Nat := [60, 61, 62, 63, 64, 65, 66, 67, 68, 69, 70, 71, 72, 73, 74, 75, 76, 77]
/-- An operation waits for these. -/
def needs (af : Array Edge) (l : List Nat) : Bool := l.all fun i => af.any fun e => e.on == i && Region.binds .any e
theorem needs_out {D : Nat → Bool} {af : Array Edge} {l : List Nat} (hn : needs af l = true) (h : (af.all fun e => !Region.binds .any e || D e.on) = true) : ∀ i ∈ l, D i = true := by
  intro i hi
  unfold needs at hn
  rw [List.all_eq_true] at hn
  have h1 := hn i hi
  rw [Array.any_eq_true] at h1
  obtain ⟨k, hk, h2⟩ := h1
  rw [Bool.and_eq_true] at h2
  rw [Array.all_eq_true] at h
  have h3 := h k hk
  rw [h2.2] at h3
  have h4 : af[k].on = i := by simpa using h2.1
  rw [h4] at h3
  simpa using h3

section
variable {d : Dat} {D : Nat → Bool} {y : Nat → Value} {U : World} {T : Array Value} {ops : Array Oper} {Q : Exit → Act → World → Prop}
/-- What the slots ahead of the region hold. -/
structure Ahead (d : Dat) (T : Array Value) : Prop where
  size : 77 < T.size
  t4 : T.getD 4 undef = .pointer (some ⟨d.Y, 0, none⟩)
  t6 : T.getD 6 undef = .string d.r
  t8 : T.getD 8 undef = .pointer (some ⟨d.Z, 0, none⟩)
  t9 : T.getD 9 undef = .int .i64 d.c
  n1 : d.rs.length < 1048576
  n2 : d.es.length < 1048576
  n3 : d.is.length < 1048576
theorem stp_value {d : Dat} {D : Nat → Bool} {y : Nat → Value} {U U' : World} {T : Array Value} {ops : Array Oper} {Q : Exit → Act → World → Prop} {i k : Nat} {op : Op} {v : Value} (ty : TypeId) (pos : String) (af : Array Edge) (hk : k ∈ DS)
    (hr : (execOp (Act.mk (updL T y DS) []).eval { dst := some k, op := op, type := ty, pos := pos, after := af, guard := none }).run Try.prog U = .ok (.value v) U') (hG : Reg d (on D i) (turn y k v) U') :
    StepG Try.prog ops Q T DS (Reg d) D y i { dst := some k, op := op, type := ty, pos := pos, after := af, guard := none } U :=
  stepG_value rfl rfl hk hr hG
theorem stp_skip {d : Dat} {D : Nat → Bool} {y : Nat → Value} {U U' : World} {T : Array Value} {ops : Array Oper} {Q : Exit → Act → World → Prop} {i : Nat} {op : Op} (ty : TypeId) (pos : String) (af : Array Edge)
    (hr : (execOp (Act.mk (updL T y DS) []).eval { dst := none, op := op, type := ty, pos := pos, after := af, guard := none }).run Try.prog U = .ok .skip U') (hG : Reg d (on D i) y U') :
    StepG Try.prog ops Q T DS (Reg d) D y i { dst := none, op := op, type := ty, pos := pos, after := af, guard := none } U := by
  refine stepG_wp rfl ?_
  unfold Oper.wp
  rw [hr, Oper.upon_skip]
  exact ⟨y, rfl, hG⟩
abbrev Stp (d : Dat) (ops : Array Oper) (Q : Exit → Act → World → Prop) (T : Array Value) (D : Nat → Bool) (y : Nat → Value) (i : Nat) (o : Oper) (U : World) : Prop := StepG Try.prog ops Q T DS (Reg d) D y i o U

theorem box_out (h : Reg d D y U) : U.cell? ⟨d.Y, 1, none⟩ = some (if D 16 then y 64 else d.v1) ∧ U.cell? ⟨d.Y, 2, none⟩ = some (if D 18 then y 69 else d.v2) ∧ U.cell? ⟨d.Y, 3, none⟩ = some (if D 20 then y 74 else d.v3) ∧ U.frozen? ⟨d.Y, 1, none⟩ = false ∧ U.frozen? ⟨d.Y, 2, none⟩ = false ∧ U.frozen? ⟨d.Y, 3, none⟩ = false := by
  have hb := h.box
  refine ⟨by rw [cell_of_blk hb]; rfl, by rw [cell_of_blk hb]; rfl, by rw [cell_of_blk hb]; rfl, ?_, ?_, ?_⟩ <;> simp [World.frozen?, hb]
theorem box1 (h : Reg d D y U) (hs : D 16 = false) : U.cell? ⟨d.Y, 1, none⟩ = some d.v1 := by rw [(box_out h).1, hs]; rfl
theorem box2 (h : Reg d D y U) (hs : D 18 = false) : U.cell? ⟨d.Y, 2, none⟩ = some d.v2 := by rw [(box_out h).2.1, hs]; rfl
theorem box3 (h : Reg d D y U) (hs : D 20 = false) : U.cell? ⟨d.Y, 3, none⟩ = some d.v3 := by rw [(box_out h).2.2.1, hs]; rfl
theorem news1 {U : World} {g : Nat} {v : Value} {t : TypeId} (hg : U.heap[g]? = some (.cells #[v] t (0, 0))) : ∀ j u, [v][j]? = some u → U.cell? ((⟨g, 0, none⟩ : Addr).add j) = some u := by
  intro j u hu
  rw [show (⟨g, 0, none⟩ : Addr).add j = ⟨g, 0 + j, none⟩ from Addr.add_mid g 0 j, cell_of_blk hg, Nat.zero_add]
  simpa using hu
theorem news3 {U : World} {g : Nat} {a b c : Value} {t : TypeId} (hg : U.heap[g]? = some (.cells #[a, b, c] t (0, 0))) : ∀ j u, [a, b, c][j]? = some u → U.cell? ((⟨g, 0, none⟩ : Addr).add j) = some u := by
  intro j u hu
  rw [show (⟨g, 0, none⟩ : Addr).add j = ⟨g, 0 + j, none⟩ from Addr.add_mid g 0 j, cell_of_blk hg, Nat.zero_add]
  simpa using hu
variable (hA : Ahead d T) (h : Reg d D y U) (ty : TypeId) (pos : String) (af : Array Edge)
include hA h
omit h in
theorem ah4 : (Act.mk (updL T y DS) []).eval (.tmp 4) = .pointer (some ⟨d.Y, 0, none⟩) := by rw [ev_out (by decide)]; exact hA.t4
omit h in
theorem ah8 : (Act.mk (updL T y DS) []).eval (.tmp 8) = .pointer (some ⟨d.Z, 0, none⟩) := by rw [ev_out (by decide)]; exact hA.t8
omit h in
theorem evD (k : Nat) (hk : k ∈ DS) : (Act.mk (updL T y DS) []).eval (.tmp k) = y k :=
  ev_in hk (by
    have h1 := hA.size
    have h2 : k ≤ 77 := by
      have h3 : ∀ j ∈ DS, j ≤ 77 := by decide
      exact h3 k hk
    omega)
theorem st0 : Stp d ops Q T D y 0 { dst := some 60, op := .fieldAddr 86 (.tmp 4) 1, type := ty, pos := pos, after := af, guard := none } U := by
  refine stp_value ty pos af (by decide) ?_ (h.p0)
  with_reducible exact run_field (Act.mk (updL T y DS) []).eval 1 (by omega) d.Y 60 ty pos af (ah4 hA)
theorem st5 : Stp d ops Q T D y 5 { dst := some 65, op := .fieldAddr 86 (.tmp 4) 2, type := ty, pos := pos, after := af, guard := none } U := by
  refine stp_value ty pos af (by decide) ?_ (h.p5)
  with_reducible exact run_field (Act.mk (updL T y DS) []).eval 2 (by omega) d.Y 65 ty pos af (ah4 hA)
theorem st10 : Stp d ops Q T D y 10 { dst := some 70, op := .fieldAddr 86 (.tmp 4) 3, type := ty, pos := pos, after := af, guard := none } U := by
  refine stp_value ty pos af (by decide) ?_ (h.p10)
  with_reducible exact run_field (Act.mk (updL T y DS) []).eval 3 (by omega) d.Y 70 ty pos af (ah4 hA)
theorem st15 : Stp d ops Q T D y 15 { dst := some 75, op := .fieldAddr 86 (.tmp 4) 1, type := ty, pos := pos, after := af, guard := none } U := by
  refine stp_value ty pos af (by decide) ?_ (h.p15)
  with_reducible exact run_field (Act.mk (updL T y DS) []).eval 1 (by omega) d.Y 75 ty pos af (ah4 hA)
theorem st17 : Stp d ops Q T D y 17 { dst := some 76, op := .fieldAddr 86 (.tmp 4) 2, type := ty, pos := pos, after := af, guard := none } U := by
  refine stp_value ty pos af (by decide) ?_ (h.p17)
  with_reducible exact run_field (Act.mk (updL T y DS) []).eval 2 (by omega) d.Y 76 ty pos af (ah4 hA)
theorem st19 : Stp d ops Q T D y 19 { dst := some 77, op := .fieldAddr 86 (.tmp 4) 3, type := ty, pos := pos, after := af, guard := none } U := by
  refine stp_value ty pos af (by decide) ?_ (h.p19)
  with_reducible exact run_field (Act.mk (updL T y DS) []).eval 3 (by omega) d.Y 77 ty pos af (ah4 hA)
theorem st2 : Stp d ops Q T D y 2 { dst := some 62, op := .move (.tmp 6), type := ty, pos := pos, after := af, guard := none } U := by
  refine stp_value ty pos af (by decide) ?_ (h.p2)
  with_reducible exact (run_move (Act.mk (updL T y DS) []).eval _ 62 ty pos af).trans (by rw [show (Act.mk (updL T y DS) []).eval (.tmp 6) = .string d.r from (ev_out (by decide)).trans hA.t6])
theorem st12 : Stp d ops Q T D y 12 { dst := some 72, op := .move (.tmp 9), type := ty, pos := pos, after := af, guard := none } U := by
  refine stp_value ty pos af (by decide) ?_ (h.p12)
  with_reducible exact (run_move (Act.mk (updL T y DS) []).eval _ 72 ty pos af).trans (by rw [show (Act.mk (updL T y DS) []).eval (.tmp 9) = .int .i64 d.c from (ev_out (by decide)).trans hA.t9])
theorem st1 (h0 : D 0 = true) (hs : D 16 = false) : Stp d ops Q T D y 1 { dst := some 61, op := .load 40 (.tmp 60), type := ty, pos := pos, after := af, guard := none } U := by
  refine stp_value ty pos af (by decide) ?_ (h.p1)
  with_reducible exact run_load1 (Act.mk (updL T y DS) []).eval 61 _ _ ⟨d.Y, 1, none⟩ d.v1 ty pos af (.inl rfl) ((evD hA 60 (by decide)).trans (h.a0 h0)) (box1 h hs)
theorem st6 (h0 : D 5 = true) (hs : D 18 = false) : Stp d ops Q T D y 6 { dst := some 66, op := .load 51 (.tmp 65), type := ty, pos := pos, after := af, guard := none } U := by
  refine stp_value ty pos af (by decide) ?_ (h.p6)
  with_reducible exact run_load1 (Act.mk (updL T y DS) []).eval 66 _ _ ⟨d.Y, 2, none⟩ d.v2 ty pos af (.inr (.inl rfl)) ((evD hA 65 (by decide)).trans (h.b5 h0)) (box2 h hs)
theorem st11 (h0 : D 10 = true) (hs : D 20 = false) : Stp d ops Q T D y 11 { dst := some 71, op := .load 54 (.tmp 70), type := ty, pos := pos, after := af, guard := none } U := by
  refine stp_value ty pos af (by decide) ?_ (h.p11)
  with_reducible exact run_load1 (Act.mk (updL T y DS) []).eval 71 _ _ ⟨d.Y, 3, none⟩ d.v3 ty pos af (.inr (.inr rfl)) ((evD hA 70 (by decide)).trans (h.c10 h0)) (box3 h hs)
theorem st7 (hs : D 7 = false) : Stp d ops Q T D y 7 { dst := some 67, op := .load 45 (.tmp 8), type := ty, pos := pos, after := af, guard := none } U := by
  have hz := blkE (h.zc hs)
  refine stp_value ty pos af (by decide) ?_ (h.p7)
  with_reducible exact run_load3 (Act.mk (updL T y DS) []).eval 67 _ d.Z _ _ _ ty pos af (ah8 hA) hz.1 hz.2.1 hz.2.2.1
theorem st3 (h2 : D 2 = true) : Stp d ops Q T D y 3 { dst := some 63, op := .buildSlice 40 1 #[(0, .tmp 62)], type := ty, pos := pos, after := af, guard := none } U :=
  stepG_value rfl rfl (by decide) (run_row1 (Act.mk (updL T y DS) []).eval 63 _ _ _ _ ty pos af (.inl ⟨rfl, rfl⟩) ((evD hA 62 (by decide)).trans (h.a2 h2)) (.inl ⟨_, rfl⟩)) (h.p3 (below_past_alloc (Below.refl _ _)) (heap_alloc_new U _))
theorem st13 (h2 : D 12 = true) : Stp d ops Q T D y 13 { dst := some 73, op := .buildSlice 54 1 #[(0, .tmp 72)], type := ty, pos := pos, after := af, guard := none } U :=
  stepG_value rfl rfl (by decide) (run_row1 (Act.mk (updL T y DS) []).eval 73 _ _ _ _ ty pos af (.inr ⟨rfl, rfl⟩) ((evD hA 72 (by decide)).trans (h.c12 h2)) (.inr ⟨_, rfl⟩)) (h.p13 (below_past_alloc (Below.refl _ _)) (heap_alloc_new U _))
theorem st8 (h7 : D 7 = true) : Stp d ops Q T D y 8 { dst := some 68, op := .buildSlice 51 1 #[(0, .tmp 67)], type := ty, pos := pos, after := af, guard := none } U :=
  stepG_value rfl rfl (by decide) (run_row3 (Act.mk (updL T y DS) []).eval 68 _ d.e.key d.e.page d.e.slot ty pos af ((evD hA 67 (by decide)).trans (h.b7 h7))) (h.p8 h7 (below_past_alloc (Below.refl _ _)) (heap_alloc_new U _))
theorem st4 (h1 : D 1 = true) (h3 : D 3 = true) (hs : D 4 = false) : Stp d ops Q T D y 4 { dst := some 64, op := .call { callee := .builtin .append, args := #[.tmp 61, .tmp 63], argTypes := #[40, 40] }, type := ty, pos := pos, after := af, guard := none } U := by
  obtain ⟨i0, hi, hz0, hz1, hz2⟩ := info_parts info_string
  obtain ⟨g, e1, e2⟩ := h.a3 h3 hs
  have hn := hA.n1
  refine stepG_wp rfl (wp_append_own U (.tmp 61) (.tmp 63) _ rfl d.B 9 i0 (.string ⟨#[]⟩) 1 16 Try.underlying40 hi hz0 hz1 hz2 rfl (by omega) d.v1 d.rs.length (d.rs.map Value.string) ((evD hA 61 (by decide)).trans (h.a1 h1)) (h.o1 hs) ⟨g, 0, none⟩ 1 1 [.string d.r] ((evD hA 63 (by decide)).trans e1) rfl (news1 e2) (by simp [Value.oneCell']) (by simp only [maxLen]; omega) (by omega) h.bs ?_)
  intro v' w' ho hg _
  exact ⟨_, put_turn (by decide), h.p4 hs h1 (by simpa [OwnT] using ho) hg⟩
theorem st9 (h4 : D 4 = true) (h6 : D 6 = true) (h7 : D 7 = true) (h8 : D 8 = true) (hs : D 9 = false) : Stp d ops Q T D y 9 { dst := some 69, op := .call { callee := .builtin .append, args := #[.tmp 66, .tmp 68], argTypes := #[51, 51] }, type := ty, pos := pos, after := af, guard := none } U := by
  obtain ⟨i0, hi, hz0, hz1, hz2⟩ := info_parts info_entry
  obtain ⟨g, e1, e2, _⟩ := h.b8 h8 hs
  have hn := hA.n2
  refine stepG_wp rfl (wp_append_own U (.tmp 66) (.tmp 68) _ rfl d.B 45 i0 _ 3 32 Try.underlying51 hi hz0 hz1 hz2 rfl (by omega) d.v2 d.es.length (entCells d.es) ((evD hA 66 (by decide)).trans (h.b6 h6)) (h.o2 hs) ⟨g, 0, none⟩ 1 1 [.string d.e.key, .int .i64 d.e.page, .int .i64 d.e.slot] ((evD hA 68 (by decide)).trans e1) rfl (news3 e2) (by simp [Value.oneCell']) (by simp only [maxLen]; omega) (by omega) h.bs ?_)
  intro v' w' ho hg _
  exact ⟨_, put_turn (by decide), h.p9 hs h4 h6 h7 h8 (by simpa [OwnEs, entCells] using ho) hg⟩
theorem st14 (h11 : D 11 = true) (h13 : D 13 = true) (h9 : D 9 = true) (hs : D 14 = false) : Stp d ops Q T D y 14 { dst := some 74, op := .call { callee := .builtin .append, args := #[.tmp 71, .tmp 73], argTypes := #[54, 54] }, type := ty, pos := pos, after := af, guard := none } U := by
  obtain ⟨i0, hi, hz0, hz1, hz2⟩ := info_parts info_int
  obtain ⟨g, e1, e2, _⟩ := h.c13 h13 hs
  have hn := hA.n3
  refine stepG_wp rfl (wp_append_own U (.tmp 71) (.tmp 73) _ rfl d.B 3 i0 (.int .i64 0) 1 8 Try.underlying54 hi hz0 hz1 hz2 rfl (by omega) d.v3 d.is.length (d.is.map (Value.int .i64)) ((evD hA 71 (by decide)).trans (h.c11 h11)) (h.o3 hs) ⟨g, 0, none⟩ 1 1 [.int .i64 d.c] ((evD hA 73 (by decide)).trans e1) rfl (news1 e2) (by simp [Value.oneCell']) (by simp only [maxLen]; omega) (by omega) h.bs ?_)
  intro v' w' ho hg _
  exact ⟨_, put_turn (by decide), h.p14 hs h9 h11 (by simpa [OwnIs] using ho) hg⟩
theorem st16 (h15 : D 15 = true) (h4 : D 4 = true) (h7 : D 7 = true) (h9 : D 9 = true) (h14 : D 14 = true) : Stp d ops Q T D y 16 { dst := none, op := .store 40 (.tmp 75) (.tmp 64), type := ty, pos := pos, after := af, guard := none } U := by
  refine stp_skip ty pos af ?_ (h.p16 h4 h7 h9 h14)
  with_reducible exact run_store1 (Act.mk (updL T y DS) []).eval _ _ _ _ _ _ ty pos af (.inl rfl) ((evD hA 75 (by decide)).trans (h.s15 h15)) (evD hA 64 (by decide)) (own_slice (h.a4 h4)) (box_out h).1 (box_out h).2.2.2.1
theorem st18 (h17 : D 17 = true) (h4 : D 4 = true) (h7 : D 7 = true) (h9 : D 9 = true) (h14 : D 14 = true) : Stp d ops Q T D y 18 { dst := none, op := .store 51 (.tmp 76) (.tmp 69), type := ty, pos := pos, after := af, guard := none } U := by
  refine stp_skip ty pos af ?_ (h.p18 h4 h7 h9 h14)
  with_reducible exact run_store1 (Act.mk (updL T y DS) []).eval _ _ _ _ _ _ ty pos af (.inr (.inl rfl)) ((evD hA 76 (by decide)).trans (h.s17 h17)) (evD hA 69 (by decide)) (own_slice (h.b9 h9)) (box_out h).2.1 (box_out h).2.2.2.2.1
theorem st20 (h19 : D 19 = true) (h4 : D 4 = true) (h7 : D 7 = true) (h9 : D 9 = true) (h14 : D 14 = true) : Stp d ops Q T D y 20 { dst := none, op := .store 54 (.tmp 77) (.tmp 74), type := ty, pos := pos, after := af, guard := none } U := by
  refine stp_skip ty pos af ?_ (h.p20 h4 h7 h9 h14)
  with_reducible exact run_store1 (Act.mk (updL T y DS) []).eval _ _ _ _ _ _ ty pos af (.inr (.inr rfl)) ((evD hA 77 (by decide)).trans (h.s19 h19)) (evD hA 74 (by decide)) (own_slice (h.c14 h14)) (box_out h).2.2.1 (box_out h).2.2.2.2.2
end
/-- Operation k, and what it waits for. -/
def Is17 (ops : Array Oper) (k : Nat) (dst : Option Tmp) (op : Op) (l : List Nat) : Prop := ∃ (t : TypeId) (p : String) (a : Array Edge), ops[k]? = some { dst := dst, op := op, type := t, pos := p, after := a, guard := none } ∧ needs a l = true
theorem lt21 : ∀ i, i < 21 → (i = 0 ∨ i = 1 ∨ i = 2 ∨ i = 3 ∨ i = 4 ∨ i = 5 ∨ i = 6 ∨ i = 7 ∨ i = 8 ∨ i = 9 ∨ i = 10 ∨ i = 11 ∨ i = 12 ∨ i = 13 ∨ i = 14 ∨ i = 15 ∨ i = 16 ∨ i = 17 ∨ i = 18 ∨ i = 19 ∨ i = 20) := by decide
/-- The whole region: what its operations are, and what each waits for. -/
theorem reg_step {d : Dat} {T : Array Value} {ops : Array Oper} {Q : Exit → Act → World → Prop} (hA : Ahead d T) (hs : ops.size = 21)
    (o0 : Is17 ops 0 (some 60) (.fieldAddr 86 (.tmp 4) 1) [])
    (o1 : Is17 ops 1 (some 61) (.load 40 (.tmp 60)) [0])
    (o2 : Is17 ops 2 (some 62) (.move (.tmp 6)) [])
    (o3 : Is17 ops 3 (some 63) (.buildSlice 40 1 #[(0, .tmp 62)]) [2])
    (o4 : Is17 ops 4 (some 64) (.call { callee := .builtin .append, args := #[.tmp 61, .tmp 63], argTypes := #[40, 40] }) [1, 3])
    (o5 : Is17 ops 5 (some 65) (.fieldAddr 86 (.tmp 4) 2) [])
    (o6 : Is17 ops 6 (some 66) (.load 51 (.tmp 65)) [5])
    (o7 : Is17 ops 7 (some 67) (.load 45 (.tmp 8)) [])
    (o8 : Is17 ops 8 (some 68) (.buildSlice 51 1 #[(0, .tmp 67)]) [7])
    (o9 : Is17 ops 9 (some 69) (.call { callee := .builtin .append, args := #[.tmp 66, .tmp 68], argTypes := #[51, 51] }) [6, 8, 4])
    (o10 : Is17 ops 10 (some 70) (.fieldAddr 86 (.tmp 4) 3) [])
    (o11 : Is17 ops 11 (some 71) (.load 54 (.tmp 70)) [10])
    (o12 : Is17 ops 12 (some 72) (.move (.tmp 9)) [])
    (o13 : Is17 ops 13 (some 73) (.buildSlice 54 1 #[(0, .tmp 72)]) [12])
    (o14 : Is17 ops 14 (some 74) (.call { callee := .builtin .append, args := #[.tmp 71, .tmp 73], argTypes := #[54, 54] }) [11, 13, 9])
    (o15 : Is17 ops 15 (some 75) (.fieldAddr 86 (.tmp 4) 1) [])
    (o16 : Is17 ops 16 (none) (.store 40 (.tmp 75) (.tmp 64)) [15, 14])
    (o17 : Is17 ops 17 (some 76) (.fieldAddr 86 (.tmp 4) 2) [])
    (o18 : Is17 ops 18 (none) (.store 51 (.tmp 76) (.tmp 69)) [17, 16])
    (o19 : Is17 ops 19 (some 77) (.fieldAddr 86 (.tmp 4) 3) [])
    (o20 : Is17 ops 20 (none) (.store 54 (.tmp 77) (.tmp 74)) [19, 14])
    : ∀ D y U i o, Reg d D y U → ops[i]? = some o → D i = false → (o.after.all fun e => !Region.binds .any e || D e.on) = true → StepG Try.prog ops Q T DS (Reg d) D y i o U := by
  intro D y U i o h ho hDi hdep
  have hi : i < 21 := by rw [← hs]; exact (Array.getElem?_eq_some_iff.1 ho).1
  have c8 := h.cl
  have hst := h.st
  have cond : ∀ {i : Nat} {o' : Oper}, ops[i]? = some o → ops[i]? = some o' → o = o' := fun a b => Option.some.inj (a.symm.trans b)
  have fl : ∀ {b : Bool}, (b = true → False) → b = false := fun {b} hb => by cases b; rfl; exact (hb rfl).elim
  have hc := lt21 i hi
  rcases hc with rfl | rfl | rfl | rfl | rfl | rfl | rfl | rfl | rfl | rfl | rfl | rfl | rfl | rfl | rfl | rfl | rfl | rfl | rfl | rfl | rfl
  · obtain ⟨t, p, a, e, hn⟩ := o0
    have e2 := cond ho e
    subst e2
    have nn := needs_out hn hdep
    exact st0 hA h _ _ _
  · obtain ⟨t, p, a, e, hn⟩ := o1
    have e2 := cond ho e
    subst e2
    have nn := needs_out hn hdep
    exact st1 hA h _ _ _ (nn 0 (by decide)) (fl fun q => by rw [h.la.1 (h.st (.inl q)).1] at hDi; cases hDi)
  · obtain ⟨t, p, a, e, hn⟩ := o2
    have e2 := cond ho e
    subst e2
    have nn := needs_out hn hdep
    exact st2 hA h _ _ _
  · obtain ⟨t, p, a, e, hn⟩ := o3
    have e2 := cond ho e
    subst e2
    have nn := needs_out hn hdep
    exact st3 hA h _ _ _ (nn 2 (by decide))
  · obtain ⟨t, p, a, e, hn⟩ := o4
    have e2 := cond ho e
    subst e2
    have nn := needs_out hn hdep
    exact st4 hA h _ _ _ (nn 1 (by decide)) (nn 3 (by decide)) hDi
  · obtain ⟨t, p, a, e, hn⟩ := o5
    have e2 := cond ho e
    subst e2
    have nn := needs_out hn hdep
    exact st5 hA h _ _ _
  · obtain ⟨t, p, a, e, hn⟩ := o6
    have e2 := cond ho e
    subst e2
    have nn := needs_out hn hdep
    exact st6 hA h _ _ _ (nn 5 (by decide)) (fl fun q => by rw [(h.la.2.1 (h.st (.inr (.inl q))).2.1).1] at hDi; cases hDi)
  · obtain ⟨t, p, a, e, hn⟩ := o7
    have e2 := cond ho e
    subst e2
    have nn := needs_out hn hdep
    exact st7 hA h _ _ _ hDi
  · obtain ⟨t, p, a, e, hn⟩ := o8
    have e2 := cond ho e
    subst e2
    have nn := needs_out hn hdep
    exact st8 hA h _ _ _ (nn 7 (by decide))
  · obtain ⟨t, p, a, e, hn⟩ := o9
    have e2 := cond ho e
    subst e2
    have nn := needs_out hn hdep
    exact st9 hA h _ _ _ (nn 4 (by decide)) (nn 6 (by decide)) (c8.1 (nn 8 (by decide))) (nn 8 (by decide)) hDi
  · obtain ⟨t, p, a, e, hn⟩ := o10
    have e2 := cond ho e
    subst e2
    have nn := needs_out hn hdep
    exact st10 hA h _ _ _
  · obtain ⟨t, p, a, e, hn⟩ := o11
    have e2 := cond ho e
    subst e2
    have nn := needs_out hn hdep
    exact st11 hA h _ _ _ (nn 10 (by decide)) (fl fun q => by rw [h.la.2.2 (h.st (.inr (.inr q))).2.2] at hDi; cases hDi)
  · obtain ⟨t, p, a, e, hn⟩ := o12
    have e2 := cond ho e
    subst e2
    have nn := needs_out hn hdep
    exact st12 hA h _ _ _
  · obtain ⟨t, p, a, e, hn⟩ := o13
    have e2 := cond ho e
    subst e2
    have nn := needs_out hn hdep
    exact st13 hA h _ _ _ (nn 12 (by decide))
  · obtain ⟨t, p, a, e, hn⟩ := o14
    have e2 := cond ho e
    subst e2
    have nn := needs_out hn hdep
    exact st14 hA h _ _ _ (nn 11 (by decide)) (nn 13 (by decide)) (nn 9 (by decide)) hDi
  · obtain ⟨t, p, a, e, hn⟩ := o15
    have e2 := cond ho e
    subst e2
    have nn := needs_out hn hdep
    exact st15 hA h _ _ _
  · obtain ⟨t, p, a, e, hn⟩ := o16
    have e2 := cond ho e
    subst e2
    have nn := needs_out hn hdep
    exact st16 hA h _ _ _ (nn 15 (by decide)) (h.la.2.1 (c8.2.2 (nn 14 (by decide)))).2 (c8.1 (c8.2.1 (c8.2.2 (nn 14 (by decide))))) (c8.2.2 (nn 14 (by decide))) (nn 14 (by decide))
  · obtain ⟨t, p, a, e, hn⟩ := o17
    have e2 := cond ho e
    subst e2
    have nn := needs_out hn hdep
    exact st17 hA h _ _ _
  · obtain ⟨t, p, a, e, hn⟩ := o18
    have e2 := cond ho e
    subst e2
    have nn := needs_out hn hdep
    exact st18 hA h _ _ _ (nn 17 (by decide)) (h.la.2.1 (c8.2.2 (h.st (.inl (nn 16 (by decide)))).2.2)).2 (c8.1 (c8.2.1 (c8.2.2 (h.st (.inl (nn 16 (by decide)))).2.2))) (c8.2.2 (h.st (.inl (nn 16 (by decide)))).2.2) (h.st (.inl (nn 16 (by decide)))).2.2
  · obtain ⟨t, p, a, e, hn⟩ := o19
    have e2 := cond ho e
    subst e2
    have nn := needs_out hn hdep
    exact st19 hA h _ _ _
  · obtain ⟨t, p, a, e, hn⟩ := o20
    have e2 := cond ho e
    subst e2
    have nn := needs_out hn hdep
    exact st20 hA h _ _ _ (nn 19 (by decide)) (h.la.2.1 (c8.2.2 (nn 14 (by decide)))).2 (c8.1 (c8.2.1 (c8.2.2 (nn 14 (by decide))))) (c8.2.2 (nn 14 (by decide))) (nn 14 (by decide))
/-- All of it has come up. -/
theorem reg_done {d : Dat} {D : Nat → Bool} {y : Nat → Value} {U : World} (h : Reg d D y U) (hall : ∀ i, i < 21 → D i = true) :
    U.heap[d.Y]? = some (.cells #[.bool d.lf, y 64, y 69, y 74] 86 (0, 0)) ∧ OwnT d.B U (y 64) (d.rs ++ [d.r]) ∧ OwnEs d.B U (y 69) (d.es ++ [d.e]) ∧ OwnIs d.B U (y 74) (d.is ++ [d.c]) ∧
      U.heap[d.X]? = some (.cells #[.bool false, .slice none 0 0, .slice none 0 0, .slice none 0 0] 86 (0, 0)) ∧ d.B ≤ U.heap.size ∧ Below d.w0.heap.size d.w0 U := by
  have hb := h.box
  rw [hall 16 (by omega), hall 18 (by omega), hall 20 (by omega)] at hb
  exact ⟨hb, h.a4 (hall 4 (by omega)), h.b9 (hall 9 (by omega)), h.c14 (hall 14 (by omega)), h.xc, h.bs, h.bw⟩
end Go.Proofs.Ytgbihdlahghonaa
/- The plain mathematics of a tree's pages: rising entries, places, halves. -/
namespace Nd

theorem rises_iff : ∀ (l : List Entry), rises l = true ↔ ∀ j (h : j + 1 < l.length), lessE (l[j]'(by omega)) l[j + 1] = true := by
  intro l
  induction l with
  | nil => simp [rises]
  | cons e l ih =>
    cases l with
    | nil => simp [rises]
    | cons f t =>
      have e1 : rises (e :: f :: t) = (lessE e f && rises (f :: t)) := rfl
      rw [e1, Bool.and_eq_true, ih]
      constructor
      · rintro ⟨h1, h2⟩ j hj
        cases j with
        | zero => exact h1
        | succ j => exact h2 j (by simpa using hj)
      · intro h
        refine ⟨h 0 (by simp), fun j hj => ?_⟩
        have := h (j + 1) (by simpa using hj)
        simpa using this
theorem rises_false {l : List Entry} (j : Nat) (h : j + 1 < l.length) (hl : lessE (l[j]'(by omega)) l[j + 1] = false) : rises l = false := by
  cases hr : rises l with
  | false => rfl
  | true => rw [(rises_iff l).1 hr j h] at hl; cases hl
theorem rises_lt {l : List Entry} (hr : rises l = true) : ∀ (d i : Nat) (h : i + d + 1 < l.length), lessE (l[i]'(by omega)) (l[i + d + 1]'h) = true := by
  intro d
  induction d with
  | zero => intro i h; exact (rises_iff l).1 hr i h
  | succ d ih =>
    intro i h
    exact less_trans (ih i (by omega)) ((rises_iff l).1 hr (i + d + 1) (by omega))
theorem rises_less {l : List Entry} (hr : rises l = true) {i j : Nat} (hij : i < j) (hj : j < l.length) : lessE (l[i]'(by omega)) l[j] = true := by
  obtain ⟨d, rfl⟩ : ∃ d, j = i + d + 1 := ⟨j - i - 1, by omega⟩
  exact rises_lt hr d i hj
/-- One that is not less than one ahead of it is not less than that. -/
theorem less_of_less_not {a b c : Entry} (h1 : lessE a b = true) (h2 : lessE c b = false) : lessE a c = true := by
  by_cases hne : b = c
  · subst hne; exact h1
  · rcases less_total hne with h | h
    · exact less_trans h1 h
    · rw [h] at h2; cases h2
theorem not_less_of {a b c : Entry} (h1 : lessE a b = true) (h2 : lessE a c = false) : lessE b c = false := by
  cases h : lessE b c with
  | false => rfl
  | true => rw [less_trans h1 h] at h2; cases h2

/-- Where an entry is, or would be. -/
def placeE (l : List Entry) (e : Entry) : Nat := (l.takeWhile fun x => lessE x e).length
def foundE (l : List Entry) (e : Entry) : Bool := match l[placeE l e]? with
  | some x => ordE x e == 0
  | none => false
theorem takeWhile_len {α : Type} (p : α → Bool) : ∀ (l : List α) (i : Nat), i ≤ l.length → (∀ j (h : j < l.length), j < i → p l[j] = true) → (∀ (h : i < l.length), p l[i] = false) → (l.takeWhile p).length = i := by
  intro l
  induction l with
  | nil => intro i hi _ _; simp at hi; simp [hi]
  | cons a l ih =>
    intro i hi h1 h2
    cases i with
    | zero =>
      have := h2 (by simp)
      simp at this
      simp [this]
    | succ i =>
      have h0 := h1 0 (by simp) (by omega)
      simp at h0
      rw [List.takeWhile_cons, if_pos h0, List.length_cons]
      congr 1
      refine ih i (by simpa using hi) (fun j h hj => ?_) (fun h => ?_)
      · have := h1 (j + 1) (by simpa using h) (by omega)
        simpa using this
      · have := h2 (by simpa using h)
        simpa using this
theorem place_is {l : List Entry} {e : Entry} {i : Nat} (hi : i ≤ l.length) (h1 : ∀ j (h : j < l.length), j < i → lessE l[j] e = true) (h2 : ∀ (h : i < l.length), lessE l[i] e = false) : placeE l e = i :=
  takeWhile_len _ l i hi h1 h2
theorem place_le (l : List Entry) (e : Entry) : placeE l e ≤ l.length := by
  unfold placeE
  exact (List.takeWhile_prefix _).length_le
theorem takeWhile_yes {α : Type} (p : α → Bool) : ∀ (l : List α) (j : Nat), j < (l.takeWhile p).length → ∀ h : j < l.length, p l[j] = true := by
  intro l
  induction l with
  | nil => intro j _ h; simp at h
  | cons a l ih =>
    intro j hj h
    by_cases ha : p a = true
    · rw [List.takeWhile_cons, if_pos ha, List.length_cons] at hj
      cases j with
      | zero => exact ha
      | succ j => exact ih j (by omega) (by simpa using h)
    · rw [List.takeWhile_cons, if_neg ha] at hj
      simp at hj
theorem takeWhile_no {α : Type} (p : α → Bool) : ∀ (l : List α) (j : Nat), j = (l.takeWhile p).length → ∀ h : j < l.length, p l[j] = false := by
  intro l
  induction l with
  | nil => intro j _ h; simp at h
  | cons a l ih =>
    intro j hj h
    by_cases ha : p a = true
    · rw [List.takeWhile_cons, if_pos ha, List.length_cons] at hj
      subst hj
      exact ih _ rfl (by simpa using h)
    · rw [List.takeWhile_cons, if_neg ha] at hj
      subst hj
      simpa using ha
theorem place_before {l : List Entry} {e : Entry} {j : Nat} (h : j < placeE l e) (hl : j < l.length) : lessE l[j] e = true := takeWhile_yes _ l j h hl
theorem place_not {l : List Entry} {e : Entry} (h : placeE l e < l.length) : lessE (l[placeE l e]) e = false := takeWhile_no (fun x => lessE x e) l _ rfl h
/-- Behind the place none is less. -/
theorem place_after {l : List Entry} {e : Entry} (hr : rises l = true) {j : Nat} (h : placeE l e ≤ j) (hl : j < l.length) : lessE l[j] e = false := by
  rcases Nat.lt_or_eq_of_le h with h1 | h1
  · exact not_less_of (rises_less hr h1 hl) (place_not (by omega))
  · exact takeWhile_no (fun x => lessE x e) l j h1.symm hl

/-- A node's place of an entry: the last of the first k that does not stand behind it. -/
def nodeAt (l : List Entry) (e : Entry) : Nat → Nat
  | 0 => 0
  | k + 1 => match l[k]? with
    | some x => if k = 0 ∨ lessE e x = true then nodeAt l e k else k
    | none => nodeAt l e k
theorem nodeAt_lt (l : List Entry) (e : Entry) : ∀ k, k ≤ l.length → nodeAt l e k < l.length ∨ nodeAt l e k = 0 := by
  intro k
  induction k with
  | zero => intro _; exact .inr rfl
  | succ k ih =>
    intro hk
    unfold nodeAt
    rw [List.getElem?_eq_getElem (by omega)]
    simp only
    split
    · exact ih (by omega)
    · exact .inl (by omega)
end Nd
/- Slices of entries that are read: what their cells hold. -/
namespace Go.Proofs.Ytgbihdlahghonaa
open Go.RowKit

/-- The cells of block b from off on read as entries. -/
def EntsAt (w : World) (b off : Nat) (l : List Nd.Entry) : Prop :=
  ∀ j (h : j < l.length), w.cell? ⟨b, off + j * 3, none⟩ = some (.string l[j].key) ∧ w.cell? ⟨b, off + j * 3 + 1, none⟩ = some (.int .i64 l[j].page) ∧ w.cell? ⟨b, off + j * 3 + 2, none⟩ = some (.int .i64 l[j].slot)
/-- The slice at A, of capacity c, reads as the entries l. -/
def CellsE (w : World) (A : Option Addr) (c : Nat) (l : List Nd.Entry) : Prop :=
  0 < l.length → ∃ b off, A = some ⟨b, off, none⟩ ∧ l.length ≤ c ∧ b < w.heap.size ∧ EntsAt w b off l
theorem CellsE.below {w w' : World} {A : Option Addr} {c : Nat} {l : List Nd.Entry} (h : CellsE w A c l) (hb : Below w.heap.size w w') : CellsE w' A c l := fun h0 => by
  obtain ⟨b, off, hA, hc, hlt, hcell⟩ := h h0
  refine ⟨b, off, hA, hc, Nat.lt_of_lt_of_le hlt hb.size, fun j hj => ?_⟩
  obtain ⟨h1, h2, h3⟩ := hcell j hj
  refine ⟨?_, ?_, ?_⟩
  · rw [hb.cell (p := ⟨b, off + j * 3, none⟩) hlt]; exact h1
  · rw [hb.cell (p := ⟨b, off + j * 3 + 1, none⟩) hlt]; exact h2
  · rw [hb.cell (p := ⟨b, off + j * 3 + 2, none⟩) hlt]; exact h3
theorem entCells_get : ∀ (l : List Nd.Entry) (j : Nat) (h : j < l.length), (entCells l)[j * 3]? = some (.string l[j].key) ∧ (entCells l)[j * 3 + 1]? = some (.int .i64 l[j].page) ∧ (entCells l)[j * 3 + 2]? = some (.int .i64 l[j].slot) := by
  intro l
  induction l with
  | nil => intro j h; simp at h
  | cons e l ih =>
    intro j h
    have e1 : entCells (e :: l) = .string e.key :: .int .i64 e.page :: .int .i64 e.slot :: entCells l := rfl
    rw [e1]
    cases j with
    | zero => exact ⟨rfl, rfl, rfl⟩
    | succ j =>
      have h' : j < l.length := by simpa using h
      obtain ⟨h1, h2, h3⟩ := ih j h'
      refine ⟨?_, ?_, ?_⟩
      · rw [show (j + 1) * 3 = j * 3 + 3 by omega]; simpa using h1
      · rw [show (j + 1) * 3 + 1 = j * 3 + 1 + 3 by omega]; simpa using h2
      · rw [show (j + 1) * 3 + 2 = j * 3 + 2 + 3 by omega]; simpa using h3
/-- An own slice of entries: its form. -/
theorem ownEs_form {B : Nat} {w : World} {v : Value} {l : List Nd.Entry} (h : OwnEs B w v l) :
    (v = .slice none 0 0 ∧ l = []) ∨ ∃ g cap, v = .slice (some ⟨g, 0, none⟩) l.length cap ∧ B ≤ g ∧ g < w.heap.size ∧ l.length ≤ cap ∧ cap ≤ maxLen ∧ EntsAt w g 0 l := by
  obtain ⟨h1, h2⟩ := h
  rcases h2 with ⟨rfl, h0⟩ | ⟨g, cap, cur, rfl, hg, hh, hn, hm, hs, ht⟩
  · exact .inl ⟨rfl, List.eq_nil_of_length_eq_zero h0⟩
  · refine .inr ⟨g, cap, rfl, hg, heap_lt hh, hn, hm, fun j hj => ?_⟩
    obtain ⟨k1, k2, k3⟩ := entCells_get l j hj
    rw [← ht] at k1 k2 k3
    rw [List.getElem?_take, if_pos (by omega), Array.getElem?_toList] at k1 k2 k3
    refine ⟨?_, ?_, ?_⟩
    · rw [cell_of_blk hh, Nat.zero_add]; exact k1
    · rw [cell_of_blk hh, Nat.zero_add]; exact k2
    · rw [cell_of_blk hh, Nat.zero_add]; exact k3
theorem ownEs_cells {B : Nat} {w : World} {v : Value} {l : List Nd.Entry} (h : OwnEs B w v l) : ∃ A c, v = .slice A l.length c ∧ CellsE w A c l := by
  rcases ownEs_form h with ⟨rfl, rfl⟩ | ⟨g, cap, rfl, _, hlt, hn, _, he⟩
  · exact ⟨none, 0, rfl, fun h0 => absurd h0 (by simp)⟩
  · exact ⟨_, _, rfl, fun _ => ⟨g, 0, rfl, hn, hlt, he⟩⟩
theorem entsAt_drop {w : World} {b off : Nat} {l : List Nd.Entry} (h : EntsAt w b off l) : EntsAt w b (off + 3) (l.drop 1) := fun j hj => by
  rw [List.length_drop] at hj
  obtain ⟨h1, h2, h3⟩ := h (j + 1) (by omega)
  have e : (l.drop 1)[j]'(by rw [List.length_drop]; exact hj) = l[j + 1] := by rw [List.getElem_drop]; congr 1; omega
  rw [e]
  refine ⟨?_, ?_, ?_⟩
  · rw [← h1]; congr 2; omega
  · rw [← h2]; congr 2; omega
  · rw [← h3]; congr 2; omega
theorem own_mono {w : World} {B B' : Nat} {e : TypeId} {size n : Nat} {v : Value} {xs : List Value} (h : w.ownsRow B e size v n xs) (hb : B' ≤ B) : w.ownsRow B' e size v n xs := by
  refine ⟨h.1, ?_⟩
  rcases h.2 with h2 | ⟨g, cap, cur, hv, hg, h3⟩
  · exact .inl h2
  · exact .inr ⟨g, cap, cur, hv, Nat.le_trans hb hg, h3⟩
theorem own_len {B n size : Nat} {e : TypeId} {v : Value} {xs : List Value} {w : World} (h : w.ownsRow B e size v n xs) : ∃ a c, v = .slice a n c := by
  rcases h.2 with ⟨rfl, h0⟩ | ⟨g', cap, cur, rfl, _⟩
  · exact ⟨_, _, by rw [h0]⟩
  · exact ⟨_, _, rfl⟩
/-- The first k neighbours of a list rise. -/
def LessTo (l : List Nd.Entry) (k : Nat) : Prop := ∀ j (h : j + 1 < l.length), j < k → Nd.lessE (l[j]'(by omega)) l[j + 1] = true
theorem lessTo_zero (l : List Nd.Entry) : LessTo l 0 := fun _ _ h => absurd h (by omega)
theorem lessTo_succ {l : List Nd.Entry} {k : Nat} (h : LessTo l k) (hk : k + 1 < l.length) (hl : Nd.lessE (l[k]'(by omega)) l[k + 1] = true) : LessTo l (k + 1) := fun j hj hjk => by
  rcases Nat.lt_or_eq_of_le (Nat.le_of_lt_succ hjk) with h1 | h1
  · exact h j hj h1
  · subst h1; exact hl
theorem lessTo_all {l : List Nd.Entry} {k : Nat} (h : LessTo l k) (hk : l.length ≤ k + 1) : Nd.rises l = true := (Nd.rises_iff l).2 fun j hj => h j hj (by omega)
/-- Two entries in one block, while nothing but new blocks is made. -/
abbrev HeldL (g i j : Nat) (a b : Nd.Entry) (w0 u : World) : Prop :=
  u.cell? ⟨g, i, none⟩ = some (.string a.key) ∧ u.cell? ⟨g, i + 1, none⟩ = some (.int .i64 a.page) ∧ u.cell? ⟨g, i + 2, none⟩ = some (.int .i64 a.slot) ∧
  u.cell? ⟨g, j, none⟩ = some (.string b.key) ∧ u.cell? ⟨g, j + 1, none⟩ = some (.int .i64 b.page) ∧ u.cell? ⟨g, j + 2, none⟩ = some (.int .i64 b.slot) ∧ g < u.heap.size ∧ Below w0.heap.size w0 u
theorem HeldL.step {g i j : Nat} {a b : Nd.Entry} {w0 u v : World} (h : HeldL g i j a b w0 u) (hb : Below u.heap.size u v) : HeldL g i j a b w0 v := by
  obtain ⟨h0, h1, h2, h3, h4, h5, h6, h7⟩ := h
  have := hb.size
  refine ⟨?_, ?_, ?_, ?_, ?_, ?_, by omega, andThen h7 hb⟩
  · rw [hb.cell (p := ⟨g, i, none⟩) h6]; exact h0
  · rw [hb.cell (p := ⟨g, i + 1, none⟩) h6]; exact h1
  · rw [hb.cell (p := ⟨g, i + 2, none⟩) h6]; exact h2
  · rw [hb.cell (p := ⟨g, j, none⟩) h6]; exact h3
  · rw [hb.cell (p := ⟨g, j + 1, none⟩) h6]; exact h4
  · rw [hb.cell (p := ⟨g, j + 2, none⟩) h6]; exact h5
theorem heldL_of {w : World} {g off i j : Nat} {l : List Nd.Entry} (h : EntsAt w g off l) (hg : g < w.heap.size) (hi : i < l.length) (hj : j < l.length) : HeldL g (off + i * 3) (off + j * 3) l[i] l[j] w w :=
  ⟨(h i hi).1, (h i hi).2.1, (h i hi).2.2, (h j hj).1, (h j hj).2.1, (h j hj).2.2, hg, Below.refl _ _⟩
theorem own_after {wm wr : World} {B N X n size : Nat} {e : TypeId} {v : Value} {xs : List Value} (h : wm.ownsRow B e size v n xs) (hb : Below wm.heap.size wm wr) (hN : N ≤ B) (hX : X < B) (u0 u1 u2 u3 : Value) :
    ((((wr.setCell ⟨X, 0, none⟩ u0).setCell ⟨X, 1, none⟩ u1).setCell ⟨X, 2, none⟩ u2).setCell ⟨X, 3, none⟩ u3).ownsRow N e size v n xs :=
  own_mono (ownsRow_set (ownsRow_set (ownsRow_set (ownsRow_set (ownsRow_below h hb) ⟨X, 0, none⟩ u0 hX) ⟨X, 1, none⟩ u1 hX) ⟨X, 2, none⟩ u2 hX) ⟨X, 3, none⟩ u3 hX) hN
theorem CellsE.at_ {w : World} {A : Option Addr} {c : Nat} {l : List Nd.Entry} (h : CellsE w A c l) (h0 : 0 < l.length) : ∃ b off, A = some ⟨b, off, none⟩ ∧ l.length ≤ c ∧ b < w.heap.size ∧ EntsAt w b off l := h h0
end Go.Proofs.Ytgbihdlahghonaa
