/- The plain law of the disk and of what the log does with it. -/
import Derived.Test.YtojaagnfjenhoaaGs03
import Derived.Test.YtojaagnfjenhoaaGs02
import Derived.Test.YtojaagnfjenhoaaGs01
import Derived.OrdersHeld
import Derived.Deep.RegionHeld3
namespace Lg
structure Dk where
  sectors : List ByteArray
  left : Int
  down : Bool
structure Lo where
  from_ : Int
  n : Int
  end_ : Int
  safe : Int
  tail : ByteArray
instance : DecidableEq Lo := fun a b =>
  if h : a.from_ = b.from_ ∧ a.n = b.n ∧ a.end_ = b.end_ ∧ a.safe = b.safe ∧ a.tail = b.tail then
    .isTrue (by obtain ⟨a1, a2, a3, a4, a5⟩ := a; obtain ⟨b1, b2, b3, b4, b5⟩ := b; simp only at h; obtain ⟨rfl, rfl, rfl, rfl, rfl⟩ := h; rfl)
  else .isFalse (fun e => h (by subst e; exact ⟨rfl, rfl, rfl, rfl, rfl⟩))
def noLog : Lo := ⟨0, 0, 0, 0, ⟨#[]⟩⟩
def zero128 : ByteArray := ⟨(List.replicate 128 0).toArray⟩
theorem zero128_size : zero128.size = 128 := by unfold zero128; show (List.replicate 128 (0 : UInt8)).toArray.size = _; simp
def newD (n : Nat) : Dk := ⟨List.replicate n zero128, -1, false⟩
def armD (d : Dk) (n : Int) : Dk := { d with left := if n < 0 then -1 else n }
def startD (d : Dk) : Dk := { d with left := -1, down := false }
/-- Is there such a sector? -/
def hasD (d : Dk) (at_ : Int) : Prop := 0 ≤ at_ ∧ at_ < (d.sectors.length : Int)
instance (d : Dk) (a : Int) : Decidable (hasD d a) := by unfold hasD; exact inferInstance
def secAt (d : Dk) (at_ : Int) : ByteArray := d.sectors[at_.toNat]?.getD ⟨#[]⟩
def readD (d : Dk) (at_ : Int) : ByteArray × Int := if d.down then (⟨#[]⟩, 20) else if hasD d at_ then (secAt d at_, 0) else (⟨#[]⟩, 1)
def writeD (d : Dk) (at_ : Int) (b : ByteArray) : Dk × Int :=
  if d.down then (d, 20) else if ¬ (hasD d at_ ∧ b.size = 128) then (d, 1) else if d.left = 0 then ({ d with down := true }, 20)
  else ({ d with sectors := d.sectors.set at_.toNat b, left := if 0 < d.left then d.left - 1 else d.left }, 0)
/-- Some sectors, one behind the other: their bytes, or the first fault. -/
def secsD (d : Dk) (from_ : Int) : Nat → Except Int (List UInt8)
  | 0 => .ok []
  | n + 1 => if (readD d from_).2 = 0 then match secsD d (from_ + 1) n with
    | .ok l => .ok ((readD d from_).1.data.toList ++ l)
    | .error e => .error e
    else .error (readD d from_).2
/-- A text in sectors. -/
def pad128 (l : List UInt8) : ByteArray := ⟨(l ++ List.replicate (128 - l.length) 0).toArray⟩
theorem pad128_size {l : List UInt8} (h : l.length ≤ 128) : (pad128 l).size = 128 := by
  unfold pad128
  show (l ++ List.replicate (128 - l.length) (0 : UInt8)).toArray.size = _
  simp; omega
def cutW (l : List UInt8) : List ByteArray := if _h : l = [] then [] else pad128 (l.take 128) :: cutW (l.drop 128)
termination_by l.length
decreasing_by
  cases l with
  | nil => contradiction
  | cons a l => simp; omega
theorem cutW_nil : cutW [] = [] := by rw [cutW]; simp
theorem cutW_cons {l : List UInt8} (h : l ≠ []) : cutW l = pad128 (l.take 128) :: cutW (l.drop 128) := by
  conv => lhs; rw [cutW]
  rw [dif_neg h]
def cutB (s : ByteArray) : List ByteArray := cutW s.data.toList
theorem cutW_size (n : Nat) : ∀ l : List UInt8, l.length ≤ n → ∀ b ∈ cutW l, b.size = 128 := by
  induction n with
  | zero =>
    intro l hl b hb
    rw [List.eq_nil_of_length_eq_zero (l := l) (by omega), cutW_nil] at hb
    cases hb
  | succ n ih =>
    intro l hl b hb
    by_cases h : l = []
    · rw [h, cutW_nil] at hb; cases hb
    · rw [cutW_cons h] at hb
      rcases List.mem_cons.1 hb with h1 | h1
      · rw [h1]; exact pad128_size (by rw [List.length_take]; omega)
      · have h0 : 0 < l.length := by cases l with
          | nil => contradiction
          | cons a l => simp
        exact ih _ (by rw [List.length_drop]; omega) b h1
theorem cutW_length (n : Nat) : ∀ l : List UInt8, l.length ≤ n → (cutW l).length = (l.length + 127) / 128 := by
  induction n with
  | zero =>
    intro l hl
    rw [List.eq_nil_of_length_eq_zero (l := l) (by omega), cutW_nil]; rfl
  | succ n ih =>
    intro l hl
    by_cases h : l = []
    · rw [h, cutW_nil]; rfl
    · have h0 : 0 < l.length := by cases l with
        | nil => contradiction
        | cons a l => simp
      rw [cutW_cons h, List.length_cons, ih _ (by rw [List.length_drop]; omega), List.length_drop]
      omega
theorem cutB_length (s : ByteArray) : (cutB s).length = (s.size + 127) / 128 := by
  unfold cutB; rw [cutW_length _ _ (Nat.le_refl _)]; simp
theorem cutB_size (s : ByteArray) : ∀ b ∈ cutB s, b.size = 128 := cutW_size _ _ (Nat.le_refl _)
/-- All sectors of a row are written, from the last one to the first. -/
def putAll (base : Int) (all : List ByteArray) : Nat → Dk → Dk × Int
  | 0, d => (d, 0)
  | i + 1, d => if (writeD d (base + (i : Int)) (all[i]?.getD ⟨#[]⟩)).2 = 0 then putAll base all i (writeD d (base + (i : Int)) (all[i]?.getD ⟨#[]⟩)).1 else writeD d (base + (i : Int)) (all[i]?.getD ⟨#[]⟩)
def firstS (l : Lo) : Int := (l.end_ - (l.tail.size : Int)) / 128
def allS (l : Lo) : List ByteArray := if firstS l + (cutB l.tail).length < l.n then cutB l.tail ++ [zero128] else cutB l.tail
def forcedL (l : Lo) : Lo := { l with safe := l.end_, tail := l.tail.extract (l.tail.size - (l.end_ % 128).toNat) l.tail.size }
def forceD (d : Dk) (l : Lo) : Dk × Lo × Int :=
  if l.safe = l.end_ then (d, l, 0) else
  let x := putAll (l.from_ + firstS l) (allS l) (allS l).length d
  if x.2 = 0 then (x.1, forcedL l, 0) else (x.1, l, x.2)
noncomputable def openD (d : Dk) (from_ n : Int) : Lo × List Rc.Rec × Int :=
  match secsD d from_ n.toNat with
  | .error e => (noLog, [], e)
  | .ok s =>
    let x := openL s (s.length + 1) 0
    (⟨from_, n, (x.2 : Int), (x.2 : Int), ⟨((s.take x.2).drop (x.2 - x.2 % 128)).toArray⟩⟩, x.1, 0)
open Classical in
noncomputable def appendD (l : Lo) (r : Rc.Rec) : Lo × Int × Int :=
  let r' : Rc.Rec := { r with lsn := l.end_ + 1 }
  if ¬ Rc.Right r' then (l, 0, 1) else
  if l.n * 128 - ((putR r').length : Int) < l.end_ then (l, 0, 18) else
  ({ l with end_ := l.end_ + ((putR r').length : Int), tail := l.tail ++ ⟨(putR r').toArray⟩ }, l.end_ + 1, 0)
/-- What Read answers: a record, or a fault. -/
noncomputable def readL (d : Dk) (l : Lo) (lsn : Int) : Except Int Rc.Rec :=
  if lsn < 1 ∨ l.end_ < lsn then .error 21 else
  let base := (l.end_ - (l.tail.size : Int)) / 128
  let first := min ((lsn - 1) / 128) base
  match secsD d (l.from_ + first) (base - first).toNat with
  | .error e => .error e
  | .ok s => match getO (s ++ l.tail.data.toList) (lsn - 1 - first * 128).toNat with
    | none => .error 21
    | some (r, _) => if r.lsn = lsn then .ok r else .error 21
end Lg
/- Words for memory that serve every seat: one element is appended, whatever it is. -/
namespace Go.Proofs.Ytojaagnfjenhoaa
open Go.RowKit
theorem wantedIf {c : Prop} [Decidable c] {p q : Prop} (hc : c) (h : p) : if c then p else q := by rw [if_pos hc]; exact h
/-- One element is appended to a row of the call's own. -/
theorem wp_push {P : Program} {o : Oper} {a : Act} {K : Act → World → Prop} {Q : Exit → Act → World → Prop} (w : World) (s x : Operand) (t e : TypeId) {z : Value} {size bytes : Nat}
    (ht : P.underlying t = some (.slice e)) (hi : (P.info? e).map (fun i => (i.zero, i.size, i.bytes)) = some (some z, size, bytes)) (hzc : z.cells.size = size) (hpos : 0 < size) (hby : bytes ≤ 1024)
    (ho : o.op = .call { callee := .builtin .append, args := #[s, x], argTypes := #[t, t] })
    (B : Nat) (v : Value) (n : Nat) (xs : List Value) (hs : a.eval s = v) (hown : w.ownsRow B e size v n xs) (g : Nat) (cs : List Value) (T : TypeId) (hx : a.eval x = .slice (some ⟨g, 0, none⟩) 1 1) (hg : w.heap[g]? = some (.cells cs.toArray T (0, 0)))
    (hcl : cs.length = size) (h1 : ∀ u ∈ cs, u.oneCell' = true) (hlen : n + 1 ≤ 1048576) (hbase : B ≤ w.heap.size)
    (h : ∀ v' w', w'.ownsRow B e size v' (n + 1) (xs ++ cs) → w.grownBy w' v.ownBlock → Below B w w' → K (a.put o.dst v') w') : o.wp P a w K Q := by
  obtain ⟨i0, hi, hz0, hz1, hz2⟩ := info_parts hi
  exact wp_appR w s x t e i0 _ size bytes ht hi hz0 hz1 hz2 hzc hpos ho B v n xs hs hown _ 1 1 cs hx (reads_blk (cs := cs) hg (Nat.le_refl _)) (by omega) h1 hlen hby hbase h
theorem wpList_push {P : Program} {ops : Array Oper} {rest : List Oper} {o : Oper} {a : Act} {Q : Exit → Act → World → Prop} {w : World} (hw : Region.wanted o (yielded ops a.tmps) = true) (s x : Operand) (t e : TypeId) {z : Value} {size bytes : Nat}
    (ht : P.underlying t = some (.slice e)) (hi : (P.info? e).map (fun i => (i.zero, i.size, i.bytes)) = some (some z, size, bytes)) (hzc : z.cells.size = size) (hpos : 0 < size) (hby : bytes ≤ 1024)
    (ho : o.op = .call { callee := .builtin .append, args := #[s, x], argTypes := #[t, t] })
    (B : Nat) (v : Value) (n : Nat) (xs : List Value) (hs : a.eval s = v) (hown : w.ownsRow B e size v n xs) (g : Nat) (cs : List Value) (T : TypeId) (hx : a.eval x = .slice (some ⟨g, 0, none⟩) 1 1) (hg : w.heap[g]? = some (.cells cs.toArray T (0, 0)))
    (hcl : cs.length = size) (h1 : ∀ u ∈ cs, u.oneCell' = true) (hlen : n + 1 ≤ 1048576) (hbase : B ≤ w.heap.size)
    (h : ∀ v' w', w'.ownsRow B e size v' (n + 1) (xs ++ cs) → w.grownBy w' v.ownBlock → Below B w w' → wpList P ops Q rest (a.put o.dst v') w') : wpList P ops Q (o :: rest) a w :=
  listWants hw fun _ hK => wp_push w s x t e ht hi hzc hpos hby ho B v n xs hs hown g cs T hx hg hcl h1 hlen hbase (fun v' w' a b c => hK _ _ (h v' w' a b c))
/-- The slice v is a row of the call's own that reads as the list l. -/
abbrev OwnL {α : Type} (enc : α → List Value) (k : Nat) (e : TypeId) (B : Nat) (w : World) (v : Value) (l : List α) : Prop := w.ownsRow B e k v l.length (l.flatMap enc)
theorem OwnL.push {α : Type} {enc : α → List Value} {k : Nat} {e : TypeId} {B : Nat} {w : World} {v : Value} {l : List α} {x : α} (h : w.ownsRow B e k v (l.length + 1) (l.flatMap enc ++ enc x)) : OwnL enc k e B w v (l ++ [x]) := by
  unfold OwnL
  rw [List.length_append, List.flatMap_append]
  simpa using h
theorem OwnL.form {α : Type} {enc : α → List Value} {k : Nat} {e : TypeId} {B : Nat} {w : World} {v : Value} {l : List α} (h : OwnL enc k e B w v l) : ∃ A c, v = .slice A l.length c ∧ Reads w A c l.length (l.flatMap enc) := by
  obtain ⟨A, c, rfl⟩ := ownLen h
  exact ⟨A, c, rfl, own_reads h⟩
/-- A row of the call's own, where one older block alone turns. -/
theorem ownKept {w w' : World} {B b : Nat} {e : TypeId} {size n : Nat} {v : Value} {xs : List Value} (h : w.ownsRow B e size v n xs) (hb : b < B) (hk : KeptB w.heap.size b w w') : w'.ownsRow B e size v n xs := by
  refine ⟨h.1, ?_⟩
  rcases h.2 with hz | ⟨g, cap, cur, hv, hg, hh, r⟩
  · exact .inl hz
  · exact .inr ⟨g, cap, cur, hv, hg, (hk.block g (heapLt hh) (by omega)).trans hh, r⟩
/-- A row of the call's own and a block of another kind are apart. -/
theorem ownApart {w : World} {B g n size : Nat} {e t : TypeId} {v : Value} {xs : List Value} {cs : Array Value} {fr : Nat × Nat} (h : w.ownsRow B e size v n xs) (hg : w.heap[g]? = some (.cells cs t fr)) (hne : e ≠ t) : v.ownBlock ≠ some g := by
  rcases h.2 with ⟨rfl, _⟩ | ⟨g', cap, cur, rfl, _, hh, _⟩
  · simp [Value.ownBlock]
  · intro he
    have hgg : g' = g := by simpa [Value.ownBlock] using he
    subst hgg
    rw [hh] at hg
    injection hg with hg
    injection hg with _ ht
    exact hne ht
/-- Two rows of the call's own, of unlike kinds: the one grows, the other stays. -/
theorem ownGrown {w w' : World} {B n m size size' : Nat} {e e' : TypeId} {v v' : Value} {xs xs' : List Value} (h : w.ownsRow B e size v n xs) (h' : w.ownsRow B e' size' v' m xs') (hne : e ≠ e') (hg : w.grownBy w' v'.ownBlock) : w'.ownsRow B e size v n xs := by
  refine ⟨h.1, ?_⟩
  rcases h.2 with hz | ⟨g, cap, cur, hv, hgB, hh, r⟩
  · exact .inl hz
  · exact .inr ⟨g, cap, cur, hv, hgB, (hg.block g (heapLt hh) (fun e1 => ownApart h' hh (fun e2 => hne e2.symm) e1.symm)).trans hh, r⟩
end Go.Proofs.Ytojaagnfjenhoaa
/- The walks over package disk: Read. -/
namespace Go.Proofs.Ytojaagnfjenhoaa
open Go.RowKit
def strC (b : ByteArray) : List Value := [.string b]
theorem strC_len (b : ByteArray) : (strC b).length = 1 := rfl
theorem strC_map (l : List ByteArray) : l.flatMap strC = l.map Value.string := by
  induction l with
  | nil => rfl
  | cons b l ih => rw [List.flatMap_cons, ih]; rfl
abbrev diskV (d : Lg.Dk) (A : Option Addr) (c : Nat) : Value := .agg #[.slice A d.sectors.length c, .int .i64 d.left, .bool d.down]
/-- A disk in memory. -/
structure DiskR (w : World) (d : Lg.Dk) (A : Option Addr) (c : Nat) : Prop where
  secs : Reads w A c d.sectors.length (d.sectors.flatMap strC)
  small : d.sectors.length ≤ 1000000
theorem DiskR.below {w w' : World} {d : Lg.Dk} {A : Option Addr} {c : Nat} (h : DiskR w d A c) (hb : Below w.heap.size w w') : DiskR w' d A c := ⟨h.secs.below hb, h.small⟩
set_option maxRecDepth 100000 in
theorem has_any (d : Lg.Dk) (A : Option Addr) (c : Nat) (a : Int) (w : World) :
    Calls Try.prog 51 #[diskV d A c, .int .i64 a] w fun e w' => e = .returned (.bool (decide (Lg.hasD d a))) ∧ Below w.heap.size w w' := by
  obtain ⟨L, left, down⟩ := d
  by_cases h0 : 0 ≤ a
  · by_cases h1 : a < (L.length : Int)
    · rw [decide_eq_true (show Lg.hasD ⟨L, left, down⟩ a from And.intro h0 h1)]
      go_enter Try.func51, Try.ntmps51
      go_wp2_with fail
      go_ret
      exact ⟨by simp, allocB _ _⟩
    · rw [decide_eq_false (show ¬ Lg.hasD ⟨L, left, down⟩ a from fun h => h1 h.2)]
      go_enter Try.func51, Try.ntmps51
      go_wp2_with fail
      go_ret
      exact ⟨by simp, allocB _ _⟩
  · rw [decide_eq_false (show ¬ Lg.hasD ⟨L, left, down⟩ a from fun h => h0 h.1)]
    go_enter Try.func51, Try.ntmps51
    go_wp2_with fail
    go_ret
    exact ⟨by simp, allocB _ _⟩
set_option maxRecDepth 100000 in
set_option maxHeartbeats 1000000 in
theorem dread_any (d : Lg.Dk) (A : Option Addr) (c : Nat) (a : Int) (w : World) (h : DiskR w d A c) :
    Calls Try.prog 31 #[diskV d A c, .int .i64 a] w fun e w' => e = .returned (.tuple #[.string (Lg.readD d a).1, .int .i64 (Lg.readD d a).2]) ∧ Below w.heap.size w w' := by
  have HH := Lib.hid (fun W => has_any d A c a W)
  have HR := Lib.hid h.secs
  clear h
  unfold Lg.readD
  cases hd : d.down with
  | true =>
    obtain ⟨L, left, down⟩ := d
    simp only at hd
    subst hd
    rw [if_pos rfl]
    dsimp only [diskV]
    go_enter Try.func31, Try.ntmps31
    go_wp2_with fail
    go_ret2
    exact ⟨rfl, allocB _ _⟩
  | false =>
    rw [if_neg (by simp)]
    by_cases hh : Lg.hasD d a
    · rw [if_pos hh]
      rw [decide_eq_true hh] at HH
      obtain ⟨L, left, down⟩ := d
      simp only at hd
      subst hd
      unfold Lg.hasD at hh
      unfold Lg.secAt
      dsimp only [diskV] at hh HH HR ⊢
      obtain ⟨h0, h1⟩ := hh
      obtain ⟨k, rfl⟩ := Int.eq_ofNat_of_zero_le h0
      have hk : k < L.length := by omega
      obtain ⟨b, off, rfl, hc, hbl, hcell⟩ := read_at strC_len HR.out hk
      have q0 := hcell 0 _ rfl
      simp only [Nat.mul_one, Nat.add_zero] at q0
      rw [Int.toNat_natCast, List.getElem?_eq_getElem hk, Option.getD_some]
      generalize L[k] = x at q0 ⊢
      have Q0 := Lib.hid q0
      clear q0 hcell h0
      go_enter Try.func31, Try.ntmps31
      go_upto_region 5 with (go_at_call 51; (with_reducible refine (HH.out _).mono ?_); rintro e w1 ⟨rfl, hb1⟩; have hbx := blkCell (blkNew hb1))
      have q1 : w1.cell? ⟨b, off + k, none⟩ = some (.string x) := (joinB (allocB w _) hb1).cell (p := ⟨b, off + k, none⟩) hbl |>.trans Q0.out
      have HB1 := Lib.hid (joinB (allocB w _) hb1)
      clear hb1
      go_wp2_with fail
      go_ret2
      exact ⟨rfl, HB1.out⟩
    · rw [if_neg hh]
      rw [decide_eq_false hh] at HH
      clear hh
      obtain ⟨L, left, down⟩ := d
      simp only at hd
      subst hd
      dsimp only [diskV] at HH ⊢
      go_enter Try.func31, Try.ntmps31
      go_wp2_with (go_at_call 51; (with_reducible refine (HH.out _).mono ?_); rintro e w1 ⟨rfl, hb1⟩)
      go_ret2
      exact ⟨rfl, joinB (allocB _ _) hb1⟩
end Go.Proofs.Ytojaagnfjenhoaa
/- Words for memory that serve every seat: the boxes of a call, one behind the other. -/
namespace Go.Proofs.Ytojaagnfjenhoaa
open Go.RowKit
theorem heap_setRow_other (w : World) (b : Nat) (cs : Array Value) (k : Nat) (h : k ≠ b) : (w.setRow b cs).heap[k]? = w.heap[k]? := by
  show (w.heap.modify b _)[k]? = _
  rw [Array.getElem?_modify, if_neg (fun e => h e.symm)]
/-- The boxes l lie one behind the other from block B on; nothing ahead of w's end has turned. -/
structure BxL (B : Nat) (w : World) (l : List (Array Value × TypeId)) (u : World) : Prop where
  get : ∀ i p, l[i]? = some p → u.heap[B + i]? = some (.cells p.1 p.2 (0, 0))
  low : w.heap.size ≤ B
  below : Below w.heap.size w u
theorem BxL.get0 {B : Nat} {w u : World} {l : List (Array Value × TypeId)} {c0 : Array Value} {T0 : TypeId} (h : BxL B w ((c0, T0) :: l) u) : u.heap[B]? = some (.cells c0 T0 (0, 0)) := h.get 0 _ rfl
theorem BxL.get1 {B : Nat} {w u : World} {l : List (Array Value × TypeId)} {p : Array Value × TypeId} {c1 : Array Value} {T1 : TypeId} (h : BxL B w (p :: (c1, T1) :: l) u) : u.heap[B + 1]? = some (.cells c1 T1 (0, 0)) := h.get 1 _ rfl
theorem BxL.get2 {B : Nat} {w u : World} {l : List (Array Value × TypeId)} {p q : Array Value × TypeId} {c2 : Array Value} {T2 : TypeId} (h : BxL B w (p :: q :: (c2, T2) :: l) u) : u.heap[B + 2]? = some (.cells c2 T2 (0, 0)) := h.get 2 _ rfl
theorem BxL.get3 {B : Nat} {w u : World} {l : List (Array Value × TypeId)} {p q r : Array Value × TypeId} {c3 : Array Value} {T3 : TypeId} (h : BxL B w (p :: q :: r :: (c3, T3) :: l) u) : u.heap[B + 3]? = some (.cells c3 T3 (0, 0)) := h.get 3 _ rfl
theorem BxL.nil {w u : World} (h : Below w.heap.size w u) : BxL u.heap.size w [] u := ⟨fun i p h => (by simp at h), h.size, h⟩
theorem BxL.lt {B : Nat} {w u : World} {l : List (Array Value × TypeId)} (h : BxL B w l u) {i : Nat} (hi : i < l.length) : B + i < u.heap.size := heapLt (h.get i _ (List.getElem?_eq_getElem hi))
theorem BxL.new {B : Nat} {w u : World} {l : List (Array Value × TypeId)} (h : BxL B w l u) (hs : u.heap.size = B + l.length) (cs : Array Value) (T : TypeId) : BxL B w (l ++ [(cs, T)]) (u.alloc (.cells cs T)) := by
  refine ⟨fun i p hp => ?_, h.low, pastAlloc h.below⟩
  by_cases hi : i < l.length
  · rw [List.getElem?_append_left hi] at hp
    exact blkOld (h.get i p hp) (allocB _ _)
  · rw [List.getElem?_append_right (by omega)] at hp
    have h0 : i - l.length = 0 := by
      have := (List.getElem?_eq_some_iff.1 hp).1
      simpa using this
    rw [h0] at hp
    simp only [List.getElem?_cons_zero, Option.some.injEq] at hp
    subst hp
    rw [show B + i = u.heap.size by omega]
    exact heap_alloc_new u _
theorem BxL.step {B : Nat} {w u v : World} {l : List (Array Value × TypeId)} (h : BxL B w l u) (hb : Below u.heap.size u v) : BxL B w l v :=
  ⟨fun i p hp => blkOld (h.get i p hp) hb, h.low, joinB h.below hb⟩
theorem BxL.under {B : Nat} {w u v : World} {l : List (Array Value × TypeId)} (h : BxL B w l u) {M : Nat} (hM : B + l.length ≤ M) (hb : Below M u v) : BxL B w l v := by
  have hl := h.low
  refine ⟨fun i p hp => ?_, h.low, h.below.trans (hb.mono (by omega))⟩
  have hi := (List.getElem?_eq_some_iff.1 hp).1
  exact (hb.block _ (by omega)).trans (h.get i p hp)
theorem BxL.drew {B : Nat} {w u : World} {l : List (Array Value × TypeId)} (h : BxL B w l u) : BxL B w l u.drew := h.step (Below.refl _ _).drew
theorem BxL.set {B : Nat} {w u : World} {l : List (Array Value × TypeId)} (h : BxL B w l u) (i j : Nat) (v : Value) (p : Array Value × TypeId) (hi : l[i]? = some p) : BxL B w (l.set i (p.1.setIfInBounds j v, p.2)) (u.setCell ⟨B + i, j, none⟩ v) := by
  have hil := (List.getElem?_eq_some_iff.1 hi).1
  refine ⟨fun k q hq => ?_, h.low, h.below.setCell (by have := h.low; show _ ≤ B + i; omega) v⟩
  by_cases hk : i = k
  · subst hk
    rw [List.getElem?_set_self hil] at hq
    injection hq with hq
    subst hq
    exact blkSet j (h.get i p hi) v
  · rw [List.getElem?_set_ne hk] at hq
    rw [Below.heap_setCell _ _ _ _ (by show B + k ≠ B + i; omega)]
    exact h.get k q hq
theorem BxL.row {B : Nat} {w u : World} {l : List (Array Value × TypeId)} (h : BxL B w l u) (i : Nat) (cs : Array Value) (p : Array Value × TypeId) (hi : l[i]? = some p) : BxL B w (l.set i (cs, p.2)) (u.setRow (B + i) cs) := by
  have hil := (List.getElem?_eq_some_iff.1 hi).1
  have hl := h.low
  refine ⟨fun k q hq => ?_, h.low, ⟨h.below.os, h.below.tape, h.below.output, by show _ ≤ (u.heap.modify _ _).size; have := h.below.size; simpa using this, fun k hk => (heap_setRow_other _ _ _ _ (by omega)).trans (h.below.block k hk)⟩⟩
  by_cases hk : i = k
  · subst hk
    rw [List.getElem?_set_self hil] at hq
    injection hq with hq
    subst hq
    exact setRow_heap _ _ _ _ _ _ (h.get i p hi)
  · rw [List.getElem?_set_ne hk] at hq
    rw [heap_setRow_other _ _ _ _ (by omega)]
    exact h.get k q hq
/-- What is read at A stays behind a store into a block elsewhere. -/
theorem Reads.off {w : World} {A : Option Addr} {c n : Nat} {vs : List Value} (h : Reads w A c n vs) (b j : Nat) (v : Value) (ha : 0 < n → ∀ ad, A = some ad → ad.block ≠ b) : Reads (w.setCell ⟨b, j, none⟩ v) A c n vs := fun h0 => by
  obtain ⟨g, off, e, hc, hlt, hcell⟩ := h h0
  have hne := ha h0 _ e
  refine ⟨g, off, e, hc, by simpa [World.setCell] using hlt, fun k u hk => ?_⟩
  have := hcell k u hk
  unfold World.cell? at this ⊢
  rw [Below.heap_setCell _ _ _ _ hne]
  exact this
theorem Reads.offRow {w : World} {A : Option Addr} {c n : Nat} {vs : List Value} (h : Reads w A c n vs) (b : Nat) (cs : Array Value) (ha : 0 < n → ∀ ad, A = some ad → ad.block ≠ b) : Reads (w.setRow b cs) A c n vs := fun h0 => by
  obtain ⟨g, off, e, hc, hlt, hcell⟩ := h h0
  have hne := ha h0 _ e
  refine ⟨g, off, e, hc, by show _ < (w.heap.modify _ _).size; simpa using hlt, fun k u hk => ?_⟩
  have := hcell k u hk
  unfold World.cell? at this ⊢
  rw [heap_setRow_other _ _ _ _ hne]
  exact this
theorem Reads.old {w : World} {A : Option Addr} {c n : Nat} {vs : List Value} (h : Reads w A c n vs) (h0 : 0 < n) : ∀ ad, A = some ad → ad.block < w.heap.size := fun ad e => by
  obtain ⟨g, off, e2, _, hlt, _⟩ := h h0
  rw [e2] at e
  injection e with e
  rw [← e]; exact hlt
/-- From w to v only blocks from lo to hi, and new ones, may have turned. -/
structure Apart (lo hi : Nat) (w v : World) : Prop where
  size : w.heap.size ≤ v.heap.size
  block : ∀ k, k < w.heap.size → (k < lo ∨ hi ≤ k) → v.heap[k]? = w.heap[k]?
theorem Apart.refl (lo hi : Nat) (w : World) : Apart lo hi w w := ⟨Nat.le_refl _, fun _ _ _ => rfl⟩
theorem Apart.trans {lo hi : Nat} {u v w : World} (h : Apart lo hi u v) (k : Apart lo hi v w) : Apart lo hi u w := ⟨Nat.le_trans h.size k.size, fun i h1 h2 => (k.block i (Nat.lt_of_lt_of_le h1 h.size) h2).trans (h.block i h1 h2)⟩
theorem Apart.below {lo hi : Nat} {w v : World} (hb : Below w.heap.size w v) : Apart lo hi w v := ⟨hb.size, fun k h1 _ => hb.block k h1⟩
theorem Apart.cell {lo hi : Nat} {u v : World} (h : Apart lo hi u v) (b j : Nat) (x : Value) (h1 : lo ≤ b) (h2 : b < hi) : Apart lo hi u (v.setCell ⟨b, j, none⟩ x) :=
  h.trans ⟨by simp [World.setCell], fun k _ hk => Below.heap_setCell _ _ _ _ (by show k ≠ b; omega)⟩
theorem Apart.row {lo hi : Nat} {u v : World} (h : Apart lo hi u v) (b : Nat) (cs : Array Value) (h1 : lo ≤ b) (h2 : b < hi) : Apart lo hi u (v.setRow b cs) :=
  h.trans ⟨by show _ ≤ (v.heap.modify _ _).size; simp, fun k _ hk => heap_setRow_other _ _ _ _ (by omega)⟩
theorem Apart.drew {lo hi : Nat} {u v : World} (h : Apart lo hi u v) : Apart lo hi u v.drew := h.trans (Apart.below (Below.refl _ _).drew)
theorem Reads.apart {lo hi : Nat} {w v : World} {A : Option Addr} {c n : Nat} {vs : List Value} (h : Reads w A c n vs) (ha : Apart lo hi w v) (hA : 0 < n → ∀ ad, A = some ad → ad.block < lo ∨ hi ≤ ad.block) : Reads v A c n vs := fun h0 => by
  obtain ⟨g, off, e, hc, hlt, hcell⟩ := h h0
  have hne := hA h0 _ e
  refine ⟨g, off, e, hc, Nat.lt_of_lt_of_le hlt ha.size, fun k u hk => ?_⟩
  have := hcell k u hk
  unfold World.cell? at this ⊢
  rw [ha.block _ hlt hne]
  exact this
theorem rowApart {lo hi : Nat} {w w' : World} {B : Nat} {e : TypeId} {size n : Nat} {v : Value} {xs : List Value} (h : w.ownsRow B e size v n xs) (hb : hi ≤ B) (ha : Apart lo hi w w') : w'.ownsRow B e size v n xs := by
  refine ⟨h.1, ?_⟩
  rcases h.2 with hz | ⟨g, cap, cur, hv, hg, hh, r⟩
  · exact .inl hz
  · exact .inr ⟨g, cap, cur, hv, hg, (ha.block g (heapLt hh) (.inr (by omega))).trans hh, r⟩
/-- A row of the call's own, and a store into a block of another kind. -/
theorem ownOther {w : World} {B g n size : Nat} {e t : TypeId} {v : Value} {xs : List Value} {cur : Array Value} {fr : Nat × Nat} (h : w.ownsRow B e size v n xs) (hg : w.heap[g]? = some (.cells cur t fr)) (hne : e ≠ t) (cs : Array Value) : (w.setRow g cs).ownsRow B e size v n xs := by
  refine ⟨h.1, ?_⟩
  rcases h.2 with hz | ⟨g', cap, cur', hv, hgB, hh, r⟩
  · exact .inl hz
  · refine .inr ⟨g', cap, cur', hv, hgB, ?_, r⟩
    rw [heap_setRow_other _ _ _ _ (fun e1 => ?_)]
    · exact hh
    · subst e1
      rw [hh] at hg
      injection hg with hg
      injection hg with _ ht
      exact hne ht
theorem ownCell {w : World} {B g b n size c : Nat} {e t : TypeId} {xs : List Value} {cur : Array Value} {fr : Nat × Nat} (h : w.ownsRow B e size (.slice (some ⟨b, 0, none⟩) n c) n xs) (hg : w.heap[g]? = some (.cells cur t fr)) (hne : e ≠ t) : b ≠ g := by
  rcases h.2 with ⟨hv, _⟩ | ⟨g', cap, cur', hv, _, hh, _⟩
  · cases hv
  · injection hv with h1
    injection h1 with h1
    injection h1 with h1
    subst h1
    intro e1
    subst e1
    rw [hh] at hg
    injection hg with hg
    injection hg with _ ht
    exact hne ht
theorem cellOther {w : World} {g b k : Nat} {x : Value} {o : Obj} {cs : Array Value} (h : w.cell? ⟨b, k, none⟩ = some x) (_hg : w.heap[g]? = some o) (hne : b ≠ g) : (w.setRow g cs).cell? ⟨b, k, none⟩ = some x := by
  unfold World.cell? at h ⊢
  rw [heap_setRow_other _ _ _ _ hne]
  exact h
/-- One element of a row of the call's own turns. -/
theorem ownAt {w : World} {B n : Nat} {e : TypeId} {v : Value} {xs : List Value} (h : w.ownsRow B e 1 v n xs) {k : Nat} (hk : k < n) : ∃ g cap, v = .slice (some ⟨g, 0, none⟩) n cap ∧ B ≤ g ∧ g < w.heap.size ∧ n ≤ cap ∧ w.cell? ⟨g, k, none⟩ = xs[k]? ∧ w.frozen? ⟨g, k, none⟩ = false ∧
    ∀ u, (w.setCell ⟨g, k, none⟩ u).ownsRow B e 1 v n (xs.set k u) := by
  rcases h.2 with ⟨_, hz⟩ | ⟨g, cap, cur, hv, hg, hh, hn, hm, hs, ht⟩
  · omega
  · refine ⟨g, cap, hv, hg, heapLt hh, hn, ?_, blkFrozen hh k, fun u => ⟨by rw [List.length_set]; exact h.1, .inr ⟨g, cap, cur.setIfInBounds k u, hv, hg, blkSet k hh u, hn, hm, by simpa using hs, ?_⟩⟩⟩
    · rw [blkCell hh, ← ht, List.getElem?_take, if_pos (by omega)]
      simp
    · rw [Array.toList_setIfInBounds, List.take_set, ht]
theorem ownRowOff {w : World} {B : Nat} {e : TypeId} {size n : Nat} {v : Value} {xs : List Value} (h : w.ownsRow B e size v n xs) (b : Nat) (cs : Array Value) (hb : b < B) : (w.setRow b cs).ownsRow B e size v n xs := by
  refine ⟨h.1, ?_⟩
  rcases h.2 with hz | ⟨g, cap, cur, hv, hg, hh, r⟩
  · exact .inl hz
  · exact .inr ⟨g, cap, cur, hv, hg, by rw [heap_setRow_other _ _ _ _ (by omega)]; exact hh, r⟩
/-- What lies at A is elsewhere than the blocks from lo to hi. -/
def AwayA (lo hi : Nat) (A : Option Addr) : Prop := ∀ ad, A = some ad → ad.block < lo ∨ hi ≤ ad.block
theorem AwayA.none_ (lo hi : Nat) : AwayA lo hi none := fun _ h => by cases h
theorem AwayA.ne {lo hi b : Nat} {A : Option Addr} (h : AwayA lo hi A) (h1 : lo ≤ b) (h2 : b < hi) : ∀ ad, A = some ad → ad.block ≠ b := fun ad e => by
  rcases h ad e with h3 | h3 <;> omega
/-- What lies at A is no older than block number n. -/
def NewA (n : Nat) (A : Option Addr) : Prop := ∀ ad, A = some ad → n ≤ ad.block
theorem NewA.none_ (n : Nat) : NewA n none := fun _ h => by cases h
theorem NewA.mono {n m : Nat} {A : Option Addr} (h : NewA n A) (hm : m ≤ n) : NewA m A := fun ad e => Nat.le_trans hm (h ad e)
/-- What lies at A is no older than block n, and a row of such a type. -/
def NewT (n : Nat) (w : World) (T : TypeId) (A : Option Addr) : Prop := ∀ ad, A = some ad → n ≤ ad.block ∧ ∃ cs fr, w.heap[ad.block]? = some (.cells cs T fr)
theorem NewT.none_ (n : Nat) (w : World) (T : TypeId) : NewT n w T none := fun _ h => by cases h
theorem NewT.mono {n m : Nat} {w : World} {T : TypeId} {A : Option Addr} (h : NewT n w T A) (hm : m ≤ n) : NewT m w T A := fun ad e => ⟨Nat.le_trans hm (h ad e).1, (h ad e).2⟩
theorem NewT.below {n : Nat} {w w' : World} {T : TypeId} {A : Option Addr} (h : NewT n w T A) (hb : Below w.heap.size w w') : NewT n w' T A := fun ad e => by
  obtain ⟨h1, cs, fr, h2⟩ := h ad e
  exact ⟨h1, cs, fr, blkOld h2 hb⟩
theorem NewT.own {w : World} {B : Nat} {T : TypeId} {size n c : Nat} {A : Option Addr} {xs : List Value} (h : w.ownsRow B T size (.slice A n c) n xs) : NewT B w T A := by
  intro ad hA
  rcases h.2 with ⟨hv, _⟩ | ⟨g, cap, cur, hv, hg, hh, _⟩
  · injection hv with h1; rw [h1] at hA; cases hA
  · injection hv with h1; rw [h1] at hA; injection hA with hA; rw [← hA]; exact ⟨hg, cur, _, hh⟩
theorem NewT.row {n : Nat} {w : World} {T : TypeId} {A : Option Addr} (h : NewT n w T A) (b : Nat) (cs : Array Value) : NewT n (w.setRow b cs) T A := fun ad e => by
  obtain ⟨h1, cs0, fr, h2⟩ := h ad e
  refine ⟨h1, ?_⟩
  by_cases hb : ad.block = b
  · subst hb; exact ⟨cs, fr, setRow_heap _ _ _ _ _ _ h2⟩
  · exact ⟨cs0, fr, (heap_setRow_other _ _ _ _ hb).trans h2⟩
theorem NewT.set {n : Nat} {w : World} {T : TypeId} {A : Option Addr} (h : NewT n w T A) (b j : Nat) (v : Value) : NewT n (w.setCell ⟨b, j, none⟩ v) T A := fun ad e => by
  obtain ⟨h1, cs0, fr, h2⟩ := h ad e
  refine ⟨h1, ?_⟩
  by_cases hb : ad.block = b
  · subst hb; exact ⟨_, fr, blkSet j h2 v⟩
  · exact ⟨cs0, fr, (Below.heap_setCell _ _ _ _ hb).trans h2⟩
theorem NewT.apart {n lo hi : Nat} {w v : World} {T : TypeId} {A : Option Addr} (h : NewT n w T A) (ha : Apart lo hi w v) (hn : hi ≤ n) : NewT n v T A := fun ad e => by
  obtain ⟨h1, cs0, fr, h2⟩ := h ad e
  exact ⟨h1, cs0, fr, (ha.block _ (heapLt h2) (.inr (by omega))).trans h2⟩
theorem NewT.grown {n m size B0 : Nat} {w w' : World} {T e : TypeId} {A : Option Addr} {v : Value} {xs : List Value} (h : NewT n w T A) (ho : w.ownsRow B0 e size v m xs) (hne : e ≠ T) (hg : w.grownBy w' v.ownBlock) : NewT n w' T A := fun ad ea => by
  obtain ⟨h1, cs0, fr, h2⟩ := h ad ea
  exact ⟨h1, cs0, fr, (hg.block _ (heapLt h2) (fun e1 => ownApart ho h2 hne e1.symm)).trans h2⟩
/-- What is read in a row of one kind stays, where a row of another kind grows. -/
theorem NewT.reads {n m size B0 k c : Nat} {w w' : World} {T e : TypeId} {A : Option Addr} {v : Value} {xs vs : List Value} (h : NewT n w T A) (hr : Reads w A c k vs) (ho : w.ownsRow B0 e size v m xs) (hne : e ≠ T) (hg : w.grownBy w' v.ownBlock) : Reads w' A c k vs := fun h0 => by
  obtain ⟨b, off, rfl, e2, e3, e4⟩ := hr h0
  obtain ⟨_, cs0, fr, h2⟩ := h _ rfl
  refine ⟨b, off, rfl, e2, Nat.lt_of_lt_of_le e3 hg.size, fun j u hj => ?_⟩
  have := e4 j u hj
  unfold World.cell? at this ⊢
  rw [hg.block _ e3 (fun e1 => ownApart ho h2 hne e1.symm)]
  exact this
/-- What is read in a row of one kind stays behind a store into a block of another kind. -/
theorem NewT.readsRow {n k c b : Nat} {w : World} {T t : TypeId} {A : Option Addr} {vs : List Value} {cur : Array Value} {fr : Nat × Nat} (h : NewT n w T A) (hr : Reads w A c k vs) (hb : w.heap[b]? = some (.cells cur t fr)) (hne : t ≠ T) (cs : Array Value) : Reads (w.setRow b cs) A c k vs :=
  hr.offRow b cs (fun _ ad e => by
    intro e1
    obtain ⟨_, cs0, fr0, h2⟩ := h ad e
    rw [e1, hb] at h2
    injection h2 with h2
    injection h2 with _ h2
    exact hne h2)
theorem listStore {P : Program} {ops : Array Oper} {rest : List Oper} {op : Oper} {a : Act} {w : World} {Q : Exit → Act → World → Prop} (hw : Region.wanted op (yielded ops a.tmps) = true) (ty : TypeId) (x y : Operand) (ho : op.op = .store ty x y)
    (b : Nat) (cells cur : Array Value) (t : TypeId) (hx : a.eval x = .pointer (some ⟨b, 0, none⟩)) (hy : a.eval y = .agg cells) (hg : w.heap[b]? = some (.cells cur t (0, 0))) (hsz : cur.size = cells.size)
    (hi : (P.info? ty).map (·.size) = some cells.size) (h1 : cells.all (·.oneCell') = true) (h : wpList P ops Q rest (a.put op.dst undef) (w.setRow b cells)) : wpList P ops Q (op :: rest) a w :=
  listWants hw fun _ hK => wp_store_whole ty x y ho b cells cur t hx hy hg hsz hi h1 (hK _ _ h)
theorem results_cell2 {P : Program} {fn : Func} {p q : Tmp} {ty : TypeId} (h : fn.results = #[.cell p ty, .tmp q]) (tmps : Array Value) (w : World) {ad : Addr} (hp : tmps.getD p undef = .pointer (some ad)) {v : Value} (hl : (loadVar ty ad).run P w = .ok v w) {v2 : Value} (h2 : tmps.getD q undef = v2) :
    (results fn tmps).run P w = .ok (.tuple #[v, v2]) w := by
  simp only [results, h]
  have hp' : tmps[p]?.getD undef = .pointer (some ad) := by simpa using hp
  have h2' : tmps[q]?.getD undef = v2 := by simpa using h2
  simp [Result.andThen, hp', h2', asAddr, hl]
theorem results_cell3 {P : Program} {fn : Func} {p q r : Tmp} {ty : TypeId} (h : fn.results = #[.cell p ty, .tmp q, .tmp r]) (tmps : Array Value) (w : World) {ad : Addr} (hp : tmps.getD p undef = .pointer (some ad)) {v : Value} (hl : (loadVar ty ad).run P w = .ok v w) {v2 v3 : Value} (h2 : tmps.getD q undef = v2) (h3 : tmps.getD r undef = v3) :
    (results fn tmps).run P w = .ok (.tuple #[v, v2, v3]) w := by
  simp only [results, h]
  have hp' : tmps[p]?.getD undef = .pointer (some ad) := by simpa using hp
  have h2' : tmps[q]?.getD undef = v2 := by simpa using h2
  have h3' : tmps[r]?.getD undef = v3 := by simpa using h3
  simp [Result.andThen, hp', h2', h3', asAddr, hl]
theorem results_cells {P : Program} {fn : Func} {p q r : Tmp} {ty ty2 : TypeId} (h : fn.results = #[.cell p ty, .cell q ty2, .tmp r]) (tmps : Array Value) (w : World) {ad ad2 : Addr} (hp : tmps.getD p undef = .pointer (some ad)) (hq : tmps.getD q undef = .pointer (some ad2)) {v v2 : Value} (hl : (loadVar ty ad).run P w = .ok v w) (hl2 : (loadVar ty2 ad2).run P w = .ok v2 w) {v3 : Value} (h3 : tmps.getD r undef = v3) :
    (results fn tmps).run P w = .ok (.tuple #[v, v2, v3]) w := by
  simp only [results, h]
  have hp' : tmps[p]?.getD undef = .pointer (some ad) := by simpa using hp
  have hq' : tmps[q]?.getD undef = .pointer (some ad2) := by simpa using hq
  have h3' : tmps[r]?.getD undef = v3 := by simpa using h3
  simp [Result.andThen, hp', hq', h3', asAddr, hl, hl2]
end Go.Proofs.Ytojaagnfjenhoaa
/- The walks over package disk: Write. -/
namespace Go.Proofs.Ytojaagnfjenhoaa
open Go.RowKit
/-- What Write answers. -/
def WriteOut (x : Lg.Dk × Int) (A : Option Addr) (w : World) (e : Ending) (w' : World) : Prop :=
  ∃ A' c', e = .returned (.tuple #[diskV x.1 A' c', .int .i64 x.2]) ∧ DiskR w' x.1 A' c' ∧ (A' = A ∨ NewT w.heap.size w' 9 A') ∧ Below w.heap.size w w'
theorem clone_any (l : List ByteArray) (A : Option Addr) (c : Nat) (h0 : 0 < l.length) (hl : l.length ≤ 1000000) (w : World) (h : Reads w A c l.length (l.flatMap strC)) :
    Calls Try.prog 52 #[.slice A l.length c] w fun e w' => ∃ v, e = .returned v ∧ w'.ownsRow w.heap.size 9 1 v l.length (l.map Value.string) ∧ Below w.heap.size w w' := by
  obtain ⟨b, off, rfl, _, _, hcell⟩ := h h0
  refine (Try.slices_Clone_string b off l.length c l w (Nat.le_refl _) (by omega) (fun j hj => ?_)).mono ?_
  · have h1 := hcell j (.string l[j]) (by rw [strC_map]; simp [hj])
    rw [h1, List.getD_eq_getElem?_getD, List.getElem?_eq_getElem hj]
    rfl
  · rintro e w' ⟨v, rfl, h1, _, h2⟩
    rw [List.take_length] at h1
    exact ⟨v, rfl, h1, h2⟩
theorem info_disk : (Try.prog.info? 24).map (·.size) = some 3 := by kernel_rfl
theorem write_keep {d : Lg.Dk} {A : Option Addr} {c : Nat} {w w' : World} {dn : Bool} {k : Int} {x : Lg.Dk × Int} (hx : x = (⟨d.sectors, d.left, dn⟩, k)) (h : DiskR w d A c) (hb : Below w.heap.size w w') : WriteOut x A w (.returned (.tuple #[.agg #[.slice A d.sectors.length c, .int .i64 d.left, .bool dn], .int .i64 k])) w' := by
  subst hx
  exact ⟨A, c, rfl, ⟨h.secs.below hb, h.small⟩, .inl rfl, hb⟩
theorem write_new {L : List ByteArray} {A A' : Option Addr} {n c : Nat} {w w' : World} {left : Int} {x : Lg.Dk × Int} (hx : x = (⟨L, left, false⟩, 0)) (hn : L.length = n) {vs : List Value} (h : Reads w' A' c n vs) {M : List ByteArray} {k : Nat} {b : ByteArray} (hv : vs = (M.map Value.string).set k (.string b)) (hL : L = M.set k b) (hl : L.length ≤ 1000000) (hA : NewT w.heap.size w' 9 A') (hb : Below w.heap.size w w') :
    WriteOut x A w (.returned (.tuple #[.agg #[.slice A' n c, .int .i64 left, .bool false], .int .i64 0])) w' := by
  subst hx hn
  refine ⟨A', c, rfl, ⟨?_, hl⟩, .inr hA, hb⟩
  rw [strC_map]
  show Reads w' A' c L.length (L.map Value.string)
  rw [hv] at h
  rw [hL, List.map_set]
  rw [hL] at h
  exact h
/-! walk -/
set_option maxRecDepth 100000 in
set_option maxHeartbeats 2000000 in
theorem dwrite_down (L : List ByteArray) (left : Int) (A : Option Addr) (c : Nat) (a : Int) (b : ByteArray) (x : Lg.Dk × Int) (hx : x = (⟨L, left, true⟩, 20)) (w : World) (h : DiskR w ⟨L, left, true⟩ A c) :
    Calls Try.prog 28 #[.agg #[.slice A L.length c, .int .i64 left, .bool true], .int .i64 a, .string b] w (WriteOut x A w) := by
  have HO := Lib.hid (fun w' hb => write_keep (dn := true) hx h (w' := w') hb)
  dsimp only at HO
  clear hx h
  go_enter Try.func28, Try.ntmps28
  go_upto_region 1 with fail
  have H0 := Lib.hid (show BxL w.heap.size w [(#[.slice A L.length c, .int .i64 left, .bool true], 24), (#[.slice none 0 0, .int .i64 0, .bool false], 24)] ((w.alloc (.cells #[.slice A L.length c, .int .i64 left, .bool true] 24)).alloc (.cells #[.slice none 0 0, .int .i64 0, .bool false] 24)) from ((BxL.nil (Below.refl w.heap.size w)).new (by simp) #[.slice A L.length c, .int .i64 left, .bool true] 24).new (by simp) #[.slice none 0 0, .int .i64 0, .bool false] 24)
  have hc0 := blkCell (H0.out.get 0 _ rfl)
  simp only [Nat.add_zero] at hc0
  obtain ⟨W0, hW0⟩ : ∃ W, W = (w.alloc (.cells #[.slice A L.length c, .int .i64 left, .bool true] 24)).alloc (.cells #[.slice none 0 0, .int .i64 0, .bool false] 24) := ⟨_, rfl⟩
  rw [← hW0] at H0 hc0 ⊢
  clear hW0
  have HX0 := Lib.hid (show W0.heap[w.heap.size]? = some (.cells #[.slice A L.length c, .int .i64 left, .bool true] 24 (0, 0)) from (by have h := H0.out.get 0 _ rfl; simpa using h))
  go_wp2_with (first | (with_reducible refine listLoad (by kernel_rfl) 24 (.tmp 3) rfl w.heap.size rfl #[.slice A L.length c, .int .i64 left, .bool true] _ HX0.out _ Try.underlying24 (by kernel_rfl) (by kernel_rfl) ?_) | (with_reducible refine listStore (by kernel_rfl) 24 (.tmp 6) (.tmp 11) rfl (w.heap.size + 1) #[.slice A L.length c, .int .i64 left, .bool true] _ _ rfl rfl (H0.out.get 1 _ rfl) (by kernel_rfl) (by kernel_rfl) (by kernel_rfl) ?_))
  refine bodyPost_ret (v := .tuple #[.agg #[.slice A L.length c, .int .i64 left, .bool true], .int .i64 20]) (results_cell2 rfl _ _ rfl (load_whole (setRow_heap _ _ _ _ _ _ (H0.out.get 1 _ rfl)) Try.underlying24 (by kernel_rfl) (by kernel_rfl)) rfl) rfl ?_
  exact HO.out _ ((H0.out.row 1 _ _ rfl).below)
set_option maxRecDepth 100000 in
set_option maxHeartbeats 2000000 in
theorem dwrite_arg (L : List ByteArray) (left : Int) (A : Option Addr) (c : Nat) (a : Int) (b : ByteArray) (hno : ¬ (Lg.hasD ⟨L, left, false⟩ a ∧ b.size = 128)) (x : Lg.Dk × Int) (hx : x = (⟨L, left, false⟩, 1)) (w : World) (h : DiskR w ⟨L, left, false⟩ A c) :
    Calls Try.prog 28 #[.agg #[.slice A L.length c, .int .i64 left, .bool false], .int .i64 a, .string b] w (WriteOut x A w) := by
  have HO := Lib.hid (fun w' hb => write_keep (dn := false) hx h (w' := w') hb)
  dsimp only at HO
  have HH := Lib.hid (fun W => has_any ⟨L, left, false⟩ A c a W)
  clear hx h
  by_cases hh : Lg.hasD ⟨L, left, false⟩ a
  · rw [decide_eq_true hh] at HH
    have hs : ¬ b.size = 128 := fun e => hno ⟨hh, e⟩
    have hs2 : ((b.size : Int) == 128) = false := by simp; omega
    have hs3 : ((b.size : Int) != 128) = true := by simp; omega
    have hs4 : (b.size == 128) = false := by simp; omega
    have hs5 : (b.size != 128) = true := by simp; omega
    clear hno hh
    dsimp only [diskV] at HH
    go_enter Try.func28, Try.ntmps28
    go_upto_region 1 with fail
    have H0 := Lib.hid (show BxL w.heap.size w [(#[.slice A L.length c, .int .i64 left, .bool false], 24), (#[.slice none 0 0, .int .i64 0, .bool false], 24)] ((w.alloc (.cells #[.slice A L.length c, .int .i64 left, .bool false] 24)).alloc (.cells #[.slice none 0 0, .int .i64 0, .bool false] 24)) from ((BxL.nil (Below.refl w.heap.size w)).new (by simp) #[.slice A L.length c, .int .i64 left, .bool false] 24).new (by simp) #[.slice none 0 0, .int .i64 0, .bool false] 24)
    have hc0 := blkCell (H0.out.get 0 _ rfl)
    simp only [Nat.add_zero] at hc0
    obtain ⟨W0, hW0⟩ : ∃ W, W = (w.alloc (.cells #[.slice A L.length c, .int .i64 left, .bool false] 24)).alloc (.cells #[.slice none 0 0, .int .i64 0, .bool false] 24) := ⟨_, rfl⟩
    rw [← hW0] at H0 hc0 ⊢
    clear hW0
    have HX0 := Lib.hid (show W0.heap[w.heap.size]? = some (.cells #[.slice A L.length c, .int .i64 left, .bool false] 24 (0, 0)) from (by have h := H0.out.get 0 _ rfl; simpa using h))
    go_upto_region 4 with (first | (with_reducible refine listLoad (by kernel_rfl) 24 (.tmp 3) rfl w.heap.size rfl #[.slice A L.length c, .int .i64 left, .bool false] _ HX0.out _ Try.underlying24 (by kernel_rfl) (by kernel_rfl) ?_) | (go_at_call 51; (with_reducible refine (HH.out _).mono ?_); rintro e w1 ⟨rfl, hb1⟩; have H1 := Lib.hid (H0.out.step hb1); clear hb1; have hc1 := blkCell (H1.out.get 0 _ rfl); simp only [Nat.add_zero] at hc1))
    have HX1 := Lib.hid (show w1.heap[w.heap.size]? = some (.cells #[.slice A L.length c, .int .i64 left, .bool false] 24 (0, 0)) from (by have h := H1.out.get 0 _ rfl; simpa using h))
    clear hs hs2 hs3 hs4 hs5
    go_wp2_with (first | (with_reducible refine listLoad (by kernel_rfl) 24 (.tmp 3) rfl w.heap.size rfl #[.slice A L.length c, .int .i64 left, .bool false] _ HX1.out _ Try.underlying24 (by kernel_rfl) (by kernel_rfl) ?_) | (with_reducible refine listStore (by kernel_rfl) 24 (.tmp 6) (.tmp 22) rfl (w.heap.size + 1) #[.slice A L.length c, .int .i64 left, .bool false] _ _ rfl rfl (H1.out.get 1 _ rfl) (by kernel_rfl) (by kernel_rfl) (by kernel_rfl) ?_))
    refine bodyPost_ret (v := .tuple #[.agg #[.slice A L.length c, .int .i64 left, .bool false], .int .i64 1]) (results_cell2 rfl _ _ rfl (load_whole (setRow_heap _ _ _ _ _ _ (H1.out.get 1 _ rfl)) Try.underlying24 (by kernel_rfl) (by kernel_rfl)) rfl) rfl ?_
    exact HO.out _ ((H1.out.row 1 _ _ rfl).below)
  · rw [decide_eq_false hh] at HH
    clear hno hh
    dsimp only [diskV] at HH
    go_enter Try.func28, Try.ntmps28
    go_upto_region 1 with fail
    have H0 := Lib.hid (show BxL w.heap.size w [(#[.slice A L.length c, .int .i64 left, .bool false], 24), (#[.slice none 0 0, .int .i64 0, .bool false], 24)] ((w.alloc (.cells #[.slice A L.length c, .int .i64 left, .bool false] 24)).alloc (.cells #[.slice none 0 0, .int .i64 0, .bool false] 24)) from ((BxL.nil (Below.refl w.heap.size w)).new (by simp) #[.slice A L.length c, .int .i64 left, .bool false] 24).new (by simp) #[.slice none 0 0, .int .i64 0, .bool false] 24)
    have hc0 := blkCell (H0.out.get 0 _ rfl)
    simp only [Nat.add_zero] at hc0
    obtain ⟨W0, hW0⟩ : ∃ W, W = (w.alloc (.cells #[.slice A L.length c, .int .i64 left, .bool false] 24)).alloc (.cells #[.slice none 0 0, .int .i64 0, .bool false] 24) := ⟨_, rfl⟩
    rw [← hW0] at H0 hc0 ⊢
    clear hW0
    have HX0 := Lib.hid (show W0.heap[w.heap.size]? = some (.cells #[.slice A L.length c, .int .i64 left, .bool false] 24 (0, 0)) from (by have h := H0.out.get 0 _ rfl; simpa using h))
    go_upto_region 4 with (first | (with_reducible refine listLoad (by kernel_rfl) 24 (.tmp 3) rfl w.heap.size rfl #[.slice A L.length c, .int .i64 left, .bool false] _ HX0.out _ Try.underlying24 (by kernel_rfl) (by kernel_rfl) ?_) | (go_at_call 51; (with_reducible refine (HH.out _).mono ?_); rintro e w1 ⟨rfl, hb1⟩; have H1 := Lib.hid (H0.out.step hb1); clear hb1; have hc1 := blkCell (H1.out.get 0 _ rfl); simp only [Nat.add_zero] at hc1))
    have HX1 := Lib.hid (show w1.heap[w.heap.size]? = some (.cells #[.slice A L.length c, .int .i64 left, .bool false] 24 (0, 0)) from (by have h := H1.out.get 0 _ rfl; simpa using h))
    go_wp2_with (first | (with_reducible refine listLoad (by kernel_rfl) 24 (.tmp 3) rfl w.heap.size rfl #[.slice A L.length c, .int .i64 left, .bool false] _ HX1.out _ Try.underlying24 (by kernel_rfl) (by kernel_rfl) ?_) | (with_reducible refine listStore (by kernel_rfl) 24 (.tmp 6) (.tmp 22) rfl (w.heap.size + 1) #[.slice A L.length c, .int .i64 left, .bool false] _ _ rfl rfl (H1.out.get 1 _ rfl) (by kernel_rfl) (by kernel_rfl) (by kernel_rfl) ?_))
    refine bodyPost_ret (v := .tuple #[.agg #[.slice A L.length c, .int .i64 left, .bool false], .int .i64 1]) (results_cell2 rfl _ _ rfl (load_whole (setRow_heap _ _ _ _ _ _ (H1.out.get 1 _ rfl)) Try.underlying24 (by kernel_rfl) (by kernel_rfl)) rfl) rfl ?_
    exact HO.out _ ((H1.out.row 1 _ _ rfl).below)
set_option maxRecDepth 100000 in
set_option maxHeartbeats 2000000 in
theorem dwrite_out (L : List ByteArray) (A : Option Addr) (c : Nat) (a : Int) (b : ByteArray) (hh : Lg.hasD ⟨L, 0, false⟩ a) (hs : b.size = 128) (x : Lg.Dk × Int) (hx : x = (⟨L, 0, true⟩, 20)) (w : World) (h : DiskR w ⟨L, 0, false⟩ A c) :
    Calls Try.prog 28 #[.agg #[.slice A L.length c, .int .i64 0, .bool false], .int .i64 a, .string b] w (WriteOut x A w) := by
  have HO := Lib.hid (fun w' hb => write_keep (dn := true) hx h (w' := w') hb)
  dsimp only at HO
  have HH := Lib.hid (fun W => has_any ⟨L, 0, false⟩ A c a W)
  rw [decide_eq_true hh] at HH
  have hs1 : ((b.size : Int) == 128) = true := by simp; omega
  have hs2 : ((b.size : Int) != 128) = false := by simp; omega
  have hs3 : (b.size == 128) = true := by simp; omega
  have hs4 : (b.size != 128) = false := by simp; omega
  clear hx h hs hh
  dsimp only [diskV] at HH
  go_enter Try.func28, Try.ntmps28
  go_upto_region 1 with fail
  have H0 := Lib.hid (show BxL w.heap.size w [(#[.slice A L.length c, .int .i64 0, .bool false], 24), (#[.slice none 0 0, .int .i64 0, .bool false], 24)] ((w.alloc (.cells #[.slice A L.length c, .int .i64 0, .bool false] 24)).alloc (.cells #[.slice none 0 0, .int .i64 0, .bool false] 24)) from ((BxL.nil (Below.refl w.heap.size w)).new (by simp) #[.slice A L.length c, .int .i64 0, .bool false] 24).new (by simp) #[.slice none 0 0, .int .i64 0, .bool false] 24)
  have hc0 := blkCell (H0.out.get 0 _ rfl)
  simp only [Nat.add_zero] at hc0
  obtain ⟨W0, hW0⟩ : ∃ W, W = (w.alloc (.cells #[.slice A L.length c, .int .i64 0, .bool false] 24)).alloc (.cells #[.slice none 0 0, .int .i64 0, .bool false] 24) := ⟨_, rfl⟩
  rw [← hW0] at H0 hc0 ⊢
  clear hW0
  have HX0 := Lib.hid (show W0.heap[w.heap.size]? = some (.cells #[.slice A L.length c, .int .i64 0, .bool false] 24 (0, 0)) from (by have h := H0.out.get 0 _ rfl; simpa using h))
  go_upto_region 5 with (first | (with_reducible refine listLoad (by kernel_rfl) 24 (.tmp 3) rfl w.heap.size rfl #[.slice A L.length c, .int .i64 0, .bool false] _ HX0.out _ Try.underlying24 (by kernel_rfl) (by kernel_rfl) ?_) | (go_at_call 51; (with_reducible refine (HH.out _).mono ?_); rintro e w1 ⟨rfl, hb1⟩; have H1 := Lib.hid (H0.out.step hb1); clear hb1; have hc1 := blkCell (H1.out.get 0 _ rfl); simp only [Nat.add_zero] at hc1))
  clear hs1 hs2 hs3 hs4
  have hz1 := blkFrozen (H1.out.get 0 _ rfl)
  simp only [Nat.add_zero] at hz1
  go_upto_region 7 with fail
  have HX2 := Lib.hid (show (w1.setCell ⟨w.heap.size, 2, none⟩ (.bool true)).heap[w.heap.size]? = some (.cells #[.slice A L.length c, .int .i64 0, .bool true] 24 (0, 0)) from by have h := (H1.out.set 0 2 (.bool true) _ rfl).get 0 _ rfl; simpa using h)
  have H2 := Lib.hid (H1.out.set 0 2 (.bool true) _ rfl)
  go_wp2_with (first | (with_reducible refine listLoad (by kernel_rfl) 24 (.tmp 3) rfl w.heap.size rfl #[.slice A L.length c, .int .i64 0, .bool true] _ HX2.out _ Try.underlying24 (by kernel_rfl) (by kernel_rfl) ?_) | (with_reducible refine listStore (by kernel_rfl) 24 (.tmp 6) (.tmp 28) rfl (w.heap.size + 1) #[.slice A L.length c, .int .i64 0, .bool true] _ _ rfl rfl (H2.out.get 1 _ rfl) (by kernel_rfl) (by kernel_rfl) (by kernel_rfl) ?_))
  refine bodyPost_ret (v := .tuple #[.agg #[.slice A L.length c, .int .i64 0, .bool true], .int .i64 20]) (results_cell2 rfl _ _ rfl (load_whole (setRow_heap _ _ _ _ _ _ (H2.out.get 1 _ rfl)) Try.underlying24 (by kernel_rfl) (by kernel_rfl)) rfl) rfl ?_
  exact HO.out _ ((H2.out.row 1 _ _ rfl).below)
set_option maxRecDepth 100000 in
set_option maxHeartbeats 2000000 in
theorem dwrite_on (L : List ByteArray) (left : Int) (hl0 : left ≠ 0) (hlb : -9223372036854775808 ≤ left ∧ left ≤ 9223372036854775807) (A : Option Addr) (c : Nat) (k : Nat) (b : ByteArray) (hk : k < L.length) (hs : b.size = 128) (x : Lg.Dk × Int) (hx : x = (⟨L.set k b, if 0 < left then left - 1 else left, false⟩, 0)) (w : World) (h : DiskR w ⟨L, left, false⟩ A c) :
    Calls Try.prog 28 #[.agg #[.slice A L.length c, .int .i64 left, .bool false], .int .i64 (k : Int), .string b] w (WriteOut x A w) := by
  have HH := Lib.hid (fun W => has_any ⟨L, left, false⟩ A c k W)
  rw [decide_eq_true (show Lg.hasD ⟨L, left, false⟩ (k : Int) from ⟨by omega, by show (k : Int) < (L.length : Int); omega⟩)] at HH
  have hs1 : ((b.size : Int) == 128) = true := by simp; omega
  have hs2 : ((b.size : Int) != 128) = false := by simp; omega
  have hs3 : (b.size == 128) = true := by simp; omega
  have hs4 : (b.size != 128) = false := by simp; omega
  have hl1 : (left == 0) = false := by simpa using hl0
  have hlen : L.length ≤ 1000000 := h.small
  have HC := Lib.hid (fun W (hb : Below w.heap.size w W) => clone_any L A c (by omega) hlen W (h.secs.below hb))
  have HX := Lib.hid hx
  have hkI : (k : Int) < (L.length : Int) := by omega
  clear hx h hs
  dsimp only [diskV] at HH
  go_enter Try.func28, Try.ntmps28
  go_upto_region 1 with fail
  have H0 := Lib.hid (show BxL w.heap.size w [(#[.slice A L.length c, .int .i64 left, .bool false], 24), (#[.slice none 0 0, .int .i64 0, .bool false], 24)] ((w.alloc (.cells #[.slice A L.length c, .int .i64 left, .bool false] 24)).alloc (.cells #[.slice none 0 0, .int .i64 0, .bool false] 24)) from ((BxL.nil (Below.refl w.heap.size w)).new (by simp) #[.slice A L.length c, .int .i64 left, .bool false] 24).new (by simp) #[.slice none 0 0, .int .i64 0, .bool false] 24)
  have hc0 := blkCell (H0.out.get 0 _ rfl)
  simp only [Nat.add_zero] at hc0
  obtain ⟨W0, hW0⟩ : ∃ W, W = (w.alloc (.cells #[.slice A L.length c, .int .i64 left, .bool false] 24)).alloc (.cells #[.slice none 0 0, .int .i64 0, .bool false] 24) := ⟨_, rfl⟩
  rw [← hW0] at H0 hc0 ⊢
  clear hW0
  have HX0 := Lib.hid (show W0.heap[w.heap.size]? = some (.cells #[.slice A L.length c, .int .i64 left, .bool false] 24 (0, 0)) from (by have h := H0.out.get 0 _ rfl; simpa using h))
  go_upto_region 8 with (first | (with_reducible refine listLoad (by kernel_rfl) 24 (.tmp 3) rfl w.heap.size rfl #[.slice A L.length c, .int .i64 left, .bool false] _ HX0.out _ Try.underlying24 (by kernel_rfl) (by kernel_rfl) ?_) | (go_at_call 51; (with_reducible refine (HH.out _).mono ?_); rintro e w1 ⟨rfl, hb1⟩; have H1 := Lib.hid (H0.out.step hb1); clear hb1; have hc1 := blkCell (H1.out.get 0 _ rfl); simp only [Nat.add_zero] at hc1))
  clear hs1 hs2 hs3 hs4 hl1 HH hc0 HX0 H0
  go_upto_region 9 with (first | (go_at_call 52; (with_reducible refine (HC.out _ H1.out.below).mono ?_); rintro e w2 ⟨v, rfl, ho, hb2⟩; obtain ⟨A2, c2, rfl⟩ := ownLen ho; have H2 := Lib.hid (H1.out.step hb2); have hz2 := blkFrozen (H2.out.get 0 _ rfl); have hc2 := blkCell (H2.out.get 0 _ rfl); simp only [Nat.add_zero] at hc2 hz2; clear hb2 hc1))
  clear hc2 hz2
  have hsz := H1.out.lt (i := 1) (by simp)
  have ho2 := ownSet ho ⟨w.heap.size, 0, none⟩ (.slice A2 L.length c2) (by show w.heap.size < _; omega)
  obtain ⟨g, cap, hv, hg, hgl, hcap, hcl, hfz, hset⟩ := ownAt ho2 hk
  injection hv with hv1 hv2 hv3
  subst hv1 hv3
  have H3 := Lib.hid (H2.out.set 0 0 (.slice (some ⟨g, 0, none⟩) L.length c2) _ rfl)
  simp only [Nat.add_zero] at H3
  obtain ⟨W3, hW3⟩ : ∃ W, W = w2.setCell ⟨w.heap.size, 0, none⟩ (.slice (some ⟨g, 0, none⟩) L.length c2) := ⟨_, rfl⟩
  rw [← hW3] at H3 hcl hfz hset hgl ⊢
  have hc3 := blkCell (H3.out.get 0 _ rfl)
  simp only [Nat.add_zero] at hc3
  rw [List.getElem?_eq_getElem (by simpa using hk)] at hcl
  simp only [List.getElem_map] at hcl
  have HSET := Lib.hid hset
  clear hW3 H2 ho ho2 hset
  go_upto_region 10 with fail
  have hgw : w.heap.size + 2 ≤ g := by omega
  have H4 := Lib.hid (H3.out.under (M := g) (by show w.heap.size + 2 ≤ g; exact hgw) ((Below.refl g W3).setCell (p := ⟨g, k, none⟩) (Nat.le_refl g) (.string b)))
  have HO4 := Lib.hid (HSET.out (.string b))
  obtain ⟨W4, hW4⟩ : ∃ W, W = W3.setCell ⟨g, k, none⟩ (.string b) := ⟨_, rfl⟩
  rw [← hW4] at H4 HO4 ⊢
  have hc4 := blkCell (H4.out.get 0 _ rfl)
  have hz4 := blkFrozen (H4.out.get 0 _ rfl)
  simp only [Nat.add_zero] at hc4 hz4
  clear hW4 hc3 hcl hfz HSET
  by_cases hp : 0 < left
  · rw [if_pos hp] at HX
    have hwl : IntKind.i64.wrap (left - 1) = left - 1 := IntWalk.i64_in _ (by omega)
    go_upto_region 12 with fail
    have H5 := Lib.hid (H4.out.set 0 1 (.int .i64 (left - 1)) _ rfl)
    have HX5 := Lib.hid (show (W4.setCell ⟨w.heap.size, 1, none⟩ (.int .i64 (left - 1))).heap[w.heap.size]? = some (.cells #[.slice (some ⟨g, 0, none⟩) L.length c2, .int .i64 (left - 1), .bool false] 24 (0, 0)) from by have h := H5.out.get 0 _ rfl; simpa using h)
    have HO5 := Lib.hid (ownSet HO4.out ⟨w.heap.size, 1, none⟩ (.int .i64 (left - 1)) (by show w.heap.size < _; omega))
    go_wp2_with (first | (with_reducible refine listLoad (by kernel_rfl) 24 (.tmp 3) rfl w.heap.size rfl #[.slice (some ⟨g, 0, none⟩) L.length c2, .int .i64 (left - 1), .bool false] _ HX5.out _ Try.underlying24 (by kernel_rfl) (by kernel_rfl) ?_) | (with_reducible refine listStore (by kernel_rfl) 24 (.tmp 6) (.tmp 45) rfl (w.heap.size + 1) #[.slice (some ⟨g, 0, none⟩) L.length c2, .int .i64 (left - 1), .bool false] _ _ rfl rfl (H5.out.get 1 _ rfl) (by kernel_rfl) (by kernel_rfl) (by kernel_rfl) ?_))
    refine bodyPost_ret (v := .tuple #[.agg #[.slice (some ⟨g, 0, none⟩) L.length c2, .int .i64 (left - 1), .bool false], .int .i64 0]) (results_cell2 rfl _ _ rfl (load_whole (setRow_heap _ _ _ _ _ _ (H5.out.get 1 _ rfl)) Try.underlying24 (by kernel_rfl) (by kernel_rfl)) rfl) rfl ?_
    exact write_new HX.out (by rw [List.length_set]) ((own_reads HO5.out).offRow _ _ (fun _ ad e => (by injection e with e; rw [← e]; show g ≠ w.heap.size + 1; omega))) rfl rfl (by rw [List.length_set]; exact hlen) (((NewT.own HO5.out).row _ _).mono (by omega)) ((H5.out.row 1 _ _ rfl).below)
  · rw [if_neg hp] at HX
    have HX4 := Lib.hid (show W4.heap[w.heap.size]? = some (.cells #[.slice (some ⟨g, 0, none⟩) L.length c2, .int .i64 left, .bool false] 24 (0, 0)) from (by have h := H4.out.get 0 _ rfl; simpa using h))
    go_wp2_with (first | (with_reducible refine listLoad (by kernel_rfl) 24 (.tmp 3) rfl w.heap.size rfl #[.slice (some ⟨g, 0, none⟩) L.length c2, .int .i64 left, .bool false] _ HX4.out _ Try.underlying24 (by kernel_rfl) (by kernel_rfl) ?_) | (with_reducible refine listStore (by kernel_rfl) 24 (.tmp 6) (.tmp 45) rfl (w.heap.size + 1) #[.slice (some ⟨g, 0, none⟩) L.length c2, .int .i64 left, .bool false] _ _ rfl rfl (H4.out.get 1 _ rfl) (by kernel_rfl) (by kernel_rfl) (by kernel_rfl) ?_))
    refine bodyPost_ret (v := .tuple #[.agg #[.slice (some ⟨g, 0, none⟩) L.length c2, .int .i64 left, .bool false], .int .i64 0]) (results_cell2 rfl _ _ rfl (load_whole (setRow_heap _ _ _ _ _ _ (H4.out.get 1 _ rfl)) Try.underlying24 (by kernel_rfl) (by kernel_rfl)) rfl) rfl ?_
    exact write_new HX.out (by rw [List.length_set]) ((own_reads HO4.out).offRow _ _ (fun _ ad e => (by injection e with e; rw [← e]; show g ≠ w.heap.size + 1; omega))) rfl rfl (by rw [List.length_set]; exact hlen) (((NewT.own HO4.out).row _ _).mono (by omega)) ((H4.out.row 1 _ _ rfl).below)
theorem dwrite_any (d : Lg.Dk) (hlb : -9223372036854775808 ≤ d.left ∧ d.left ≤ 9223372036854775807) (A : Option Addr) (c : Nat) (a : Int) (b : ByteArray) (w : World) (h : DiskR w d A c) :
    Calls Try.prog 28 #[diskV d A c, .int .i64 a, .string b] w (WriteOut (Lg.writeD d a b) A w) := by
  obtain ⟨L, left, down⟩ := d
  cases down with
  | true => exact dwrite_down L left A c a b _ (by unfold Lg.writeD; rw [if_pos rfl]) w h
  | false =>
    by_cases h1 : Lg.hasD ⟨L, left, false⟩ a ∧ b.size = 128
    · by_cases h2 : left = 0
      · subst h2
        exact dwrite_out L A c a b h1.1 h1.2 _ (by unfold Lg.writeD; rw [if_neg (by simp), if_neg (fun hn => hn h1), if_pos rfl]) w h
      · obtain ⟨k, rfl⟩ := Int.eq_ofNat_of_zero_le h1.1.1
        have hk : k < L.length := by have h3 := h1.1.2; simp only at h3; omega
        exact dwrite_on L left h2 hlb A c k b hk h1.2 _ (by unfold Lg.writeD; rw [if_neg (by simp), if_neg (fun hn => hn h1), if_neg h2]; simp) w h
    · exact dwrite_arg L left A c a b h1 _ (by unfold Lg.writeD; rw [if_neg (by simp), if_pos h1]) w h
end Go.Proofs.Ytojaagnfjenhoaa
/- A region that draws its order, and whose last store turns what its loads read: a condition on the world that is shown anew behind each operation until a named one has come up. -/
namespace Go
section
variable {P : Program} {ops : Array Oper} {Q : Exit → Act → World → Prop} {md : Region.Mode} {S : World → Prop} {z : Nat}

/-- Whatever has come up, what it waits for has come up. -/
def ShutDown (md : Region.Mode) (ops : Array Oper) (l : Array Bool) : Prop :=
  ∀ j o, ops[j]? = some o → l.getD j false = true → ∀ e ∈ o.after, Region.binds md e = true → l.getD e.on false = true
def shutDownB (md : Region.Mode) (ops : Array Oper) (l : Array Bool) : Bool :=
  (List.range ops.size).all fun j => !l.getD j false || match ops[j]? with
    | none => true
    | some o => o.after.all fun e => !Region.binds md e || l.getD e.on false
theorem shutDown_of {l : Array Bool} (h : shutDownB md ops l = true) : ShutDown md ops l := by
  intro j o ho hj e he hb
  unfold shutDownB at h
  rw [List.all_eq_true] at h
  have h1 := h j (List.mem_range.2 (Array.getElem?_eq_some_iff.1 ho).1)
  rw [ho, hj] at h1
  simp only [Bool.not_true, Bool.false_or] at h1
  have h2 := Array.all_eq_true_iff_forall_mem.1 h1 e he
  rw [hb] at h2
  simpa using h2
theorem getD_swap {l : Array Bool} {i : Nat} (h : l.getD i true = false) : l.getD i false = false := by
  rcases Nat.lt_or_ge i l.size with h' | h'
  · simp [h'] at h ⊢; exact h
  · simp [Array.getElem?_eq_none h'] at h
theorem getD_setSelf {l : Array Bool} {i : Nat} (h : l.getD i true = false) : (l.setIfInBounds i true).getD i false = true := by
  rcases Nat.lt_or_ge i l.size with h' | h'
  · simp [h']
  · simp [Array.getElem?_eq_none h'] at h
theorem shutDown_set {l : Array Bool} {j : Nat} (h : ShutDown md ops l) (hj : j ∈ Region.ready md ops l) : ShutDown md ops (l.setIfInBounds j true) := by
  obtain ⟨h0, oj, hoj, hall⟩ := mem_ready.1 hj
  intro k o hk hl e he hb
  by_cases hkj : j = k
  · subst hkj
    rw [hoj] at hk
    injection hk with hk
    subst hk
    exact getD_set_true (hall e he hb)
  · rw [getD_set_ne false hkj] at hl
    exact getD_set_true (h k o hk hl e he hb)
/-- Each of a list waits for the one ahead of it. -/
def pathB (md : Region.Mode) (ops : Array Oper) : List Nat → Bool
  | [] => true
  | [_] => true
  | a :: b :: r => (match ops[b]? with
    | none => false
    | some o => o.after.any fun e => Region.binds md e && e.on == a) && pathB md ops (b :: r)
theorem path_listed {l : Array Bool} (hc : ShutDown md ops l) : ∀ (p : List Nat) (a : Nat), pathB md ops (a :: p) = true → l.getD ((a :: p).getLast (by simp)) false = true → l.getD a false = true := by
  intro p
  induction p with
  | nil => intro a _ h; simpa using h
  | cons b r ih =>
    intro a hp hl
    unfold pathB at hp
    rw [Bool.and_eq_true] at hp
    have hb := ih b hp.2 (by simpa using hl)
    cases ho : ops[b]? with
    | none => rw [ho] at hp; simp at hp
    | some o =>
      rw [ho] at hp
      obtain ⟨e, he, h2⟩ := Array.any_eq_true'.1 hp.1
      rw [Bool.and_eq_true] at h2
      have h3 := hc b o ho hb e he h2.1
      rwa [show e.on = a by simpa using h2.2] at h3
/-- From i a list of waiting leads to z. -/
def leads (md : Region.Mode) (ops : Array Oper) (i : Nat) (p : List Nat) (z : Nat) : Bool := pathB md ops (i :: p) && (i :: p).getLast (by simp) == z && i != z
theorem leads_not {l : Array Bool} {i : Nat} {p : List Nat} (h : leads md ops i p z = true) (hc : ShutDown md ops l) (hi : l.getD i true = false) : z ∉ Region.ready md ops l := by
  unfold leads at h
  rw [Bool.and_eq_true, Bool.and_eq_true] at h
  obtain ⟨⟨h1, h2⟩, h3⟩ := h
  intro hz
  have h4 := shutDown_set hc hz
  have h5 := path_listed h4 p i h1 (by rw [show (i :: p).getLast (by simp) = z by simpa using h2]; exact getD_setSelf (mem_ready.1 hz).1)
  rw [getD_set_ne false (by simp at h3; exact fun e => h3 e.symm)] at h5
  rw [getD_swap hi] at h5
  cases h5

/-- Whatever order is picked from here on, and S holds behind every operation that is carried out, as long as z has not come up. -/
def wpAnyZ (P : Program) (md : Region.Mode) (ops : Array Oper) (Q : Exit → Act → World → Prop) (S : World → Prop) (z : Nat) : Nat → Array Bool → Act → World → Prop
  | 0, listed, a, w => Region.ready md ops listed = [] ∧ Q .normal a w
  | fuel + 1, listed, a, w =>
    (Region.ready md ops listed = [] → Q .normal a w) ∧
    ∀ i ∈ Region.ready md ops listed, wpOp P ops Q i (fun a' w' => ((listed.setIfInBounds i true).getD z true = false → S w') ∧ wpAnyZ P md ops Q S z fuel (listed.setIfInBounds i true) a' w') a w
theorem wpAny_of_Z : ∀ (fuel : Nat) (listed : Array Bool) (a : Act) (w : World), wpAnyZ P md ops Q S z fuel listed a w → wpAny P md ops Q fuel listed a w
  | 0, _, _, _, h => h
  | fuel + 1, _, _, _, h => ⟨h.1, fun i hi => wpOp_mono (fun a' w' h' => wpAny_of_Z fuel _ a' w' h'.2) (h.2 i hi)⟩
theorem wpAnyZ_first {i : Nat} {oi : Oper} {v : Value} {p : List Nat} (hi : ops[i]? = some oi) (hsel : ∀ (j : Nat) (o : Oper) cs b, ops[j]? = some o → o.op ≠ .select cs b)
    (hQ : ∀ c a w, Q (.panic c) (a.put oi.dst v) w → Q (.panic c) a w) (hl : leads md ops i p z = true) :
    ∀ (fuel : Nat) (listed : Array Bool) (a : Act) (w : World), ShutDown md ops listed → listed.getD z true = false →
      (∀ j oj, ops[j]? = some oj → j ≠ i → listed.getD j true = false → (∀ e ∈ oj.after, Region.binds md e = true → e.on ≠ i) → oi.apart ops oj = true) →
      i ∈ Region.ready md ops listed → YieldsIf P ops S oi v a → S w →
      wpAnyZ P md ops Q S z fuel (listed.setIfInBounds i true) (a.put oi.dst v) w → wpAnyZ P md ops Q S z (fuel + 1) listed a w := by
  have hiz : i ≠ z := by
    unfold leads at hl
    rw [Bool.and_eq_true] at hl
    simpa using hl.2
  intro fuel
  induction fuel with
  | zero =>
    intro listed a w _ hzu _ hr hy hS H
    refine ⟨fun h => (by rw [h] at hr; cases hr), fun j hj => ?_⟩
    by_cases hji : j = i
    · subst hji; exact hy.wpOp hi hS ⟨fun _ => hS, H⟩
    · have := ready_mono hj hji
      rw [H.1] at this
      cases this
  | succ fuel ih =>
    intro listed a w hsd hzu hfree hr hy hS H
    refine ⟨fun h => (by rw [h] at hr; cases hr), fun j hj => ?_⟩
    by_cases hji : j = i
    · subst hji; exact hy.wpOp hi hS ⟨fun _ => hS, H⟩
    · have hjz : j ≠ z := fun e => leads_not hl hsd (mem_ready.1 hr).1 (e ▸ hj)
      have h1 := H.2 j (ready_mono hj hji)
      obtain ⟨hjun, oj, hoj, hall⟩ := mem_ready.1 hj
      have hnot : ∀ e ∈ oj.after, Region.binds md e = true → e.on ≠ i := fun e he hb heq => by
        have h1 := hall e he hb
        have h0 := (mem_ready.1 hr).1
        rw [heq] at h1
        rw [getD_swap h0] at h1
        cases h1
      have h2 := wpOp_putIf hoj (hfree j oj hoj hji hjun hnot) (fun cs b => hsel i oi cs b hi) (fun cs b => hsel j oj cs b hoj) hQ hy h1
      have hfree' : ∀ k ok, ops[k]? = some ok → k ≠ i → (listed.setIfInBounds j true).getD k true = false →
          (∀ e ∈ ok.after, Region.binds md e = true → e.on ≠ i) → oi.apart ops ok = true := fun k ok hk hki hun hno => by
        refine hfree k ok hk hki ?_ hno
        by_cases hjk : j = k
        · subst hjk; exact hjun
        · rw [getD_set_ne true hjk] at hun; exact hun
      refine wpOp_mono (fun a' w' h3 => ?_) h2
      have hSw : S w' := h3.2.1 (by rw [getD_set_ne true hjz, getD_set_ne true hiz]; exact hzu)
      refine ⟨fun _ => hSw, ih (listed.setIfInBounds j true) a' w' (shutDown_set hsd hj) (by rw [getD_set_ne true hjz]; exact hzu) hfree' (ready_mono hr (Ne.symm hji)) h3.1 hSw ?_⟩
      rw [Array.setIfInBounds_comm _ _ hji]
      exact h3.2.2
theorem wpAnyZ_take {i : Nat} {oi : Oper} {v : Value} {p : List Nat} {fuel : Nat} {listed : Array Bool} {a : Act} {w : World} (hi : ops[i]? = some oi)
    (hl : leads md ops i p z = true) (hsd : shutDownB md ops listed = true) (hzu : listed.getD z true = false)
    (hs : Region.noSelect ops = true) (hf : Region.free md ops listed i = true) (hr : (Region.ready md ops listed).contains i = true)
    (hQ : ∀ c a w, Q (.panic c) (a.put oi.dst v) w → Q (.panic c) a w) (hy : YieldsIf P ops S oi v a) (hS : S w)
    (h : wpAnyZ P md ops Q S z fuel (listed.setIfInBounds i true) (a.put oi.dst v) w) : wpAnyZ P md ops Q S z (fuel + 1) listed a w :=
  wpAnyZ_first hi (Region.noSelect_spec hs) hQ hl fuel listed a w (shutDown_of hsd) hzu (Region.free_spec hi hf) (by simpa using hr) hy hS h
theorem wpAnyZ_done {listed : Array Bool} {a : Act} {w : World} (hr : Region.ready md ops listed = []) (h : Q .normal a w) :
    ∀ fuel, wpAnyZ P md ops Q S z fuel listed a w
  | 0 => ⟨hr, h⟩
  | _ + 1 => ⟨fun _ => h, by rw [hr]; simp⟩
def AllReadyZ (P : Program) (md : Region.Mode) (ops : Array Oper) (Q : Exit → Act → World → Prop) (S : World → Prop) (z fuel : Nat) (listed : Array Bool) (a : Act) (w : World) (rs : List Nat) : Prop :=
  ∀ i ∈ rs, wpOp P ops Q i (fun a' w' => ((listed.setIfInBounds i true).getD z true = false → S w') ∧ wpAnyZ P md ops Q S z fuel (listed.setIfInBounds i true) a' w') a w
theorem AllReadyZ.nil {fuel : Nat} {listed : Array Bool} {a : Act} {w : World} : AllReadyZ P md ops Q S z fuel listed a w [] := fun _ h => by cases h
theorem AllReadyZ.cons {fuel : Nat} {listed : Array Bool} {a : Act} {w : World} {i : Nat} {o : Oper} {rs : List Nat} (ho : ops[i]? = some o)
    (h : ∀ K' : Act → World → Prop, Shut (∀ a w, S w → (S w → wpAnyZ P md ops Q S z fuel (listed.setIfInBounds i true) a w) → K' a w) → if Region.wanted o (yielded ops a.tmps) = true then Oper.wp P o a w K' Q else K' (a.put o.dst undef) w)
    (hs : AllReadyZ P md ops Q S z fuel listed a w rs) : AllReadyZ P md ops Q S z fuel listed a w (i :: rs) := fun j hj => by
  rcases List.mem_cons.1 hj with rfl | hj
  · exact wpOp_step ho (fun K' hK => h K' (fun a w hS hW => hK a w ⟨fun _ => hS, hW hS⟩))
  · exact hs j hj
/-- At z itself, and behind it: nothing is asked. -/
theorem AllReadyZ.last {fuel : Nat} {listed : Array Bool} {a : Act} {w : World} {i : Nat} {o : Oper} {rs : List Nat} (ho : ops[i]? = some o) (hz : (listed.setIfInBounds i true).getD z true = true)
    (h : ∀ K' : Act → World → Prop, Shut (∀ a w, wpAnyZ P md ops Q S z fuel (listed.setIfInBounds i true) a w → K' a w) → if Region.wanted o (yielded ops a.tmps) = true then Oper.wp P o a w K' Q else K' (a.put o.dst undef) w)
    (hs : AllReadyZ P md ops Q S z fuel listed a w rs) : AllReadyZ P md ops Q S z fuel listed a w (i :: rs) := fun j hj => by
  rcases List.mem_cons.1 hj with rfl | hj
  · exact wpOp_step ho (fun K' hK => h K' (fun a w hW => hK a w ⟨fun h0 => (by rw [hz] at h0; cases h0), hW⟩))
  · exact hs j hj
theorem wpAnyZ_ready {rs : List Nat} {fuel : Nat} {listed : Array Bool} {a : Act} {w : World} (hr : Region.ready md ops listed = rs) (hne : rs ≠ [])
    (h : AllReadyZ P md ops Q S z fuel listed a w rs) : wpAnyZ P md ops Q S z (fuel + 1) listed a w :=
  ⟨fun h0 => absurd (hr ▸ h0) hne, hr ▸ h⟩
theorem wp_region_Z {id : Nat} {a : Act} {w : World} (z : Nat) (hm : P.follows .mixedOrders = true) (hS : S w.drew)
    (h : S w.drew → wpAnyZ P .any ops Q S z ops.size (Array.replicate ops.size false) a w.drew) : (Code.region id ops true).wp P Q a w :=
  wp_region_any hm (wpAny_of_Z _ _ _ _ (h hS))
end
end Go
