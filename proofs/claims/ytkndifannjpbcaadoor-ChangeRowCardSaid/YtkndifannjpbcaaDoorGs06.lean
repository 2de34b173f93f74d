/- Words for memory that serve every seat: rows that are read, rows of the call's own, appends. -/
import Derived.Test.YtkndifannjpbcaaDoorGs01
import Derived.Test.YtkndifannjpbcaaDoorGs03
import Derived.Deep.QuietTactic
import Derived.BigQuiet
import Derived.Deep.DeepCutAuto
import Derived.Deep.LoopGhost
import Derived.Deep.RegionHeld3
import Derived.Deep.AppendLies
import Derived.Deep.MidRow
import Derived.Laws.ResultCell
import Derived.Laws.Tables
import Derived.Laws.StructEq
import Derived.Laws.CopyOwn
import Derived.Laws.MakeOwn
import Derived.Laws.OwnMore
import Derived.Maps.AppendAt
import Derived.OwnWalk
import Derived.IntWalk
import Derived.Test.YtkndifannjpbcaaDoorGs05
import Derived.WalkSmall
import Derived.Test.YtkndifannjpbcaaDoorCards
import Derived.Test.YtkndifannjpbcaaDoorTie
import Derived.Deep.DeepHandedRow
import Derived.Deep.DeepWitnessRowRef
import Derived.Lib.LaidTab
import Derived.Stop.LaidErr
import Derived.LaidMore
import Derived.LaidLaws
namespace Go.Proofs.YtkndifannjpbcaaDoor
open Go.RowKit

theorem retI {k : IntKind} {a b : Int} (h : a = b) : Ending.returned (.int k a) = .returned (.int k b) := by rw [h]
theorem retS {a b : ByteArray} (h : a = b) : Ending.returned (.string a) = .returned (.string b) := by rw [h]
theorem retB {a b : Bool} (h : a = b) : Ending.returned (.bool a) = .returned (.bool b) := by rw [h]
theorem joinB {a b c : World} (h : Below a.heap.size a b) (k : Below b.heap.size b c) : Below a.heap.size a c := h.trans (k.mono h.size)
theorem drewB (w : World) (n : Nat) : Below w.heap.size w (w.drewN n) := ⟨rfl, rfl, rfl, Nat.le_refl _, fun _ _ => rfl⟩
theorem pastAlloc {w w' : World} {o : Obj} (hb : Below w.heap.size w w') : Below w.heap.size w (w'.alloc o) := hb.alloc hb.size o
theorem allocB (w : World) (o : Obj) : Below w.heap.size w (w.alloc o) := pastAlloc (Below.refl _ _)
theorem heapLt {w : World} {g : Nat} {o : Obj} (h : w.heap[g]? = some o) : g < w.heap.size := (Array.getElem?_eq_some_iff.1 h).1
theorem blkNew {w w' : World} {o : Obj} (hb : Below (w.alloc o).heap.size (w.alloc o) w') : w'.heap[w.heap.size]? = some o :=
  (hb.block _ (by simp)).trans (heap_alloc_new w _)
theorem blkOld {w w' : World} {b : Nat} {o : Obj} (h : w.heap[b]? = some o) (hb : Below w.heap.size w w') : w'.heap[b]? = some o := by
  rw [hb.block b (heapLt h)]; exact h
theorem blkPast {w w' : World} {b : Nat} {o o2 : Obj} (h : w.heap[b]? = some o) (hb : Below (w.alloc o2).heap.size (w.alloc o2) w') : w'.heap[b]? = some o := by
  have hlt := heapLt h
  rw [hb.block b (by simp; omega), Below.heap_alloc w o2 b hlt]; exact h
theorem blkSet {w : World} {b : Nat} (i : Nat) {cs : Array Value} {T : TypeId} {fr : Nat × Nat} (h : w.heap[b]? = some (.cells cs T fr)) (v : Value) : (w.setCell ⟨b, i, none⟩ v).heap[b]? = some (.cells (cs.setIfInBounds i v) T fr) := by
  rw [setCell_eq_setRow w b i cs T fr v h]
  exact setRow_heap w b _ _ T _ h
theorem blkCell {w : World} {g : Nat} {cs : Array Value} {t : TypeId} {fr : Nat × Nat} (h : w.heap[g]? = some (.cells cs t fr)) (i : Nat) : w.cell? ⟨g, i, none⟩ = cs[i]? := by simp [World.cell?, h]
theorem blkFrozen {w : World} {g : Nat} {cs : Array Value} {t : TypeId} (h : w.heap[g]? = some (.cells cs t (0, 0))) (i : Nat) : w.frozen? ⟨g, i, none⟩ = false := by simp [World.frozen?, h]
theorem ownBelow {w w' : World} {B : Nat} {e : TypeId} {size n : Nat} {v : Value} {xs : List Value} (h : w.ownsRow B e size v n xs) (hb : Below w.heap.size w w') : w'.ownsRow B e size v n xs := by
  refine ⟨h.1, ?_⟩
  rcases h.2 with hz | ⟨g, cap, cur, hv, hg, hh, r⟩
  · exact .inl hz
  · exact .inr ⟨g, cap, cur, hv, hg, blkOld hh hb, r⟩
theorem ownSet {w : World} {B : Nat} {e : TypeId} {size n : Nat} {v : Value} {xs : List Value} (h : w.ownsRow B e size v n xs) (a : Addr) (u : Value) (ha : a.block < B) : (w.setCell a u).ownsRow B e size v n xs := by
  refine ⟨h.1, ?_⟩
  rcases h.2 with hz | ⟨g, cap, cur, hv, hg, hh, r⟩
  · exact .inl hz
  · exact .inr ⟨g, cap, cur, hv, hg, by rw [Below.heap_setCell _ _ _ _ (by omega)]; exact hh, r⟩
theorem ownMono {w : World} {B B' : Nat} {e : TypeId} {size n : Nat} {v : Value} {xs : List Value} (h : w.ownsRow B e size v n xs) (hb : B' ≤ B) : w.ownsRow B' e size v n xs := by
  refine ⟨h.1, ?_⟩
  rcases h.2 with h2 | ⟨g, cap, cur, hv, hg, h3⟩
  · exact .inl h2
  · exact .inr ⟨g, cap, cur, hv, Nat.le_trans hb hg, h3⟩
theorem ownLen {B n size : Nat} {e : TypeId} {v : Value} {xs : List Value} {w : World} (h : w.ownsRow B e size v n xs) : ∃ a c, v = .slice a n c := by
  rcases h.2 with ⟨rfl, h0⟩ | ⟨g', cap, cur, rfl, _⟩
  · exact ⟨_, _, by rw [h0]⟩
  · exact ⟨_, _, rfl⟩
theorem ownNil (w : World) (B : Nat) (e : TypeId) (size : Nat) : w.ownsRow B e size (.slice none 0 0) 0 [] := World.ownsRow_nil w B e size
theorem ownEmpty (w : World) (e : TypeId) (size : Nat) : (w.alloc (.cells #[] e)).ownsRow w.heap.size e size (.slice (some ⟨w.heap.size, 0, none⟩) 0 0) 0 [] := World.ownsRow_made w #[] 0 (Nat.le_refl _) (Nat.zero_le _) (by simp)

/-- The slice at A, of n elements and capacity c, reads as the cells vs. -/
def Reads (w : World) (A : Option Addr) (c n : Nat) (vs : List Value) : Prop :=
  0 < n → ∃ b off, A = some ⟨b, off, none⟩ ∧ n ≤ c ∧ b < w.heap.size ∧ ∀ j v, vs[j]? = some v → w.cell? ⟨b, off + j, none⟩ = some v
theorem Reads.none_ (w : World) (A : Option Addr) (c : Nat) (vs : List Value) : Reads w A c 0 vs := fun h => absurd h (by omega)
theorem Reads.below {w w' : World} {A : Option Addr} {c n : Nat} {vs : List Value} (h : Reads w A c n vs) (hb : Below w.heap.size w w') : Reads w' A c n vs := fun h0 => by
  obtain ⟨b, off, hA, hc, hlt, hcell⟩ := h h0
  refine ⟨b, off, hA, hc, Nat.lt_of_lt_of_le hlt hb.size, fun j v hj => ?_⟩
  rw [hb.cell (p := ⟨b, off + j, none⟩) hlt]; exact hcell j v hj
theorem Reads.alloc {w : World} {A : Option Addr} {c n : Nat} {vs : List Value} (h : Reads w A c n vs) (o : Obj) : Reads (w.alloc o) A c n vs := h.below (allocB w o)
theorem Reads.at_ {w : World} {A : Option Addr} {c n : Nat} {vs : List Value} (h : Reads w A c n vs) (h0 : 0 < n) : ∃ b off, A = some ⟨b, off, none⟩ ∧ n ≤ c ∧ b < w.heap.size ∧ ∀ j v, vs[j]? = some v → w.cell? ⟨b, off + j, none⟩ = some v := h h0
theorem own_reads {w : World} {B : Nat} {e : TypeId} {size n c : Nat} {A : Option Addr} {vs : List Value} (h : w.ownsRow B e size (.slice A n c) n vs) : Reads w A c n vs := fun h0 => by
  rcases h.2 with ⟨_, hz⟩ | ⟨g, cap, cur, hv, hg, hh, hn, hm, hs, ht⟩
  · omega
  · injection hv with h1 h2 h3
    subst h1 h3
    refine ⟨g, 0, rfl, hn, heapLt hh, fun j v hj => ?_⟩
    have h5 : cur.toList[j]? = some v := by
      rw [← ht] at hj
      rw [List.getElem?_take] at hj
      split at hj
      · exact hj
      · cases hj
    rw [blkCell hh, Nat.zero_add]
    simpa using h5
theorem reads_blk {w : World} {g : Nat} {cs : List Value} {T : TypeId} {n c : Nat} (h : w.heap[g]? = some (.cells cs.toArray T (0, 0))) (hn : n ≤ c) : Reads w (some ⟨g, 0, none⟩) c n cs := fun _ =>
  ⟨g, 0, rfl, hn, heapLt h, fun j v hj => by rw [blkCell h, Nat.zero_add]; simpa using hj⟩
/-- Elements of k cells each, one behind the other. -/
theorem flat_at {α : Type} {enc : α → List Value} {k : Nat} (hk : ∀ x, (enc x).length = k) : ∀ (l : List α) (j i : Nat) (hj : j < l.length), i < k → (l.flatMap enc)[j * k + i]? = (enc l[j])[i]? := by
  intro l
  induction l with
  | nil => intro j i h; simp at h
  | cons x l ih =>
    intro j i hj hi
    rw [List.flatMap_cons]
    cases j with
    | zero => rw [List.getElem?_append_left (by rw [hk]; omega)]; simp
    | succ j =>
      rw [List.getElem?_append_right (by rw [hk, Nat.succ_mul]; omega), hk, show (j + 1) * k + i - k = j * k + i by rw [Nat.succ_mul]; omega]
      exact ih j i (by simpa using hj) hi
theorem flat_len {α : Type} {enc : α → List Value} {k : Nat} (hk : ∀ x, (enc x).length = k) (l : List α) : (l.flatMap enc).length = l.length * k := by
  induction l with
  | nil => simp
  | cons x l ih => rw [List.flatMap_cons, List.length_append, hk, ih, List.length_cons, Nat.succ_mul]; omega
/-- A cell of an element of a slice that is read. -/
theorem read_at {α : Type} {enc : α → List Value} {k : Nat} (hk : ∀ x, (enc x).length = k) {w : World} {A : Option Addr} {c : Nat} {l : List α} (h : Reads w A c l.length (l.flatMap enc)) {j : Nat} (hj : j < l.length) :
    ∃ b off, A = some ⟨b, off, none⟩ ∧ l.length ≤ c ∧ b < w.heap.size ∧ ∀ i v, (enc l[j])[i]? = some v → w.cell? ⟨b, off + j * k + i, none⟩ = some v := by
  obtain ⟨b, off, hA, hc, hlt, hcell⟩ := h (by omega)
  refine ⟨b, off, hA, hc, hlt, fun i v hv => ?_⟩
  have hi : i < k := by
    have := (List.getElem?_eq_some_iff.1 hv).1
    rw [hk] at this; exact this
  rw [Nat.add_assoc]
  exact hcell _ _ (by rw [flat_at hk l j i hj hi]; exact hv)

theorem run_app_nil {P : Program} {w : World} {t e ty : TypeId} {i0 : TypeInfo} {B n size : Nat} {v : Value} {xs : List Value} (ht : P.underlying t = some (.slice e)) (hi : P.info? e = some i0) (hown : w.ownsRow B e size v n xs) (c : Nat) :
    (Builtin.append_ #[t, t] ty #[v, .slice none 0 c]).run P w = .ok v w := by
  rcases hown.2 with ⟨rfl, hz⟩ | ⟨g, cap, cur, rfl, _, _, hnc, _⟩
  · simp [Builtin.append_, run_underlying ht, sizeOf, typeInfo, hi, Builtin.lenOf, Builtin.firstCells]
  · simp [Builtin.append_, run_underlying ht, sizeOf, typeInfo, hi, Builtin.lenOf, Builtin.firstCells, hnc, storeCells]
/-- append onto a row of the call's own: elements of any size, the source nil or not. -/
theorem wp_appR {P : Program} {o : Oper} {a : Act} {K : Act → World → Prop} {Q : Exit → Act → World → Prop} (w : World) (s x : Operand) (t e : TypeId) (i0 : TypeInfo) (z : Value) (size bytes : Nat)
    (ht : P.underlying t = some (.slice e)) (hi : P.info? e = some i0) (hz : i0.zero = some z) (hsz : i0.size = size) (hby : i0.bytes = bytes) (hzc : z.cells.size = size) (hpos : 0 < size)
    (ho : o.op = .call { callee := .builtin .append, args := #[s, x], argTypes := #[t, t] })
    (B : Nat) (v : Value) (n : Nat) (xs : List Value) (hs : a.eval s = v) (hown : w.ownsRow B e size v n xs) (A : Option Addr) (m c : Nat) (ys : List Value) (hx : a.eval x = .slice A m c) (hy : Reads w A c m ys) (hyl : ys.length = m * size) (h1 : ∀ u ∈ ys, u.oneCell' = true)
    (hlen : n + m ≤ 1048576) (hbs : bytes ≤ 1024) (hbase : B ≤ w.heap.size)
    (h : ∀ v' w', w'.ownsRow B e size v' (n + m) (xs ++ ys) → w.grownBy w' v.ownBlock → Below B w w' → K (a.put o.dst v') w') : o.wp P a w K Q := by
  rcases A with _ | ad
  · have hn : m = 0 := by
      rcases Nat.eq_zero_or_pos m with h0 | h0
      · exact h0
      · obtain ⟨b, off, e, _⟩ := hy h0
        cases e
    subst hn
    have hys : ys = [] := List.eq_nil_of_length_eq_zero (by simpa using hyl)
    subst hys
    have hrun := run_app_nil (ty := o.type) ht hi hown c
    unfold Oper.wp execOp
    simp only [ho, resolve, invoke, builtin, Sem.run_bind, Sem.run_pure, Result.andThen_ok, List.map_toArray, List.map_cons, List.map_nil, hs, hx, hrun]
    exact h v w (by simpa using hown) (World.grownBy.refl w _) (Below.refl _ _)
  · refine wp_append_own w s x _ ho B e i0 z size bytes ht hi hz hsz hby hzc hpos v n xs hs hown ad m c ys hx hyl ?_ h1 (by simp only [maxLen]; omega) ?_ hbase ?_
    · intro j u hu
      have hpos : 0 < m := by
        have := (List.getElem?_eq_some_iff.1 hu).1
        rcases Nat.eq_zero_or_pos m with h0 | h0
        · subst h0; rw [Nat.zero_mul] at hyl; omega
        · exact h0
      obtain ⟨b, off, e, _, _, hE⟩ := hy hpos
      injection e with e
      subst e
      rw [show (⟨b, off, none⟩ : Addr).add j = ⟨b, off + j, none⟩ from Addr.add_mid b off j]
      exact hE j u hu
    · have : (n + m) * bytes ≤ 1048576 * 1024 := Nat.mul_le_mul hlen hbs
      omega
    · intro v' w' h1 h2 _
      exact h v' w' h1 h2 ((Below.refl _ _).grown h2 hbase (fun k hk => (hown.lt k hk).1))
/-- At an operation that is wanted. -/
theorem listWants {P : Program} {ops : Array Oper} {Q : Exit → Act → World → Prop} {a : Act} {w : World} {rest : List Oper} {o : Oper} (hw : Region.wanted o (yielded ops a.tmps) = true) (h : ∀ K : Act → World → Prop, (∀ a w, wpList P ops Q rest a w → K a w) → o.wp P a w K Q) : wpList P ops Q (o :: rest) a w :=
  wpList_step fun K hK => by rw [if_pos hw]; exact h K hK
/-- A value of as many cells as the block has is stored into it whole. -/
theorem run_store_whole {P : Program} (w : World) (b : Nat) (ty : TypeId) (cells cur : Array Value) (t : TypeId) (hg : w.heap[b]? = some (.cells cur t (0, 0))) (hsz : cur.size = cells.size) (hi : (P.info? ty).map (·.size) = some cells.size) (h1 : cells.all (·.oneCell') = true) :
    (storeVar ty ⟨b, 0, none⟩ (.agg cells)).run P w = .ok () (w.setRow b cells) := by
  have hst := run_storeCells_at P b 0 t cells.toList 0 cur w hg (by simp [hsz]) (fun v hv => (Array.all_eq_true_iff_forall_mem.1 h1) v (by simpa using hv))
  simp only [Nat.zero_add, List.take_zero, List.nil_append] at hst
  have e : (cells.toList ++ cur.toList.drop cells.toList.length).toArray = cells := by
    rw [List.drop_of_length_le (by simp [hsz])]; simp
  rw [e] at hst
  cases hq : P.info? ty with
  | none => simp [hq] at hi
  | some i =>
    have hs : cells.size = i.size := by simp [hq] at hi; omega
    simp [storeVar, sizeOf, typeInfo, hq, Value.cells, hs, hst]
theorem wp_store_whole {P : Program} {op : Oper} {a : Act} {w : World} {K : Act → World → Prop} {Q : Exit → Act → World → Prop} (ty : TypeId) (x y : Operand) (ho : op.op = .store ty x y)
    (b : Nat) (cells cur : Array Value) (t : TypeId) (hx : a.eval x = .pointer (some ⟨b, 0, none⟩)) (hy : a.eval y = .agg cells) (hg : w.heap[b]? = some (.cells cur t (0, 0))) (hsz : cur.size = cells.size)
    (hi : (P.info? ty).map (·.size) = some cells.size) (h1 : cells.all (·.oneCell') = true) (h : K (a.put op.dst undef) (w.setRow b cells)) : op.wp P a w K Q := by
  unfold Oper.wp execOp
  simp only [ho, hx, hy, Instr.storeAt, Instr.sureAddr, Sem.run_bind, Sem.run_pure, Result.andThen_ok, run_store_whole w b ty cells cur t hg hsz hi h1]
  exact h
theorem alloc_setRow (w : World) (cs cur : Array Value) (t : TypeId) : (w.alloc (.cells cur t)).setRow w.heap.size cs = w.alloc (.cells cs t) := by
  have e : (w.heap.push (Obj.cells cur t)).modify w.heap.size (fun | .cells _ elem frozen => .cells cs elem frozen | o => o) = w.heap.push (.cells cs t) := by
    apply Array.ext_getElem?
    intro i
    rw [Array.getElem?_modify, Array.getElem?_push, Array.getElem?_push]
    by_cases h : i = w.heap.size
    · subst h; simp
    · rw [if_neg (fun e => h e.symm), if_neg h, if_neg h]
  show ({ w with heap := (w.heap.push (Obj.cells cur t)).modify w.heap.size (fun | .cells _ elem frozen => .cells cs elem frozen | o => o) } : World) = { w with heap := w.heap.push (.cells cs t) }
  rw [e]
/-- The variable that was made last gets its value. -/
theorem wpList_store_new {P : Program} {ops : Array Oper} {rest : List Oper} {op : Oper} {a : Act} {w : World} {Q : Exit → Act → World → Prop} (hgd : op.guard = none) (ty : TypeId) (x y : Operand) (ho : op.op = .store ty x y)
    (cells cur : Array Value) (t : TypeId) (hx : a.eval x = .pointer (some ⟨w.heap.size, 0, none⟩)) (hy : a.eval y = .agg cells) (hsz : cur.size = cells.size)
    (hi : (P.info? ty).map (·.size) = some cells.size) (h1 : cells.all (·.oneCell') = true)
    (h : wpList P ops Q rest (a.put op.dst undef) (w.alloc (.cells cells t))) : wpList P ops Q (op :: rest) a (w.alloc (.cells cur t)) :=
  wpList_plain hgd fun _ hK => wp_store_whole ty x y ho w.heap.size cells cur t hx hy (heap_alloc_new w _) hsz hi h1 (hK _ _ (by rw [alloc_setRow]; exact h))
theorem results_cell {P : Program} {fn : Func} {p : Tmp} {ty : TypeId} (h : fn.results = #[.cell p ty]) (tmps : Array Value) (w : World) {ad : Addr} (hp : tmps.getD p undef = .pointer (some ad)) {v : Value} (hl : (loadVar ty ad).run P w = .ok v w) :
    (results fn tmps).run P w = .ok v w := by
  simp only [results, h]
  have hp' : tmps[p]?.getD undef = .pointer (some ad) := by simpa using hp
  simp [Sem.run_bind, Result.andThen, hp', asAddr, hl]
/-- A whole block is read. -/
theorem load_whole {P : Program} {w : World} {b : Nat} {ty : TypeId} {cells : Array Value} {t : TypeId} {d : TypeDesc} (hg : w.heap[b]? = some (.cells cells t (0, 0)))
    (hu : P.underlying ty = some d) (hd : d.isRow = true) (hi : (P.info? ty).map (·.size) = some cells.size) : (loadVar ty ⟨b, 0, none⟩).run P w = .ok (.agg cells) w := by
  have h := run_loadVar_mid (P := P) w b 0 ty cells.toList d (fun j v hj => by rw [blkCell hg, Nat.zero_add]; simpa using hj) hu hd (by simpa using hi)
  simpa using h
theorem wpList_load_whole {P : Program} {ops : Array Oper} {rest : List Oper} {op : Oper} {a : Act} {w : World} {Q : Exit → Act → World → Prop} (hgd : op.guard = none) (ty : TypeId) (x : Operand) (ho : op.op = .load ty x)
    (b : Nat) (hx : a.eval x = .pointer (some ⟨b, 0, none⟩)) (cells : Array Value) (t : TypeId) (hg : w.heap[b]? = some (.cells cells t (0, 0))) (d : TypeDesc)
    (hu : P.underlying ty = some d) (hd : d.isRow = true) (hi : (P.info? ty).map (·.size) = some cells.size)
    (h : wpList P ops Q rest (a.put op.dst (.agg cells)) w) : wpList P ops Q (op :: rest) a w := by
  refine wpList_load_mid hgd ty x ho b 0 hx cells.toList d (fun j v hj => by rw [blkCell hg, Nat.zero_add]; simpa using hj) hu hd (by simpa using hi) ?_
  simpa using h
/-- A whole block is read, by an operation that may be guarded, and is wanted. -/
theorem listLoad {P : Program} {ops : Array Oper} {rest : List Oper} {op : Oper} {a : Act} {w : World} {Q : Exit → Act → World → Prop} (hw : Region.wanted op (yielded ops a.tmps) = true) (ty : TypeId) (x : Operand) (ho : op.op = .load ty x)
    (b : Nat) (hx : a.eval x = .pointer (some ⟨b, 0, none⟩)) (cells : Array Value) (t : TypeId) (hg : w.heap[b]? = some (.cells cells t (0, 0))) (d : TypeDesc)
    (hu : P.underlying ty = some d) (hd : d.isRow = true) (hi : (P.info? ty).map (·.size) = some cells.size)
    (h : wpList P ops Q rest (a.put op.dst (.agg cells)) w) : wpList P ops Q (op :: rest) a w :=
  listWants hw fun K hK => by
    refine wp_load_mid ty x ho b 0 hx cells.toList d (fun j v hj => by rw [blkCell hg, Nat.zero_add]; simpa using hj) hu hd (by simpa using hi) ?_
    simpa using hK _ _ h
end Go.Proofs.YtkndifannjpbcaaDoor
/- The walks over package change: decimal texts, by the shelf's contracts for strconv. -/
namespace Go.Proofs.YtkndifannjpbcaaDoor
open Go.RowKit

structure Vars (w : World) : Prop where
  tab : Lib.TabIs Tryd.prog w "internal/strconv.uint64pow10" .u64 Lib.pow10Tab
  syn : ∃ tp p, w.var? Tryd.prog "strconv.ErrSyntax" = some #[.iface tp p]
  ran : ∃ tp p, w.var? Tryd.prog "strconv.ErrRange" = some #[.iface tp p]
  size : 5 ≤ w.heap.size
theorem gTab : Tryd.prog.globalNamed "internal/strconv.uint64pow10" = some 3 := by kernel_rfl
theorem gSyn : Tryd.prog.globalNamed "strconv.ErrSyntax" = some 0 := by kernel_rfl
theorem gRan : Tryd.prog.globalNamed "strconv.ErrRange" = some 1 := by kernel_rfl
theorem Vars.below {w w' : World} (h : Vars w) (hb : Below w.heap.size w w') : Vars w' := by
  have h5 := h.size
  obtain ⟨ta, pa, ha⟩ := h.syn
  obtain ⟨tb, pb, hb'⟩ := h.ran
  exact ⟨var?_below hb gTab (by omega) h.tab, ⟨ta, pa, var?_below hb gSyn (by omega) ha⟩, ⟨tb, pb, var?_below hb gRan (by omega) hb'⟩, Nat.le_trans h.size hb.size⟩
theorem below_grown (w : World) (k : Nat) (os : Array Obj) : Below w.heap.size w (Sort.grow (w.drewN k) os) :=
  ⟨rfl, rfl, rfl, by show w.heap.size ≤ (w.heap ++ os).size; rw [Array.size_append]; omega, fun j hj => by
    show (w.heap ++ os)[j]? = w.heap[j]?
    rw [Array.getElem?_append_left hj]⟩
theorem itoa_any (n : Int) (h0 : -9223372036854775808 ≤ n) (h1 : n ≤ 9223372036854775807) (w : World) (hv : Vars w) :
    Calls Tryd.prog 37 #[.int .i64 n] w fun e w' => e = .returned (.string (itoaB n)) ∧ Below w.heap.size w w' := by
  refine (Tryd.strconv_Itoa n h0 h1 w hv.tab).mono ?_
  rintro e w' ⟨rfl, k, os, rfl⟩
  exact ⟨rfl, below_grown _ _ _⟩
theorem atoi_bad (s : ByteArray) (hlim : s.size ≤ 281474976710656) (h : ∀ v, Lib.atoiAll s.data.toList ≠ .ok v) (w : World) (hv : Vars w) :
    Calls Tryd.prog 36 #[.string s] w fun e w' => ∃ n p, e = .returned (.tuple #[.int .i64 n, .iface 83 p]) ∧ Below w.heap.size w w' := by
  cases hc : Lib.atoiAll s.data.toList
  · rename_i v; exact absurd hc (h v)
  · obtain ⟨tp, p, hvar⟩ := hv.syn
    refine (Any.strconv_Atoi_syntax_var Tryd.laysC172 s hlim hc tp p w hvar).mono ?_
    rintro e w' ⟨N, rfl, _, _, hb⟩
    exact ⟨_, _, rfl, hb⟩
  · obtain ⟨tp, p, hvar⟩ := hv.ran
    refine (Any.strconv_Atoi_range_var Tryd.laysC172 s hlim hc tp p w hvar).mono ?_
    rintro e w' ⟨N, rfl, _, _, hb⟩
    exact ⟨_, _, rfl, hb⟩
theorem atoi_good (s : ByteArray) (hlim : s.size ≤ 281474976710656) (v : Int) (h : Lib.atoiAll s.data.toList = .ok v) (w : World) :
    Calls Tryd.prog 36 #[.string s] w fun e w' => e = .returned (.tuple #[.int .i64 v, .nilIface]) ∧ Below w.heap.size w w' := by
  refine (Tryd.strconv_Atoi_ok s (by omega) v h w).mono ?_
  rintro e w' ⟨rfl, hw⟩
  refine ⟨rfl, ?_⟩
  rcases hw with rfl | ⟨t, rfl⟩
  · exact Below.refl _ _
  · exact below_bytes _ _ _
theorem plain_any (p : ByteArray) (hm : p.size ≤ 140737488355328) (w : World) :
    Calls Tryd.prog 39 #[.string p] w fun e w' => e = .returned (.string (lsnB p 0)) ∧ Below w.heap.size w w' := by
  have HS := Lib.hid (fun W => setlsn_any p 0 hm W)
  generalize lsnB p 0 = q at HS ⊢
  go_enter Tryd.func39, Tryd.ntmps39
  go_wp2_with (go_at_call 12; refine (HS.out _).mono ?_; rintro e w1 ⟨rfl, hb⟩)
  go_ret
  exact ⟨rfl, hb⟩
end Go.Proofs.YtkndifannjpbcaaDoor
/- The frame shared by the statements of this seat: what the row's list of variables gives the walks, and a start that meets it. -/
namespace Go.Proofs.YtkndifannjpbcaaDoor
open Go.ChangeShapes Go.WideShapes Go.ChangeAt Go.RowKit

/-- The list, as every row of this seat has it. -/
def laidAll {H : Type} : List (String × DataW H) := [("math/bits.deBruijn32tab", Rows.laid_math_bits_deBruijn32tab), ("math/bits.deBruijn64tab", Rows.laid_math_bits_deBruijn64tab), ("internal/strconv.uint64pow10", Rows.laid_internal_strconv_uint64pow10), ("strconv.ErrRange", Rows.laid_strconv_ErrRange), ("strconv.ErrSyntax", Rows.laid_strconv_ErrSyntax)]
theorem typeTab : (Tryd.prog.globals[3]?).map (·.type) = some 104 := by kernel_rfl
theorem typeSyn : (Tryd.prog.globals[0]?).map (·.type) = some 54 := by kernel_rfl
theorem typeRan : (Tryd.prog.globals[1]?).map (·.type) = some 54 := by kernel_rfl
theorem pow10_eq {H : Type} : (Rows.laid_internal_strconv_uint64pow10 : DataW H) = Lib.tabData .u64 Lib.pow10Tab := rfl
theorem cellsTab : Tryd.prog.cellsOf 104 = 20 := by kernel_rfl
theorem cellsWord : Tryd.prog.cellsOf 62 = 1 := by kernel_rfl
theorem g64 : Tryd.prog.globalNamed "math/bits.deBruijn64tab" = some 5 := by kernel_rfl
theorem star : "*" ++ "errors.errorString" = "*errors.errorString" := by decide
theorem rowErr (u : TypeId) (h : Tryd.prog.typeName? 3 u = some "*errors.errorString") : u = 99 :=
  typeName_ptr_named (nm := "errors.errorString") (by rw [star]; kernel_rfl) (by kernel_rfl) (by decide) u (by rw [star]; exact h)
theorem cellsErr : Tryd.prog.cellsOf 101 = 1 := by kernel_rfl
theorem cellsStr : Tryd.prog.cellsOf 9 = 1 := by kernel_rfl
theorem size_of_laid {W : World} (h : laidMet Tryd.prog laidAll W) : 5 ≤ W.heap.size := by
  have h2 := h.tail
  obtain ⟨ps, ⟨g0, t0, cs0, f0, p0, q0, hg0, ht0, hv0, hd0, _, e0⟩, _⟩ := h2
  obtain rfl := Option.some.inj (g64.symm.trans hg0)
  unfold World.var? at hv0
  simp only [g64, Option.bind_some] at hv0
  rcases Nat.lt_or_ge 5 W.heap.size with hlt | hge
  · omega
  · rw [Array.getElem?_eq_none hge] at hv0; cases hv0
theorem vars_of_laid {W : World} (h : laidMet Tryd.prog laidAll W) : Vars W := by
  refine ⟨?_, ?_, ?_, size_of_laid h⟩
  · have h2 := h.tail.tail
    exact Lib.tabIs_of_head gTab typeTab Tryd.underlying104 Tryd.underlying62 cellsWord cellsTab h2
  · obtain ⟨a, s, hv, _⟩ := laid_sentinel h.tail.tail.tail.tail gSyn typeSyn Tryd.underlying54 rowErr Tryd.underlying99 Tryd.underlying101 rfl rfl Tryd.underlying9 cellsErr cellsStr
    exact ⟨_, _, hv⟩
  · obtain ⟨a, s, hv, _⟩ := laid_sentinel h.tail.tail.tail gRan typeRan Tryd.underlying54 rowErr Tryd.underlying99 Tryd.underlying101 rfl rfl Tryd.underlying9 cellsErr cellsStr
    exact ⟨_, _, hv⟩
theorem laid_met (os : Os) (args : Array Value) : laidMet Tryd.prog laidAll ((World.doorLaid Tryd.prog 106 os).forCall (fun _ _ => 0) ⟨#[], args, []⟩).memory :=
  laidMet_of_run' 8 (by kernel_rfl) (by kernel_rfl)
end Go.Proofs.YtkndifannjpbcaaDoor
