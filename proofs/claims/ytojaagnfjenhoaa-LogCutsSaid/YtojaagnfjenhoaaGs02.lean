/- Words for memory that serve every seat: rows that are read, rows of the call's own, appends. -/
import Derived.Test.YtojaagnfjenhoaaGs01
import Derived.Deep.QuietTactic
import Derived.BigQuiet
import Derived.Deep.DeepCutAuto
import Derived.Deep.LoopGhost
import Derived.Deep.RegionHeld3
import Derived.Deep.AppendLies
import Derived.Deep.MidRow
import Derived.Laws.ResultCell
import Derived.Laws.Tables
import Derived.Laws.StructEq
import Derived.Laws.CopyOwn
import Derived.Laws.MakeOwn
import Derived.Laws.OwnMore
import Derived.Maps.AppendAt
import Derived.OwnWalk
import Derived.IntWalk
namespace Go.Proofs.Ytojaagnfjenhoaa
open Go.RowKit

theorem retI {k : IntKind} {a b : Int} (h : a = b) : Ending.returned (.int k a) = .returned (.int k b) := by rw [h]
theorem retS {a b : ByteArray} (h : a = b) : Ending.returned (.string a) = .returned (.string b) := by rw [h]
theorem retB {a b : Bool} (h : a = b) : Ending.returned (.bool a) = .returned (.bool b) := by rw [h]
theorem joinB {a b c : World} (h : Below a.heap.size a b) (k : Below b.heap.size b c) : Below a.heap.size a c := h.trans (k.mono h.size)
theorem drewB (w : World) (n : Nat) : Below w.heap.size w (w.drewN n) := ⟨rfl, rfl, rfl, Nat.le_refl _, fun _ _ => rfl⟩
theorem pastAlloc {w w' : World} {o : Obj} (hb : Below w.heap.size w w') : Below w.heap.size w (w'.alloc o) := hb.alloc hb.size o
theorem allocB (w : World) (o : Obj) : Below w.heap.size w (w.alloc o) := pastAlloc (Below.refl _ _)
theorem heapLt {w : World} {g : Nat} {o : Obj} (h : w.heap[g]? = some o) : g < w.heap.size := (Array.getElem?_eq_some_iff.1 h).1
theorem blkNew {w w' : World} {o : Obj} (hb : Below (w.alloc o).heap.size (w.alloc o) w') : w'.heap[w.heap.size]? = some o :=
  (hb.block _ (by simp)).trans (heap_alloc_new w _)
theorem blkOld {w w' : World} {b : Nat} {o : Obj} (h : w.heap[b]? = some o) (hb : Below w.heap.size w w') : w'.heap[b]? = some o := by
  rw [hb.block b (heapLt h)]; exact h
theorem blkPast {w w' : World} {b : Nat} {o o2 : Obj} (h : w.heap[b]? = some o) (hb : Below (w.alloc o2).heap.size (w.alloc o2) w') : w'.heap[b]? = some o := by
  have hlt := heapLt h
  rw [hb.block b (by simp; omega), Below.heap_alloc w o2 b hlt]; exact h
theorem blkSet {w : World} {b : Nat} (i : Nat) {cs : Array Value} {T : TypeId} {fr : Nat × Nat} (h : w.heap[b]? = some (.cells cs T fr)) (v : Value) : (w.setCell ⟨b, i, none⟩ v).heap[b]? = some (.cells (cs.setIfInBounds i v) T fr) := by
  rw [setCell_eq_setRow w b i cs T fr v h]
  exact setRow_heap w b _ _ T _ h
theorem blkCell {w : World} {g : Nat} {cs : Array Value} {t : TypeId} {fr : Nat × Nat} (h : w.heap[g]? = some (.cells cs t fr)) (i : Nat) : w.cell? ⟨g, i, none⟩ = cs[i]? := by simp [World.cell?, h]
theorem blkFrozen {w : World} {g : Nat} {cs : Array Value} {t : TypeId} (h : w.heap[g]? = some (.cells cs t (0, 0))) (i : Nat) : w.frozen? ⟨g, i, none⟩ = false := by simp [World.frozen?, h]
theorem ownBelow {w w' : World} {B : Nat} {e : TypeId} {size n : Nat} {v : Value} {xs : List Value} (h : w.ownsRow B e size v n xs) (hb : Below w.heap.size w w') : w'.ownsRow B e size v n xs := by
  refine ⟨h.1, ?_⟩
  rcases h.2 with hz | ⟨g, cap, cur, hv, hg, hh, r⟩
  · exact .inl hz
  · exact .inr ⟨g, cap, cur, hv, hg, blkOld hh hb, r⟩
theorem ownSet {w : World} {B : Nat} {e : TypeId} {size n : Nat} {v : Value} {xs : List Value} (h : w.ownsRow B e size v n xs) (a : Addr) (u : Value) (ha : a.block < B) : (w.setCell a u).ownsRow B e size v n xs := by
  refine ⟨h.1, ?_⟩
  rcases h.2 with hz | ⟨g, cap, cur, hv, hg, hh, r⟩
  · exact .inl hz
  · exact .inr ⟨g, cap, cur, hv, hg, by rw [Below.heap_setCell _ _ _ _ (by omega)]; exact hh, r⟩
theorem ownMono {w : World} {B B' : Nat} {e : TypeId} {size n : Nat} {v : Value} {xs : List Value} (h : w.ownsRow B e size v n xs) (hb : B' ≤ B) : w.ownsRow B' e size v n xs := by
  refine ⟨h.1, ?_⟩
  rcases h.2 with h2 | ⟨g, cap, cur, hv, hg, h3⟩
  · exact .inl h2
  · exact .inr ⟨g, cap, cur, hv, Nat.le_trans hb hg, h3⟩
theorem ownLen {B n size : Nat} {e : TypeId} {v : Value} {xs : List Value} {w : World} (h : w.ownsRow B e size v n xs) : ∃ a c, v = .slice a n c := by
  rcases h.2 with ⟨rfl, h0⟩ | ⟨g', cap, cur, rfl, _⟩
  · exact ⟨_, _, by rw [h0]⟩
  · exact ⟨_, _, rfl⟩
theorem ownNil (w : World) (B : Nat) (e : TypeId) (size : Nat) : w.ownsRow B e size (.slice none 0 0) 0 [] := World.ownsRow_nil w B e size
theorem ownEmpty (w : World) (e : TypeId) (size : Nat) : (w.alloc (.cells #[] e)).ownsRow w.heap.size e size (.slice (some ⟨w.heap.size, 0, none⟩) 0 0) 0 [] := World.ownsRow_made w #[] 0 (Nat.le_refl _) (Nat.zero_le _) (by simp)

/-- The slice at A, of n elements and capacity c, reads as the cells vs. -/
def Reads (w : World) (A : Option Addr) (c n : Nat) (vs : List Value) : Prop :=
  0 < n → ∃ b off, A = some ⟨b, off, none⟩ ∧ n ≤ c ∧ b < w.heap.size ∧ ∀ j v, vs[j]? = some v → w.cell? ⟨b, off + j, none⟩ = some v
theorem Reads.none_ (w : World) (A : Option Addr) (c : Nat) (vs : List Value) : Reads w A c 0 vs := fun h => absurd h (by omega)
theorem Reads.below {w w' : World} {A : Option Addr} {c n : Nat} {vs : List Value} (h : Reads w A c n vs) (hb : Below w.heap.size w w') : Reads w' A c n vs := fun h0 => by
  obtain ⟨b, off, hA, hc, hlt, hcell⟩ := h h0
  refine ⟨b, off, hA, hc, Nat.lt_of_lt_of_le hlt hb.size, fun j v hj => ?_⟩
  rw [hb.cell (p := ⟨b, off + j, none⟩) hlt]; exact hcell j v hj
theorem Reads.alloc {w : World} {A : Option Addr} {c n : Nat} {vs : List Value} (h : Reads w A c n vs) (o : Obj) : Reads (w.alloc o) A c n vs := h.below (allocB w o)
theorem Reads.at_ {w : World} {A : Option Addr} {c n : Nat} {vs : List Value} (h : Reads w A c n vs) (h0 : 0 < n) : ∃ b off, A = some ⟨b, off, none⟩ ∧ n ≤ c ∧ b < w.heap.size ∧ ∀ j v, vs[j]? = some v → w.cell? ⟨b, off + j, none⟩ = some v := h h0
theorem own_reads {w : World} {B : Nat} {e : TypeId} {size n c : Nat} {A : Option Addr} {vs : List Value} (h : w.ownsRow B e size (.slice A n c) n vs) : Reads w A c n vs := fun h0 => by
  rcases h.2 with ⟨_, hz⟩ | ⟨g, cap, cur, hv, hg, hh, hn, hm, hs, ht⟩
  · omega
  · injection hv with h1 h2 h3
    subst h1 h3
    refine ⟨g, 0, rfl, hn, heapLt hh, fun j v hj => ?_⟩
    have h5 : cur.toList[j]? = some v := by
      rw [← ht] at hj
      rw [List.getElem?_take] at hj
      split at hj
      · exact hj
      · cases hj
    rw [blkCell hh, Nat.zero_add]
    simpa using h5
theorem reads_blk {w : World} {g : Nat} {cs : List Value} {T : TypeId} {n c : Nat} (h : w.heap[g]? = some (.cells cs.toArray T (0, 0))) (hn : n ≤ c) : Reads w (some ⟨g, 0, none⟩) c n cs := fun _ =>
  ⟨g, 0, rfl, hn, heapLt h, fun j v hj => by rw [blkCell h, Nat.zero_add]; simpa using hj⟩
/-- Elements of k cells each, one behind the other. -/
theorem flat_at {α : Type} {enc : α → List Value} {k : Nat} (hk : ∀ x, (enc x).length = k) : ∀ (l : List α) (j i : Nat) (hj : j < l.length), i < k → (l.flatMap enc)[j * k + i]? = (enc l[j])[i]? := by
  intro l
  induction l with
  | nil => intro j i h; simp at h
  | cons x l ih =>
    intro j i hj hi
    rw [List.flatMap_cons]
    cases j with
    | zero => rw [List.getElem?_append_left (by rw [hk]; omega)]; simp
    | succ j =>
      rw [List.getElem?_append_right (by rw [hk, Nat.succ_mul]; omega), hk, show (j + 1) * k + i - k = j * k + i by rw [Nat.succ_mul]; omega]
      exact ih j i (by simpa using hj) hi
theorem flat_len {α : Type} {enc : α → List Value} {k : Nat} (hk : ∀ x, (enc x).length = k) (l : List α) : (l.flatMap enc).length = l.length * k := by
  induction l with
  | nil => simp
  | cons x l ih => rw [List.flatMap_cons, List.length_append, hk, ih, List.length_cons, Nat.succ_mul]; omega
/-- A cell of an element of a slice that is read. -/
theorem read_at {α : Type} {enc : α → List Value} {k : Nat} (hk : ∀ x, (enc x).length = k) {w : World} {A : Option Addr} {c : Nat} {l : List α} (h : Reads w A c l.length (l.flatMap enc)) {j : Nat} (hj : j < l.length) :
    ∃ b off, A = some ⟨b, off, none⟩ ∧ l.length ≤ c ∧ b < w.heap.size ∧ ∀ i v, (enc l[j])[i]? = some v → w.cell? ⟨b, off + j * k + i, none⟩ = some v := by
  obtain ⟨b, off, hA, hc, hlt, hcell⟩ := h (by omega)
  refine ⟨b, off, hA, hc, hlt, fun i v hv => ?_⟩
  have hi : i < k := by
    have := (List.getElem?_eq_some_iff.1 hv).1
    rw [hk] at this; exact this
  rw [Nat.add_assoc]
  exact hcell _ _ (by rw [flat_at hk l j i hj hi]; exact hv)

theorem run_app_nil {P : Program} {w : World} {t e ty : TypeId} {i0 : TypeInfo} {B n size : Nat} {v : Value} {xs : List Value} (ht : P.underlying t = some (.slice e)) (hi : P.info? e = some i0) (hown : w.ownsRow B e size v n xs) (c : Nat) :
    (Builtin.append_ #[t, t] ty #[v, .slice none 0 c]).run P w = .ok v w := by
  rcases hown.2 with ⟨rfl, hz⟩ | ⟨g, cap, cur, rfl, _, _, hnc, _⟩
  · simp [Builtin.append_, run_underlying ht, sizeOf, typeInfo, hi, Builtin.lenOf, Builtin.firstCells]
  · simp [Builtin.append_, run_underlying ht, sizeOf, typeInfo, hi, Builtin.lenOf, Builtin.firstCells, hnc, storeCells]
/-- append onto a row of the call's own: elements of any size, the source nil or not. -/
theorem wp_appR {P : Program} {o : Oper} {a : Act} {K : Act → World → Prop} {Q : Exit → Act → World → Prop} (w : World) (s x : Operand) (t e : TypeId) (i0 : TypeInfo) (z : Value) (size bytes : Nat)
    (ht : P.underlying t = some (.slice e)) (hi : P.info? e = some i0) (hz : i0.zero = some z) (hsz : i0.size = size) (hby : i0.bytes = bytes) (hzc : z.cells.size = size) (hpos : 0 < size)
    (ho : o.op = .call { callee := .builtin .append, args := #[s, x], argTypes := #[t, t] })
    (B : Nat) (v : Value) (n : Nat) (xs : List Value) (hs : a.eval s = v) (hown : w.ownsRow B e size v n xs) (A : Option Addr) (m c : Nat) (ys : List Value) (hx : a.eval x = .slice A m c) (hy : Reads w A c m ys) (hyl : ys.length = m * size) (h1 : ∀ u ∈ ys, u.oneCell' = true)
    (hlen : n + m ≤ 1048576) (hbs : bytes ≤ 1024) (hbase : B ≤ w.heap.size)
    (h : ∀ v' w', w'.ownsRow B e size v' (n + m) (xs ++ ys) → w.grownBy w' v.ownBlock → Below B w w' → K (a.put o.dst v') w') : o.wp P a w K Q := by
  rcases A with _ | ad
  · have hn : m = 0 := by
      rcases Nat.eq_zero_or_pos m with h0 | h0
      · exact h0
      · obtain ⟨b, off, e, _⟩ := hy h0
        cases e
    subst hn
    have hys : ys = [] := List.eq_nil_of_length_eq_zero (by simpa using hyl)
    subst hys
    have hrun := run_app_nil (ty := o.type) ht hi hown c
    unfold Oper.wp execOp
    simp only [ho, resolve, invoke, builtin, Sem.run_bind, Sem.run_pure, Result.andThen_ok, List.map_toArray, List.map_cons, List.map_nil, hs, hx, hrun]
    exact h v w (by simpa using hown) (World.grownBy.refl w _) (Below.refl _ _)
  · refine wp_append_own w s x _ ho B e i0 z size bytes ht hi hz hsz hby hzc hpos v n xs hs hown ad m c ys hx hyl ?_ h1 (by simp only [maxLen]; omega) ?_ hbase ?_
    · intro j u hu
      have hpos : 0 < m := by
        have := (List.getElem?_eq_some_iff.1 hu).1
        rcases Nat.eq_zero_or_pos m with h0 | h0
        · subst h0; rw [Nat.zero_mul] at hyl; omega
        · exact h0
      obtain ⟨b, off, e, _, _, hE⟩ := hy hpos
      injection e with e
      subst e
      rw [show (⟨b, off, none⟩ : Addr).add j = ⟨b, off + j, none⟩ from Addr.add_mid b off j]
      exact hE j u hu
    · have : (n + m) * bytes ≤ 1048576 * 1024 := Nat.mul_le_mul hlen hbs
      omega
    · intro v' w' h1 h2 _
      exact h v' w' h1 h2 ((Below.refl _ _).grown h2 hbase (fun k hk => (hown.lt k hk).1))
/-- At an operation that is wanted. -/
theorem listWants {P : Program} {ops : Array Oper} {Q : Exit → Act → World → Prop} {a : Act} {w : World} {rest : List Oper} {o : Oper} (hw : Region.wanted o (yielded ops a.tmps) = true) (h : ∀ K : Act → World → Prop, (∀ a w, wpList P ops Q rest a w → K a w) → o.wp P a w K Q) : wpList P ops Q (o :: rest) a w :=
  wpList_step fun K hK => by rw [if_pos hw]; exact h K hK
/-- A value of as many cells as the block has is stored into it whole. -/
theorem run_store_whole {P : Program} (w : World) (b : Nat) (ty : TypeId) (cells cur : Array Value) (t : TypeId) (hg : w.heap[b]? = some (.cells cur t (0, 0))) (hsz : cur.size = cells.size) (hi : (P.info? ty).map (·.size) = some cells.size) (h1 : cells.all (·.oneCell') = true) :
    (storeVar ty ⟨b, 0, none⟩ (.agg cells)).run P w = .ok () (w.setRow b cells) := by
  have hst := run_storeCells_at P b 0 t cells.toList 0 cur w hg (by simp [hsz]) (fun v hv => (Array.all_eq_true_iff_forall_mem.1 h1) v (by simpa using hv))
  simp only [Nat.zero_add, List.take_zero, List.nil_append] at hst
  have e : (cells.toList ++ cur.toList.drop cells.toList.length).toArray = cells := by
    rw [List.drop_of_length_le (by simp [hsz])]; simp
  rw [e] at hst
  cases hq : P.info? ty with
  | none => simp [hq] at hi
  | some i =>
    have hs : cells.size = i.size := by simp [hq] at hi; omega
    simp [storeVar, sizeOf, typeInfo, hq, Value.cells, hs, hst]
theorem wp_store_whole {P : Program} {op : Oper} {a : Act} {w : World} {K : Act → World → Prop} {Q : Exit → Act → World → Prop} (ty : TypeId) (x y : Operand) (ho : op.op = .store ty x y)
    (b : Nat) (cells cur : Array Value) (t : TypeId) (hx : a.eval x = .pointer (some ⟨b, 0, none⟩)) (hy : a.eval y = .agg cells) (hg : w.heap[b]? = some (.cells cur t (0, 0))) (hsz : cur.size = cells.size)
    (hi : (P.info? ty).map (·.size) = some cells.size) (h1 : cells.all (·.oneCell') = true) (h : K (a.put op.dst undef) (w.setRow b cells)) : op.wp P a w K Q := by
  unfold Oper.wp execOp
  simp only [ho, hx, hy, Instr.storeAt, Instr.sureAddr, Sem.run_bind, Sem.run_pure, Result.andThen_ok, run_store_whole w b ty cells cur t hg hsz hi h1]
  exact h
theorem alloc_setRow (w : World) (cs cur : Array Value) (t : TypeId) : (w.alloc (.cells cur t)).setRow w.heap.size cs = w.alloc (.cells cs t) := by
  have e : (w.heap.push (Obj.cells cur t)).modify w.heap.size (fun | .cells _ elem frozen => .cells cs elem frozen | o => o) = w.heap.push (.cells cs t) := by
    apply Array.ext_getElem?
    intro i
    rw [Array.getElem?_modify, Array.getElem?_push, Array.getElem?_push]
    by_cases h : i = w.heap.size
    · subst h; simp
    · rw [if_neg (fun e => h e.symm), if_neg h, if_neg h]
  show ({ w with heap := (w.heap.push (Obj.cells cur t)).modify w.heap.size (fun | .cells _ elem frozen => .cells cs elem frozen | o => o) } : World) = { w with heap := w.heap.push (.cells cs t) }
  rw [e]
/-- The variable that was made last gets its value. -/
theorem wpList_store_new {P : Program} {ops : Array Oper} {rest : List Oper} {op : Oper} {a : Act} {w : World} {Q : Exit → Act → World → Prop} (hgd : op.guard = none) (ty : TypeId) (x y : Operand) (ho : op.op = .store ty x y)
    (cells cur : Array Value) (t : TypeId) (hx : a.eval x = .pointer (some ⟨w.heap.size, 0, none⟩)) (hy : a.eval y = .agg cells) (hsz : cur.size = cells.size)
    (hi : (P.info? ty).map (·.size) = some cells.size) (h1 : cells.all (·.oneCell') = true)
    (h : wpList P ops Q rest (a.put op.dst undef) (w.alloc (.cells cells t))) : wpList P ops Q (op :: rest) a (w.alloc (.cells cur t)) :=
  wpList_plain hgd fun _ hK => wp_store_whole ty x y ho w.heap.size cells cur t hx hy (heap_alloc_new w _) hsz hi h1 (hK _ _ (by rw [alloc_setRow]; exact h))
theorem results_cell {P : Program} {fn : Func} {p : Tmp} {ty : TypeId} (h : fn.results = #[.cell p ty]) (tmps : Array Value) (w : World) {ad : Addr} (hp : tmps.getD p undef = .pointer (some ad)) {v : Value} (hl : (loadVar ty ad).run P w = .ok v w) :
    (results fn tmps).run P w = .ok v w := by
  simp only [results, h]
  have hp' : tmps[p]?.getD undef = .pointer (some ad) := by simpa using hp
  simp [hp', asAddr, hl]
/-- A whole block is read. -/
theorem load_whole {P : Program} {w : World} {b : Nat} {ty : TypeId} {cells : Array Value} {t : TypeId} {d : TypeDesc} (hg : w.heap[b]? = some (.cells cells t (0, 0)))
    (hu : P.underlying ty = some d) (hd : d.isRow = true) (hi : (P.info? ty).map (·.size) = some cells.size) : (loadVar ty ⟨b, 0, none⟩).run P w = .ok (.agg cells) w := by
  have h := run_loadVar_mid (P := P) w b 0 ty cells.toList d (fun j v hj => by rw [blkCell hg, Nat.zero_add]; simpa using hj) hu hd (by simpa using hi)
  simpa using h
theorem wpList_load_whole {P : Program} {ops : Array Oper} {rest : List Oper} {op : Oper} {a : Act} {w : World} {Q : Exit → Act → World → Prop} (hgd : op.guard = none) (ty : TypeId) (x : Operand) (ho : op.op = .load ty x)
    (b : Nat) (hx : a.eval x = .pointer (some ⟨b, 0, none⟩)) (cells : Array Value) (t : TypeId) (hg : w.heap[b]? = some (.cells cells t (0, 0))) (d : TypeDesc)
    (hu : P.underlying ty = some d) (hd : d.isRow = true) (hi : (P.info? ty).map (·.size) = some cells.size)
    (h : wpList P ops Q rest (a.put op.dst (.agg cells)) w) : wpList P ops Q (op :: rest) a w := by
  refine wpList_load_mid hgd ty x ho b 0 hx cells.toList d (fun j v hj => by rw [blkCell hg, Nat.zero_add]; simpa using hj) hu hd (by simpa using hi) ?_
  simpa using h
/-- A whole block is read, by an operation that may be guarded, and is wanted. -/
theorem listLoad {P : Program} {ops : Array Oper} {rest : List Oper} {op : Oper} {a : Act} {w : World} {Q : Exit → Act → World → Prop} (hw : Region.wanted op (yielded ops a.tmps) = true) (ty : TypeId) (x : Operand) (ho : op.op = .load ty x)
    (b : Nat) (hx : a.eval x = .pointer (some ⟨b, 0, none⟩)) (cells : Array Value) (t : TypeId) (hg : w.heap[b]? = some (.cells cells t (0, 0))) (d : TypeDesc)
    (hu : P.underlying ty = some d) (hd : d.isRow = true) (hi : (P.info? ty).map (·.size) = some cells.size)
    (h : wpList P ops Q rest (a.put op.dst (.agg cells)) w) : wpList P ops Q (op :: rest) a w :=
  listWants hw fun K hK => by
    refine wp_load_mid ty x ho b 0 hx cells.toList d (fun j v hj => by rw [blkCell hg, Nat.zero_add]; simpa using hj) hu hd (by simpa using hi) ?_
    simpa using hK _ _ h
end Go.Proofs.Ytojaagnfjenhoaa
/- The plain law of the log's records: what is written is read again. -/
namespace Rc
structure Op where
  kind : Int
  slot : Int
  old : ByteArray
  new : ByteArray
structure TxnAt where
  txn : Int
  last : Int
  next : Int
  done : Bool
structure DirtyAt where
  page : Int
  from_ : Int
structure Key where
  key : ByteArray
  page : Int
  slot : Int
structure Rec where
  lsn : Int
  prev : Int
  txn : Int
  kind : Int
  page : Int
  next : Int
  num : Int
  op : Op
  how : Int
  root : Int
  e : Key
  txns : List TxnAt
  dirty : List DirtyAt
def noOp : Op := ⟨0, 0, ⟨#[]⟩, ⟨#[]⟩⟩
def noKey : Key := ⟨⟨#[]⟩, 0, 0⟩
/-- A record with the numbers alone that all kinds have. -/
def bare (kind lsn prev txn : Int) : Rec := ⟨lsn, prev, txn, kind, 0, 0, 0, noOp, 0, 0, noKey, [], []⟩
def num (n : Int) : Prop := 0 ≤ n ∧ n < 1099511627776
def pg (n : Int) : Prop := 0 ≤ n ∧ n < 8388608
def sl (n : Int) : Prop := 0 ≤ n ∧ n < 32768
def opR (o : Op) : Prop := 1 ≤ o.kind ∧ o.kind ≤ 7 ∧ sl o.slot ∧ o.old.size ≤ 512 ∧ o.new.size ≤ 512
def treeR (r : Rec) : Prop := (r.how = 1 ∧ r.root = 0 ∧ r.e = noKey) ∨ ((r.how = 2 ∨ r.how = 3) ∧ pg r.root ∧ pg r.e.page ∧ sl r.e.slot ∧ r.e.key.size ≤ 100)
def txnR (t : TxnAt) : Prop := num t.txn ∧ num t.last ∧ num t.next
def dirtyR (d : DirtyAt) : Prop := pg d.page ∧ num d.from_
def listsR (r : Rec) : Prop := r.txns.length ≤ 1000 ∧ r.dirty.length ≤ 2000 ∧ (∀ t ∈ r.txns, txnR t) ∧ ∀ d ∈ r.dirty, dirtyR d
/-- Which records may be, kind by kind. -/
inductive Right : Rec → Prop
  | small (kind lsn prev txn : Int) (hk : kind = 1 ∨ kind = 5 ∨ kind = 6 ∨ kind = 7) (h1 : num lsn) (h2 : num prev) (h3 : num txn) : Right (bare kind lsn prev txn)
  | change (lsn prev txn page : Int) (op : Op) (how root : Int) (e : Key) (h1 : num lsn) (h2 : num prev) (h3 : num txn) (h4 : pg page) (h5 : opR op)
      (h6 : treeR ⟨lsn, prev, txn, 2, page, 0, 0, op, how, root, e, [], []⟩) : Right ⟨lsn, prev, txn, 2, page, 0, 0, op, how, root, e, [], []⟩
  | clr (lsn prev txn page : Int) (op : Op) (next : Int) (h1 : num lsn) (h2 : num prev) (h3 : num txn) (h4 : pg page) (h5 : opR op) (h6 : num next) : Right ⟨lsn, prev, txn, 3, page, next, 0, op, 0, 0, noKey, [], []⟩
  | nest (lsn prev txn next : Int) (h1 : num lsn) (h2 : num prev) (h3 : num txn) (h6 : num next) : Right ⟨lsn, prev, txn, 4, 0, next, 0, noOp, 0, 0, noKey, [], []⟩
  | image (lsn prev txn page : Int) (op : Op) (h1 : num lsn) (h2 : num prev) (h3 : num txn) (h4 : pg page) (h5 : opR op) : Right ⟨lsn, prev, txn, 8, page, 0, 0, op, 0, 0, noKey, [], []⟩
  | check (lsn prev txn n : Int) (ts : List TxnAt) (ds : List DirtyAt) (h1 : num lsn) (h2 : num prev) (h3 : num txn) (h4 : num n)
      (h5 : listsR ⟨lsn, prev, txn, 9, 0, 0, n, noOp, 0, 0, noKey, ts, ds⟩) : Right ⟨lsn, prev, txn, 9, 0, 0, n, noOp, 0, 0, noKey, ts, ds⟩

/-! ### Writing -/
def p (n : Int) (k : Nat) : List UInt8 := Oct.putL (Oct.word n) k
def t (s : ByteArray) : List UInt8 := p s.size 2 ++ s.data.toList
def opB (o : Op) : List UInt8 := p o.kind 1 ++ (p o.slot 2 ++ (t o.old ++ t o.new))
def txnB (x : TxnAt) : List UInt8 := p x.txn 6 ++ (p x.last 6 ++ (p x.next 6 ++ p (if x.done then 1 else 0) 1))
def dirtyB (d : DirtyAt) : List UInt8 := p d.page 3 ++ p d.from_ 6
def headB (r : Rec) : List UInt8 := p r.kind 1 ++ (p r.lsn 6 ++ (p r.prev 6 ++ p r.txn 6))
def treeB (r : Rec) : List UInt8 := if r.how = 1 then [] else p r.root 3 ++ (p r.e.page 3 ++ (p r.e.slot 2 ++ t r.e.key))
def listsB (r : Rec) : List UInt8 := p r.num 6 ++ (p r.txns.length 2 ++ (r.txns.flatMap txnB ++ (p r.dirty.length 2 ++ r.dirty.flatMap dirtyB)))
/-- What stands behind the head. -/
def restB (r : Rec) : List UInt8 :=
  if r.kind = 2 then p r.page 3 ++ (opB r.op ++ (p r.how 1 ++ treeB r))
  else if r.kind = 3 then p r.page 3 ++ (opB r.op ++ p r.next 6)
  else if r.kind = 4 then p r.next 6
  else if r.kind = 8 then p r.page 3 ++ opB r.op
  else if r.kind = 9 then listsB r
  else []
theorem restB_2 {r : Rec} (h : r.kind = 2) : restB r = p r.page 3 ++ (opB r.op ++ (p r.how 1 ++ treeB r)) := if_pos h
theorem restB_3 {r : Rec} (h : r.kind = 3) : restB r = p r.page 3 ++ (opB r.op ++ p r.next 6) := by unfold restB; rw [if_neg (by omega), if_pos h]
theorem restB_4 {r : Rec} (h : r.kind = 4) : restB r = p r.next 6 := by unfold restB; rw [if_neg (by omega), if_neg (by omega), if_pos h]
theorem restB_8 {r : Rec} (h : r.kind = 8) : restB r = p r.page 3 ++ opB r.op := by unfold restB; rw [if_neg (by omega), if_neg (by omega), if_neg (by omega), if_pos h]
theorem restB_9 {r : Rec} (h : r.kind = 9) : restB r = listsB r := by unfold restB; rw [if_neg (by omega), if_neg (by omega), if_neg (by omega), if_neg (by omega), if_pos h]
def bodyB (r : Rec) : List UInt8 := headB r ++ restB r

/-! ### Reading: `adv`: a number that is not there is passed all the same -/
structure St where
  at_ : Nat
  bad : Bool
def numM (adv : Bool) (s : List UInt8) (a : St) (k : Nat) : Int × St :=
  if a.at_ + k ≤ s.length then ((Oct.getN s a.at_ k : Nat), ⟨a.at_ + k, a.bad⟩) else (0, ⟨if adv then a.at_ + k else a.at_, true⟩)
def textM (s : List UInt8) (a : St) : ByteArray × St :=
  if a.at_ + 2 + Oct.getN s a.at_ 2 ≤ s.length then (⟨((s.drop (a.at_ + 2)).take (Oct.getN s a.at_ 2)).toArray⟩, ⟨a.at_ + 2 + Oct.getN s a.at_ 2, a.bad⟩) else (⟨#[]⟩, ⟨a.at_, true⟩)
def opM (adv : Bool) (s : List UInt8) (a : St) : Op × St :=
  let x := numM adv s a 1
  let y := numM adv s x.2 2
  let u := textM s y.2
  let v := textM s u.2
  (⟨x.1, y.1, u.1, v.1⟩, v.2)
def txnM (adv : Bool) (s : List UInt8) (a : St) : TxnAt × St :=
  let x := numM adv s a 6
  let y := numM adv s x.2 6
  let z := numM adv s y.2 6
  let d := numM adv s z.2 1
  (⟨x.1, y.1, z.1, d.1 == 1⟩, d.2)
def dirtyM (adv : Bool) (s : List UInt8) (a : St) : DirtyAt × St :=
  let x := numM adv s a 3
  let y := numM adv s x.2 6
  (⟨x.1, y.1⟩, y.2)
def manyM {α : Type} (one : St → α × St) : Nat → St → List α × St
  | 0, a => ([], a)
  | n + 1, a => if a.bad then ([], a) else
    let x := one a
    let l := manyM one n x.2
    (x.1 :: l.1, l.2)
def headM (adv : Bool) (s : List UInt8) : Rec × St :=
  let k := numM adv s ⟨0, false⟩ 1
  let l := numM adv s k.2 6
  let pr := numM adv s l.2 6
  let tx := numM adv s pr.2 6
  (bare k.1 l.1 pr.1 tx.1, tx.2)
def treeM (adv : Bool) (s : List UInt8) (r : Rec) (a : St) : Rec :=
  let h := numM adv s a 1
  if h.1 = 1 then { r with how := h.1 } else
    let ro := numM adv s h.2 3
    let pa := numM adv s ro.2 3
    let so := numM adv s pa.2 2
    let ke := textM s so.2
    { r with how := h.1, root := ro.1, e := ⟨ke.1, pa.1, so.1⟩ }
def listsM (adv : Bool) (s : List UInt8) (r : Rec) (a : St) : Rec :=
  let n := numM adv s a 6
  let c := numM adv s n.2 2
  let ts := manyM (txnM adv s) c.1.toNat c.2
  let d := numM adv s ts.2 2
  let ds := manyM (dirtyM adv s) d.1.toNat d.2
  { r with num := n.1, txns := ts.1, dirty := ds.1 }
def restM (adv : Bool) (s : List UInt8) (r : Rec) (a : St) : Rec :=
  if r.kind = 2 then
    let pa := numM adv s a 3
    let o := opM adv s pa.2
    treeM adv s { r with page := pa.1, op := o.1 } o.2
  else if r.kind = 3 then
    let pa := numM adv s a 3
    let o := opM adv s pa.2
    let n := numM adv s o.2 6
    { r with page := pa.1, op := o.1, next := n.1 }
  else if r.kind = 4 then
    let n := numM adv s a 6
    { r with next := n.1 }
  else if r.kind = 8 then
    let pa := numM adv s a 3
    let o := opM adv s pa.2
    { r with page := pa.1, op := o.1 }
  else if r.kind = 9 then listsM adv s r a
  else r
theorem restM_2 {adv : Bool} {s : List UInt8} {r : Rec} {a : St} (h : r.kind = 2) : restM adv s r a = treeM adv s { r with page := (numM adv s a 3).1, op := (opM adv s (numM adv s a 3).2).1 } (opM adv s (numM adv s a 3).2).2 := if_pos h
theorem restM_3 {adv : Bool} {s : List UInt8} {r : Rec} {a : St} (h : r.kind = 3) : restM adv s r a = { r with page := (numM adv s a 3).1, op := (opM adv s (numM adv s a 3).2).1, next := (numM adv s (opM adv s (numM adv s a 3).2).2 6).1 } := by unfold restM; rw [if_neg (by omega), if_pos h]
theorem restM_4 {adv : Bool} {s : List UInt8} {r : Rec} {a : St} (h : r.kind = 4) : restM adv s r a = { r with next := (numM adv s a 6).1 } := by unfold restM; rw [if_neg (by omega), if_neg (by omega), if_pos h]
theorem restM_8 {adv : Bool} {s : List UInt8} {r : Rec} {a : St} (h : r.kind = 8) : restM adv s r a = { r with page := (numM adv s a 3).1, op := (opM adv s (numM adv s a 3).2).1 } := by unfold restM; rw [if_neg (by omega), if_neg (by omega), if_neg (by omega), if_pos h]
theorem restM_9 {adv : Bool} {s : List UInt8} {r : Rec} {a : St} (h : r.kind = 9) : restM adv s r a = listsM adv s r a := by unfold restM; rw [if_neg (by omega), if_neg (by omega), if_neg (by omega), if_neg (by omega), if_pos h]
def readM (adv : Bool) (s : List UInt8) : Rec := restM adv s (headM adv s).1 (headM adv s).2

/-! ### What was written is read -/
/-- The reader is whole, and l is left. -/
def Left (s : List UInt8) (a : St) (l : List UInt8) : Prop := a.bad = false ∧ s.drop a.at_ = l ∧ a.at_ ≤ s.length
theorem p_length (n : Int) (k : Nat) : (p n k).length = k := Oct.putL_length _ _
theorem left_len {s : List UInt8} {a : St} {l : List UInt8} (h : Left s a l) : s.length = a.at_ + l.length := by
  obtain ⟨_, h2, h3⟩ := h
  have := congrArg List.length h2
  rw [List.length_drop] at this
  omega
theorem Left.skip {s : List UInt8} {a : St} {x l : List UInt8} (h : Left s a (x ++ l)) : Left s ⟨a.at_ + x.length, false⟩ l := by
  have hl := left_len h
  obtain ⟨_, h2, h3⟩ := h
  rw [List.length_append] at hl
  refine ⟨rfl, ?_, by show a.at_ + x.length ≤ s.length; omega⟩
  show s.drop (a.at_ + x.length) = l
  rw [← List.drop_drop, h2, List.drop_left]
theorem getN_left {s : List UInt8} {a : St} {l : List UInt8} {u k : Nat} (h : Left s a (Oct.putL u k ++ l)) (hu : u < 256 ^ k) : Oct.getN s a.at_ k = u := by
  unfold Oct.getN
  rw [h.2.1, List.take_append_of_le_length (by rw [Oct.putL_length]; omega), List.take_of_length_le (by rw [Oct.putL_length]; omega), Oct.getL_putL, Nat.mod_eq_of_lt hu]
theorem word_of {n : Int} (h0 : 0 ≤ n) (h : n < 18446744073709551616) : ((Oct.word n : Nat) : Int) = n := by unfold Oct.word; omega
theorem numM_left {adv : Bool} {s : List UInt8} {a : St} {n : Int} {k : Nat} {l : List UInt8} (h : Left s a (p n k ++ l)) (h0 : 0 ≤ n) (hn : n < ((256 ^ k : Nat) : Int)) (hk : k ≤ 8) :
    numM adv s a k = (n, ⟨a.at_ + k, false⟩) ∧ Left s ⟨a.at_ + k, false⟩ l := by
  have hp : (256 : Nat) ^ k ≤ 18446744073709551616 := Nat.pow_le_pow_right (n := 256) (by omega) hk
  generalize hq : (256 : Nat) ^ k = q at hn hp
  have hn8 : n < 18446744073709551616 := by omega
  have hw := word_of h0 hn8
  have hu : Oct.word n < 256 ^ k := by omega
  have hl := left_len h
  have hs := h.skip
  rw [p_length] at hs
  rw [List.length_append, p_length] at hl
  refine ⟨?_, hs⟩
  unfold numM
  rw [if_pos (by omega), getN_left h hu, hw, h.1]
theorem textM_left {s : List UInt8} {a : St} {x : ByteArray} {l : List UInt8} (h : Left s a (t x ++ l)) (hx : x.size < 65536) :
    textM s a = (x, ⟨a.at_ + (2 + x.size), false⟩) ∧ Left s ⟨a.at_ + (2 + x.size), false⟩ l := by
  have hlx : x.data.toList.length = x.size := by simp
  have hw : Oct.word (x.size : Int) = x.size := Oct.word_nat _ (by omega)
  have hs := h.skip
  have htl : (t x).length = 2 + x.size := by unfold t; rw [List.length_append, p_length, hlx]
  rw [htl] at hs
  have hl := left_len h
  rw [List.length_append, htl] at hl
  have h' : Left s a (Oct.putL x.size 2 ++ (x.data.toList ++ l)) := by
    unfold t p at h; rw [hw, List.append_assoc] at h; exact h
  have hg := getN_left h' (by omega)
  have hd := h'.skip
  rw [Oct.putL_length] at hd
  refine ⟨?_, hs⟩
  unfold textM
  rw [hg, if_pos (by omega), h.1]
  have hdd : s.drop (a.at_ + 2) = x.data.toList ++ l := hd.2.1
  rw [hdd, List.take_append_of_le_length (by omega), List.take_of_length_le (by omega), Nat.add_assoc]
theorem numM_6 {adv : Bool} {s : List UInt8} {a : St} {n : Int} {l : List UInt8} (h : Left s a (p n 6 ++ l)) (hn : num n) : numM adv s a 6 = (n, ⟨a.at_ + 6, false⟩) ∧ Left s ⟨a.at_ + 6, false⟩ l :=
  numM_left h hn.1 (by have := hn.2; show n < 281474976710656; omega) (by omega)
theorem numM_3 {adv : Bool} {s : List UInt8} {a : St} {n : Int} {l : List UInt8} (h : Left s a (p n 3 ++ l)) (hn : pg n) : numM adv s a 3 = (n, ⟨a.at_ + 3, false⟩) ∧ Left s ⟨a.at_ + 3, false⟩ l :=
  numM_left h hn.1 (by have := hn.2; show n < 16777216; omega) (by omega)
theorem numM_2 {adv : Bool} {s : List UInt8} {a : St} {n : Int} {l : List UInt8} (h : Left s a (p n 2 ++ l)) (h0 : 0 ≤ n) (hn : n < 65536) : numM adv s a 2 = (n, ⟨a.at_ + 2, false⟩) ∧ Left s ⟨a.at_ + 2, false⟩ l :=
  numM_left h h0 (by show n < 65536; omega) (by omega)
theorem numM_1 {adv : Bool} {s : List UInt8} {a : St} {n : Int} {l : List UInt8} (h : Left s a (p n 1 ++ l)) (h0 : 0 ≤ n) (hn : n < 256) : numM adv s a 1 = (n, ⟨a.at_ + 1, false⟩) ∧ Left s ⟨a.at_ + 1, false⟩ l :=
  numM_left h h0 (by show n < 256; omega) (by omega)
theorem opM_left {adv : Bool} {s : List UInt8} {a : St} {o : Op} {l : List UInt8} (h : Left s a (opB o ++ l)) (ho : opR o) : ∃ b, opM adv s a = (o, b) ∧ Left s b l := by
  obtain ⟨h1, h2, h3, h4, h5⟩ := ho
  unfold opB at h
  simp only [List.append_assoc] at h
  obtain ⟨e1, l1⟩ := numM_1 (adv := adv) h (by omega) (by omega)
  obtain ⟨e2, l2⟩ := numM_2 (adv := adv) l1 h3.1 (by have := h3.2; omega)
  obtain ⟨e3, l3⟩ := textM_left l2 (by omega)
  obtain ⟨e4, l4⟩ := textM_left l3 (by omega)
  refine ⟨_, ?_, l4⟩
  unfold opM
  simp only [e1, e2, e3, e4]
theorem txnM_left {adv : Bool} {s : List UInt8} {a : St} {x : TxnAt} {l : List UInt8} (h : Left s a (txnB x ++ l)) (hx : txnR x) : ∃ b, txnM adv s a = (x, b) ∧ Left s b l := by
  obtain ⟨h1, h2, h3⟩ := hx
  obtain ⟨xt, xl, xn, xd⟩ := x
  unfold txnB at h
  simp only [List.append_assoc] at h
  obtain ⟨e1, l1⟩ := numM_6 (adv := adv) h h1
  obtain ⟨e2, l2⟩ := numM_6 (adv := adv) l1 h2
  obtain ⟨e3, l3⟩ := numM_6 (adv := adv) l2 h3
  obtain ⟨e4, l4⟩ := numM_1 (adv := adv) l3 (by split <;> omega) (by split <;> omega)
  refine ⟨_, ?_, l4⟩
  unfold txnM
  simp only [e1, e2, e3, e4]
  cases xd <;> rfl
theorem dirtyM_left {adv : Bool} {s : List UInt8} {a : St} {x : DirtyAt} {l : List UInt8} (h : Left s a (dirtyB x ++ l)) (hx : dirtyR x) : ∃ b, dirtyM adv s a = (x, b) ∧ Left s b l := by
  obtain ⟨h1, h2⟩ := hx
  unfold dirtyB at h
  simp only [List.append_assoc] at h
  obtain ⟨e1, l1⟩ := numM_3 (adv := adv) h h1
  obtain ⟨e2, l2⟩ := numM_6 (adv := adv) l1 h2
  refine ⟨_, ?_, l2⟩
  unfold dirtyM
  simp only [e1, e2]
theorem manyM_left {α : Type} {one : St → α × St} {enc : α → List UInt8} {R : α → Prop} {s : List UInt8} (h1 : ∀ a x l, Left s a (enc x ++ l) → R x → ∃ b, one a = (x, b) ∧ Left s b l) :
    ∀ (xs : List α) (a : St) (l : List UInt8), Left s a (xs.flatMap enc ++ l) → (∀ x ∈ xs, R x) → ∃ b, manyM one xs.length a = (xs, b) ∧ Left s b l := by
  intro xs
  induction xs with
  | nil => intro a l h _; exact ⟨a, rfl, h⟩
  | cons x xs ih =>
    intro a l h hR
    rw [List.flatMap_cons, List.append_assoc] at h
    obtain ⟨b, e, hb⟩ := h1 a x _ h (hR x (List.mem_cons_self ..))
    obtain ⟨c, e2, hc⟩ := ih b l hb (fun y hy => hR y (List.mem_cons_of_mem _ hy))
    refine ⟨c, ?_, hc⟩
    show manyM one (xs.length + 1) a = _
    unfold manyM
    rw [h.1]
    simp only [e, e2]
    rfl
theorem headM_left {adv : Bool} {r : Rec} {s l : List UInt8} (h : s = headB r ++ l) (hk0 : 0 ≤ r.kind) (hk : r.kind < 256) (h1 : num r.lsn) (h2 : num r.prev) (h3 : num r.txn) :
    ∃ b, headM adv s = (bare r.kind r.lsn r.prev r.txn, b) ∧ Left s b l := by
  have h0 : Left s ⟨0, false⟩ (headB r ++ l) := ⟨rfl, h, Nat.zero_le _⟩
  unfold headB at h0
  simp only [List.append_assoc] at h0
  obtain ⟨e1, l1⟩ := numM_1 (adv := adv) h0 hk0 hk
  obtain ⟨e2, l2⟩ := numM_6 (adv := adv) l1 h1
  obtain ⟨e3, l3⟩ := numM_6 (adv := adv) l2 h2
  obtain ⟨e4, l4⟩ := numM_6 (adv := adv) l3 h3
  refine ⟨_, ?_, l4⟩
  unfold headM
  simp only [e1, e2, e3, e4]
theorem treeM_left {adv : Bool} {r r0 : Rec} {s tl : List UInt8} {a : St} (h : Left s a (p r.how 1 ++ (treeB r ++ tl))) (hr : treeR r) :
    treeM adv s r0 a = { r0 with how := r.how, root := if r.how = 1 then r0.root else r.root, e := if r.how = 1 then r0.e else r.e } := by
  rcases hr with ⟨h1, h2, h3⟩ | ⟨h1, h2, h3, h4, h5⟩
  · obtain ⟨e1, l1⟩ := numM_1 (adv := adv) h (by omega) (by omega)
    unfold treeM
    simp only [e1, h1, if_true]
  · have hne : r.how ≠ 1 := by omega
    obtain ⟨e1, l1⟩ := numM_1 (adv := adv) h (by omega) (by omega)
    unfold treeB at l1
    rw [if_neg hne] at l1
    simp only [List.append_assoc] at l1
    obtain ⟨e2, l2⟩ := numM_3 (adv := adv) l1 h2
    obtain ⟨e3, l3⟩ := numM_3 (adv := adv) l2 h3
    obtain ⟨e4, l4⟩ := numM_2 (adv := adv) l3 h4.1 (by have := h4.2; omega)
    obtain ⟨e5, l5⟩ := textM_left l4 (by omega)
    unfold treeM
    simp only [e1, hne, if_false, e2, e3, e4, e5]
theorem listsM_left {adv : Bool} {r r0 : Rec} {s tl : List UInt8} {a : St} (h : Left s a (listsB r ++ tl)) (hn : num r.num) (hr : listsR r) :
    listsM adv s r0 a = { r0 with num := r.num, txns := r.txns, dirty := r.dirty } := by
  obtain ⟨h1, h2, h3, h4⟩ := hr
  unfold listsB at h
  simp only [List.append_assoc] at h
  obtain ⟨e1, l1⟩ := numM_6 (adv := adv) h hn
  obtain ⟨e2, l2⟩ := numM_2 (adv := adv) l1 (by omega) (by omega)
  obtain ⟨b, e3, l3⟩ := manyM_left (one := txnM adv s) (enc := txnB) (R := txnR) (fun a x l h hx => txnM_left h hx) r.txns _ _ l2 h3
  obtain ⟨e4, l4⟩ := numM_2 (adv := adv) l3 (by omega) (by omega)
  obtain ⟨c, e5, l5⟩ := manyM_left (one := dirtyM adv s) (enc := dirtyB) (R := dirtyR) (fun a x l h hx => dirtyM_left h hx) r.dirty _ _ l4 h4
  unfold listsM
  simp only [e1, e2, Int.toNat_natCast, e3, e4, e5]
/-- What was written is read, with either reader. -/
theorem read_more (adv : Bool) (tl : List UInt8) {r : Rec} (h : Right r) : readM adv (bodyB r ++ tl) = r := by
  cases h with
  | small kind lsn prev txn hk h1 h2 h3 =>
    have hk2 : restB (bare kind lsn prev txn) = [] := by
      unfold restB bare
      simp only
      rw [if_neg (by omega), if_neg (by omega), if_neg (by omega), if_neg (by omega), if_neg (by omega)]
    obtain ⟨b, e, l⟩ := headM_left (adv := adv) (r := bare kind lsn prev txn) (s := bodyB (bare kind lsn prev txn) ++ tl) (l := restB (bare kind lsn prev txn) ++ tl) (List.append_assoc _ _ _) (show 0 ≤ kind by omega) (show kind < 256 by omega) h1 h2 h3
    unfold readM
    rw [e]
    unfold restM bare
    simp only
    rw [if_neg (by omega), if_neg (by omega), if_neg (by omega), if_neg (by omega), if_neg (by omega)]
  | change lsn prev txn page op how root e h1 h2 h3 h4 h5 h6 =>
    obtain ⟨b, e1, l1⟩ := headM_left (adv := adv) (r := ⟨lsn, prev, txn, 2, page, 0, 0, op, how, root, e, [], []⟩) (s := bodyB _ ++ tl) (l := restB _ ++ tl) (List.append_assoc _ _ _) (show (0 : Int) ≤ 2 by omega) (show (2 : Int) < 256 by omega) h1 h2 h3
    unfold readM
    rw [e1]
    rw [restB_2 rfl] at l1
    simp only [List.append_assoc] at l1
    obtain ⟨e2, l2⟩ := numM_3 (adv := adv) (n := page) l1 h4
    obtain ⟨c, e3, l3⟩ := opM_left (adv := adv) (o := op) l2 h5
    have e4 := treeM_left (adv := adv) (r0 := ⟨lsn, prev, txn, 2, page, 0, 0, op, 0, 0, noKey, [], []⟩) l3 h6
    show restM adv (bodyB _ ++ tl) (bare 2 lsn prev txn) b = _
    rw [restM_2 rfl]
    simp only [e2, e3]
    refine e4.trans ?_
    rcases h6 with ⟨h7, h8, h9⟩ | ⟨h7, _⟩
    · simp only at h7 h8 h9
      subst h7 h8 h9
      rfl
    · have hne : how ≠ 1 := by simp only at h7; omega
      simp only [hne, if_false]
  | clr lsn prev txn page op next h1 h2 h3 h4 h5 h6 =>
    obtain ⟨b, e1, l1⟩ := headM_left (adv := adv) (r := ⟨lsn, prev, txn, 3, page, next, 0, op, 0, 0, noKey, [], []⟩) (s := bodyB _ ++ tl) (l := restB _ ++ tl) (List.append_assoc _ _ _) (show (0 : Int) ≤ 3 by omega) (show (3 : Int) < 256 by omega) h1 h2 h3
    unfold readM
    rw [e1]
    rw [restB_3 rfl] at l1
    simp only [List.append_assoc] at l1
    obtain ⟨e2, l2⟩ := numM_3 (adv := adv) (n := page) l1 h4
    obtain ⟨c, e3, l3⟩ := opM_left (adv := adv) (o := op) l2 h5
    obtain ⟨e4, l4⟩ := numM_6 (adv := adv) (n := next) l3 h6
    show restM adv (bodyB _ ++ tl) (bare 3 lsn prev txn) b = _
    rw [restM_3 rfl]
    simp only [e2, e3, e4]
    rfl
  | nest lsn prev txn next h1 h2 h3 h6 =>
    obtain ⟨b, e1, l1⟩ := headM_left (adv := adv) (r := ⟨lsn, prev, txn, 4, 0, next, 0, noOp, 0, 0, noKey, [], []⟩) (s := bodyB _ ++ tl) (l := restB _ ++ tl) (List.append_assoc _ _ _) (show (0 : Int) ≤ 4 by omega) (show (4 : Int) < 256 by omega) h1 h2 h3
    unfold readM
    rw [e1]
    rw [restB_4 rfl] at l1
    obtain ⟨e4, l4⟩ := numM_6 (adv := adv) (n := next) l1 h6
    show restM adv (bodyB _ ++ tl) (bare 4 lsn prev txn) b = _
    rw [restM_4 rfl]
    simp only [e4]
    rfl
  | image lsn prev txn page op h1 h2 h3 h4 h5 =>
    obtain ⟨b, e1, l1⟩ := headM_left (adv := adv) (r := ⟨lsn, prev, txn, 8, page, 0, 0, op, 0, 0, noKey, [], []⟩) (s := bodyB _ ++ tl) (l := restB _ ++ tl) (List.append_assoc _ _ _) (show (0 : Int) ≤ 8 by omega) (show (8 : Int) < 256 by omega) h1 h2 h3
    unfold readM
    rw [e1]
    rw [restB_8 rfl] at l1
    simp only [List.append_assoc] at l1
    obtain ⟨e2, l2⟩ := numM_3 (adv := adv) (n := page) l1 h4
    obtain ⟨c, e3, l3⟩ := opM_left (adv := adv) (o := op) l2 h5
    show restM adv (bodyB _ ++ tl) (bare 8 lsn prev txn) b = _
    rw [restM_8 rfl]
    simp only [e2, e3]
    rfl
  | check lsn prev txn n ts ds h1 h2 h3 h4 h5 =>
    obtain ⟨b, e1, l1⟩ := headM_left (adv := adv) (r := ⟨lsn, prev, txn, 9, 0, 0, n, noOp, 0, 0, noKey, ts, ds⟩) (s := bodyB _ ++ tl) (l := restB _ ++ tl) (List.append_assoc _ _ _) (show (0 : Int) ≤ 9 by omega) (show (9 : Int) < 256 by omega) h1 h2 h3
    unfold readM
    rw [e1]
    rw [restB_9 rfl] at l1
    have e4 := listsM_left (adv := adv) (r0 := bare 9 lsn prev txn) l1 h4 h5
    show restM adv (bodyB _ ++ tl) (bare 9 lsn prev txn) b = _
    rw [restM_9 rfl]
    exact e4
theorem read_body (adv : Bool) {r : Rec} (h : Right r) : readM adv (bodyB r) = r := by
  have := read_more adv [] h
  rwa [List.append_nil] at this
/-- No record's bytes begin another one's. -/
theorem body_prefix {r x : Rec} {l : List UInt8} (hr : Right r) (hx : Right x) (h : bodyB r = bodyB x ++ l) : x = r := by
  have h1 := read_body true hr
  rw [h, read_more true l hx] at h1
  exact h1
/-- Two readers, one answer: the record that these bytes are, if there is one. -/
theorem read_same {s : List UInt8} (h : Right (readM true s) ∧ bodyB (readM true s) = s) : readM false s = readM true s := by
  have := read_body false h.1
  rwa [h.2] at this
theorem read_both (s : List UInt8) : (Right (readM true s) ∧ bodyB (readM true s) = s) ↔ (Right (readM false s) ∧ bodyB (readM false s) = s) := by
  constructor
  · intro h; rw [read_same h]; exact h
  · intro h
    have := read_body true h.1
    rw [h.2] at this
    rw [this]; exact h
end Rc
/- Which records may be, as a test. -/
namespace Rc
/-- Texts and lists alike. -/
instance : DecidableEq Op := fun a b => by
  obtain ⟨a1, a2, a3, a4⟩ := a
  obtain ⟨b1, b2, b3, b4⟩ := b
  by_cases h : a1 = b1 ∧ a2 = b2 ∧ a3 = b3 ∧ a4 = b4
  · exact .isTrue (by obtain ⟨rfl, rfl, rfl, rfl⟩ := h; rfl)
  · exact .isFalse (fun e => by injection e with e1 e2 e3 e4; exact h ⟨e1, e2, e3, e4⟩)
instance : DecidableEq Key := fun a b => by
  obtain ⟨a1, a2, a3⟩ := a
  obtain ⟨b1, b2, b3⟩ := b
  by_cases h : a1 = b1 ∧ a2 = b2 ∧ a3 = b3
  · exact .isTrue (by obtain ⟨rfl, rfl, rfl⟩ := h; rfl)
  · exact .isFalse (fun e => by injection e with e1 e2 e3; exact h ⟨e1, e2, e3⟩)
instance (n : Int) : Decidable (num n) := by unfold num; exact inferInstance
instance (n : Int) : Decidable (pg n) := by unfold pg; exact inferInstance
instance (n : Int) : Decidable (sl n) := by unfold sl; exact inferInstance
instance (o : Op) : Decidable (opR o) := by unfold opR; exact inferInstance
instance (r : Rec) : Decidable (treeR r) := by unfold treeR; exact inferInstance
instance (x : TxnAt) : Decidable (txnR x) := by unfold txnR; exact inferInstance
instance (x : DirtyAt) : Decidable (dirtyR x) := by unfold dirtyR; exact inferInstance
instance (r : Rec) : Decidable (listsR r) := by unfold listsR; exact inferInstance
/-- What a kind has: a change, how it is undone, a next one, lists. -/
def hasChange (k : Int) : Prop := k = 2 ∨ k = 3 ∨ k = 8
def hasNext (k : Int) : Prop := k = 3 ∨ k = 4
/-- The form of a record, field by field. -/
structure Form (r : Rec) : Prop where
  kind : 1 ≤ r.kind ∧ r.kind ≤ 9
  nums : num r.lsn ∧ num r.prev ∧ num r.txn
  change : hasChange r.kind → pg r.page ∧ opR r.op
  bare : ¬ hasChange r.kind → r.page = 0 ∧ r.op = noOp
  tree : r.kind = 2 → treeR r
  noTree : r.kind ≠ 2 → r.how = 0 ∧ r.root = 0 ∧ r.e = noKey
  next : hasNext r.kind → num r.next
  noNext : ¬ hasNext r.kind → r.next = 0
  lists : r.kind = 9 → num r.num ∧ listsR r
  noLists : r.kind ≠ 9 → r.num = 0 ∧ r.txns = [] ∧ r.dirty = []
theorem form_of {r : Rec} (h : Right r) : Form r := by
  cases h with
  | small kind lsn prev txn hk h1 h2 h3 =>
    have hb : (bare kind lsn prev txn).kind = kind := rfl
    exact ⟨by rw [hb]; omega, ⟨h1, h2, h3⟩, fun h => (by unfold hasChange at h; rw [hb] at h; omega), fun _ => ⟨rfl, rfl⟩, fun h => (by rw [hb] at h; omega), fun _ => ⟨rfl, rfl, rfl⟩, fun h => (by unfold hasNext at h; rw [hb] at h; omega), fun _ => rfl, fun h => (by rw [hb] at h; omega), fun _ => ⟨rfl, rfl, rfl⟩⟩
  | change lsn prev txn page op how root e h1 h2 h3 h4 h5 h6 =>
    exact ⟨⟨by show (1 : Int) ≤ 2; omega, by show (2 : Int) ≤ 9; omega⟩, ⟨h1, h2, h3⟩, fun _ => ⟨h4, h5⟩, fun h => absurd (Or.inl rfl) h, fun _ => h6, fun h => absurd rfl h, fun h => (by rcases h with h | h <;> cases h), fun _ => rfl, fun h => (by cases h), fun _ => ⟨rfl, rfl, rfl⟩⟩
  | clr lsn prev txn page op next h1 h2 h3 h4 h5 h6 =>
    exact ⟨⟨by show (1 : Int) ≤ 3; omega, by show (3 : Int) ≤ 9; omega⟩, ⟨h1, h2, h3⟩, fun _ => ⟨h4, h5⟩, fun h => absurd (Or.inr (Or.inl rfl)) h, fun h => (by cases h), fun _ => ⟨rfl, rfl, rfl⟩, fun _ => h6, fun h => absurd (Or.inl rfl) h, fun h => (by cases h), fun _ => ⟨rfl, rfl, rfl⟩⟩
  | nest lsn prev txn next h1 h2 h3 h6 =>
    exact ⟨⟨by show (1 : Int) ≤ 4; omega, by show (4 : Int) ≤ 9; omega⟩, ⟨h1, h2, h3⟩, fun h => (by rcases h with h | h | h <;> cases h), fun _ => ⟨rfl, rfl⟩, fun h => (by cases h), fun _ => ⟨rfl, rfl, rfl⟩, fun _ => h6, fun h => absurd (Or.inr rfl) h, fun h => (by cases h), fun _ => ⟨rfl, rfl, rfl⟩⟩
  | image lsn prev txn page op h1 h2 h3 h4 h5 =>
    exact ⟨⟨by show (1 : Int) ≤ 8; omega, by show (8 : Int) ≤ 9; omega⟩, ⟨h1, h2, h3⟩, fun _ => ⟨h4, h5⟩, fun h => absurd (Or.inr (Or.inr rfl)) h, fun h => (by cases h), fun _ => ⟨rfl, rfl, rfl⟩, fun h => (by rcases h with h | h <;> cases h), fun _ => rfl, fun h => (by cases h), fun _ => ⟨rfl, rfl, rfl⟩⟩
  | check lsn prev txn n ts ds h1 h2 h3 h4 h5 =>
    exact ⟨⟨by show (1 : Int) ≤ 9; omega, by show (9 : Int) ≤ 9; omega⟩, ⟨h1, h2, h3⟩, fun h => (by rcases h with h | h | h <;> cases h), fun _ => ⟨rfl, rfl⟩, fun h => (by cases h), fun _ => ⟨rfl, rfl, rfl⟩, fun h => (by rcases h with h | h <;> cases h), fun _ => rfl, fun _ => ⟨h4, h5⟩, fun h => absurd rfl h⟩
theorem of_form {r : Rec} (h : Form r) : Right r := by
  obtain ⟨hk, hn, hc, hb, ht, hnt, hx, hnx, hl, hnl⟩ := h
  obtain ⟨h1, h2, h3⟩ := hn
  obtain ⟨lsn, prev, txn, kind, page, next, n, op, how, root, e, ts, ds⟩ := r
  simp only at hk h1 h2 h3 hc hb ht hnt hx hnx hl hnl
  unfold hasChange at hc hb
  unfold hasNext at hx hnx
  obtain rfl | rfl | rfl | rfl | rfl | h : kind = 2 ∨ kind = 3 ∨ kind = 4 ∨ kind = 8 ∨ kind = 9 ∨ (kind = 1 ∨ kind = 5 ∨ kind = 6 ∨ kind = 7) := by omega
  · obtain ⟨h4, h5⟩ := hc (by omega)
    have h6 := ht rfl
    obtain rfl := hnx (by omega)
    obtain ⟨rfl, rfl, rfl⟩ := hnl (by omega)
    exact Right.change lsn prev txn page op how root e h1 h2 h3 h4 h5 h6
  · obtain ⟨h4, h5⟩ := hc (by omega)
    obtain ⟨rfl, rfl, rfl⟩ := hnt (by omega)
    obtain ⟨rfl, rfl, rfl⟩ := hnl (by omega)
    exact Right.clr lsn prev txn page op next h1 h2 h3 h4 h5 (hx (by omega))
  · obtain ⟨rfl, rfl⟩ := hb (by omega)
    obtain ⟨rfl, rfl, rfl⟩ := hnt (by omega)
    obtain ⟨rfl, rfl, rfl⟩ := hnl (by omega)
    exact Right.nest lsn prev txn next h1 h2 h3 (hx (by omega))
  · obtain ⟨h4, h5⟩ := hc (by omega)
    obtain ⟨rfl, rfl, rfl⟩ := hnt (by omega)
    obtain ⟨rfl, rfl, rfl⟩ := hnl (by omega)
    obtain rfl := hnx (by omega)
    exact Right.image lsn prev txn page op h1 h2 h3 h4 h5
  · obtain ⟨rfl, rfl⟩ := hb (by omega)
    obtain ⟨rfl, rfl, rfl⟩ := hnt (by omega)
    obtain rfl := hnx (by omega)
    obtain ⟨h4, h5⟩ := hl rfl
    exact Right.check lsn prev txn n ts ds h1 h2 h3 h4 h5
  · obtain ⟨rfl, rfl⟩ := hb (by omega)
    obtain ⟨rfl, rfl, rfl⟩ := hnt (by omega)
    obtain ⟨rfl, rfl, rfl⟩ := hnl (by omega)
    obtain rfl := hnx (by omega)
    exact Right.small kind lsn prev txn h h1 h2 h3
theorem right_iff (r : Rec) : Right r ↔ Form r := ⟨form_of, of_form⟩
end Rc
/- The walks over package rec: which numbers may be. -/
namespace Rc
/-- Are all numbers from 0 to a most one? -/
def allW (most : Int) (xs : List Int) : Bool := xs.all fun n => decide (0 ≤ n ∧ n ≤ most)
theorem allW_bad {most : Int} {xs : List Int} {k : Nat} (hk : k < xs.length) (h : ¬ (0 ≤ xs[k] ∧ xs[k] ≤ most)) : allW most xs = false := by
  unfold allW
  rw [List.all_eq_false]
  exact ⟨_, List.getElem_mem hk, by simpa using h⟩
theorem allW_all {most : Int} {xs : List Int} (h : ∀ k (hk : k < xs.length), 0 ≤ xs[k] ∧ xs[k] ≤ most) : allW most xs = true := by
  unfold allW
  rw [List.all_eq_true]
  intro x hx
  obtain ⟨k, hk, rfl⟩ := List.getElem_of_mem hx
  simpa using h k hk
end Rc
namespace Go.Proofs.Ytojaagnfjenhoaa
open Go.RowKit

theorem outside_any (n most : Int) (g : Nat) (w : World) (h : w.cell? ⟨g, 0, none⟩ = some (.int .i64 most)) :
    Calls Try.prog 107 #[.int .i64 n, .pointer (some ⟨g, 0, none⟩)] w fun e w' => e = .returned (.bool (!decide (0 ≤ n ∧ n ≤ most))) ∧ w = w' := by
  by_cases h0 : n < 0
  · rw [show decide (0 ≤ n ∧ n ≤ most) = false from decide_eq_false (by omega)]
    go_enter Try.func107, Try.ntmps107
    go_wp2_with fail
    go_ret
    exact ⟨by simp [*], rfl⟩
  · have h1 : 0 ≤ n := by omega
    by_cases h2 : most < n
    · rw [show decide (0 ≤ n ∧ n ≤ most) = false from decide_eq_false (by omega)]
      go_enter Try.func107, Try.ntmps107
      go_wp2_with fail
      go_ret
      exact ⟨by simp [*], rfl⟩
    · have h3 : n ≤ most := by omega
      rw [show decide (0 ≤ n ∧ n ≤ most) = true from decide_eq_true (by omega)]
      clear h0 h2
      go_enter Try.func107, Try.ntmps107
      go_wp2_with fail
      go_ret
      exact ⟨by simp [*], rfl⟩
/-- The place of the first one that may not be. -/
def FirstOut (b : Bool) (w : World) (e : Ending) (w' : World) : Prop := ∃ k : Int, e = .returned (.int .i64 k) ∧ (if b then k = -1 else 0 ≤ k) ∧ w = w'
theorem index_ints (most : Int) (xs : List Int) (hn : xs.length ≤ 1048576) (A : Option Addr) (c g : Nat) (w : World) (hr : Reads w A c xs.length (xs.map (Value.int .i64))) (h : w.cell? ⟨g, 0, none⟩ = some (.int .i64 most)) :
    Calls Try.prog 109 #[.slice A xs.length c, .func (.func 107) #[] #[.pointer (some ⟨g, 0, none⟩)]] w (FirstOut (Rc.allW most xs) w) := by
  have HR := Lib.hid hr
  have HO := Lib.hid (fun n => outside_any n most g w h)
  obtain ⟨b, hb⟩ : ∃ b, b = Rc.allW most xs := ⟨_, rfl⟩
  rw [← hb]
  have HB := Lib.hid hb
  clear hr h hb
  go_enter Try.func109, Try.ntmps109
  go_wp2_with fail
  go_loop [8] (fun i => ∃ k : Nat, k ≤ xs.length ∧ i = .int .i64 k ∧ ∀ j (hj : j < xs.length), j < k → 0 ≤ xs[j] ∧ xs[j] ≤ most) (fun i => xs.length - (intOf i).toNat)
  case atStart => exact ⟨0, Nat.zero_le _, rfl, fun _ _ h => absurd h (by omega)⟩
  case round =>
    obtain ⟨k, hk, rfl, hall⟩ := hrel
    have HA := Lib.hid hall
    clear hall
    by_cases hlt : k < xs.length
    · obtain ⟨b', off, rfl, hc, hbl, hcell⟩ := HR.out.at_ (by omega)
      have hck := hcell k (.int .i64 xs[k]) (by rw [List.getElem?_map, List.getElem?_eq_getElem hlt]; rfl)
      clear hcell
      have HN := Lib.hid (show ¬ (0 ≤ xs[k] ∧ xs[k] ≤ most) → b = false from fun h => HB.out.trans (Rc.allW_bad hlt h))
      have HY := Lib.hid (show (0 ≤ xs[k] ∧ xs[k] ≤ most) → ∀ j (hj : j < xs.length), j < k + 1 → 0 ≤ xs[j] ∧ xs[j] ≤ most from fun h j hj hjk => by
        rcases Nat.lt_or_eq_of_le (Nat.le_of_lt_succ hjk) with h1 | h1
        · exact HA.out j hj h1
        · subst h1; exact h)
      have HOk := Lib.hid (HO.out xs[k])
      generalize xs[k] = x at hck HN HY HOk
      cases hd : decide (0 ≤ x ∧ x ≤ most) with
      | true =>
        have HY2 := Lib.hid (HY.out (of_decide_eq_true hd))
        rw [hd] at HOk
        clear HN HY hd
        go_wp2_with ((go_at_call 107; refine (HOk.out).mono ?_; rintro e w' ⟨rfl, rfl⟩))
        go_round
        case rel => exact ⟨k + 1, by omega, by go_num, HY2.out⟩
        case measure => simp [intOf]; omega
      | false =>
        have HN2 := Lib.hid (HN.out (of_decide_eq_false hd))
        rw [hd] at HOk
        clear HN HY hd
        go_wp2_with ((go_at_call 107; refine (HOk.out).mono ?_; rintro e w' ⟨rfl, rfl⟩))
        go_ret
        exact ⟨k, rfl, by rw [HN2.out]; simp, rfl⟩
    · obtain rfl : k = xs.length := by omega
      have HE := Lib.hid (show b = true from HB.out.trans (Rc.allW_all fun j hj => HA.out j hj hj))
      go_wp2_with fail
      go_ret
      exact ⟨-1, rfl, by rw [HE.out]; rfl, rfl⟩
theorem contains_ints (most : Int) (xs : List Int) (hn : xs.length ≤ 1048576) (A : Option Addr) (c g : Nat) (w : World) (hr : Reads w A c xs.length (xs.map (Value.int .i64))) (h : w.cell? ⟨g, 0, none⟩ = some (.int .i64 most)) :
    Calls Try.prog 106 #[.slice A xs.length c, .func (.func 107) #[] #[.pointer (some ⟨g, 0, none⟩)]] w fun e w' => e = .returned (.bool (!Rc.allW most xs)) ∧ w = w' := by
  have HI := Lib.hid (index_ints most xs hn A c g w hr h)
  clear hr h
  cases hb : Rc.allW most xs with
  | true =>
    rw [hb] at HI
    clear hb
    go_enter Try.func106, Try.ntmps106
    go_wp2_with ((go_at_call 109; refine (HI.out).mono ?_; rintro e w' ⟨k, rfl, hk, rfl⟩; obtain rfl : k = -1 := hk))
    go_ret
    exact ⟨rfl, rfl⟩
  | false =>
    rw [hb] at HI
    clear hb
    go_enter Try.func106, Try.ntmps106
    go_wp2_with ((go_at_call 109; refine (HI.out).mono ?_; rintro e w' ⟨k, rfl, hk, rfl⟩; have hk0 : 0 ≤ k := by simpa using hk))
    go_ret
    exact ⟨by simp [*], rfl⟩
theorem within_any (most : Int) (xs : List Int) (hn : xs.length ≤ 1048576) (A : Option Addr) (c : Nat) (w : World) (hr : Reads w A c xs.length (xs.map (Value.int .i64))) :
    Calls Try.prog 94 #[.int .i64 most, .slice A xs.length c] w fun e w' => e = .returned (.bool (Rc.allW most xs)) ∧ Below w.heap.size w w' := by
  have HC := Lib.hid (contains_ints most xs hn A c w.heap.size (w.alloc (.cells #[.int .i64 most] 3)) (hr.alloc _) (by rw [blkCell (heap_alloc_new w _)]; rfl))
  clear hr
  generalize Rc.allW most xs = b at HC ⊢
  go_enter Try.func94, Try.ntmps94
  go_wp2_with ((go_at_call 106; refine (HC.out).mono ?_; rintro e w' ⟨rfl, rfl⟩))
  go_ret
  exact ⟨by simp, allocB _ _⟩
theorem number_any (xs : List Int) (hn : xs.length ≤ 1048576) (A : Option Addr) (c : Nat) (w : World) (hr : Reads w A c xs.length (xs.map (Value.int .i64))) :
    Calls Try.prog 58 #[.slice A xs.length c] w fun e w' => e = .returned (.bool (Rc.allW 1099511627775 xs)) ∧ Below w.heap.size w w' := by
  have HC := Lib.hid (within_any 1099511627775 xs hn A c w hr)
  clear hr
  generalize Rc.allW 1099511627775 xs = b at HC ⊢
  go_enter Try.func58, Try.ntmps58
  go_wp2_with ((go_at_call 94; refine (HC.out).mono ?_; rintro e w' ⟨rfl, hb⟩))
  go_ret
  exact ⟨rfl, hb⟩
theorem paged_any (xs : List Int) (hn : xs.length ≤ 1048576) (A : Option Addr) (c : Nat) (w : World) (hr : Reads w A c xs.length (xs.map (Value.int .i64))) :
    Calls Try.prog 59 #[.slice A xs.length c] w fun e w' => e = .returned (.bool (Rc.allW 8388607 xs)) ∧ Below w.heap.size w w' := by
  have HC := Lib.hid (within_any 8388607 xs hn A c w hr)
  clear hr
  generalize Rc.allW 8388607 xs = b at HC ⊢
  go_enter Try.func59, Try.ntmps59
  go_wp2_with ((go_at_call 94; refine (HC.out).mono ?_; rintro e w' ⟨rfl, hb⟩))
  go_ret
  exact ⟨rfl, hb⟩
theorem slot_any (xs : List Int) (hn : xs.length ≤ 1048576) (A : Option Addr) (c : Nat) (w : World) (hr : Reads w A c xs.length (xs.map (Value.int .i64))) :
    Calls Try.prog 95 #[.slice A xs.length c] w fun e w' => e = .returned (.bool (Rc.allW 32767 xs)) ∧ Below w.heap.size w w' := by
  have HC := Lib.hid (within_any 32767 xs hn A c w hr)
  clear hr
  generalize Rc.allW 32767 xs = b at HC ⊢
  go_enter Try.func95, Try.ntmps95
  go_wp2_with ((go_at_call 94; refine (HC.out).mono ?_; rintro e w' ⟨rfl, hb⟩))
  go_ret
  exact ⟨rfl, hb⟩
end Go.Proofs.Ytojaagnfjenhoaa
/- The walks over package rec: the parts of a record that may be. -/
namespace Rc
theorem allW_one (m n : Int) : allW m [n] = decide (0 ≤ n ∧ n ≤ m) := by simp [allW]
theorem allW_two (m a b : Int) : allW m [a, b] = decide ((0 ≤ a ∧ a ≤ m) ∧ (0 ≤ b ∧ b ≤ m)) := by simp [allW, Bool.decide_and]
theorem allW_three (m a b c : Int) : allW m [a, b, c] = decide ((0 ≤ a ∧ a ≤ m) ∧ (0 ≤ b ∧ b ≤ m) ∧ (0 ≤ c ∧ c ≤ m)) := by simp [allW, Bool.decide_and]
theorem num_iff (n : Int) : (0 ≤ n ∧ n ≤ 1099511627775) ↔ num n := by unfold num; omega
theorem pg_iff (n : Int) : (0 ≤ n ∧ n ≤ 8388607) ↔ pg n := by unfold pg; omega
theorem sl_iff (n : Int) : (0 ≤ n ∧ n ≤ 32767) ↔ sl n := by unfold sl; omega
end Rc
namespace Go.Proofs.Ytojaagnfjenhoaa
open Go.RowKit

theorem new2 (w : World) (o1 o2 : Obj) : ((w.alloc o1).alloc o2).heap[w.heap.size + 1]? = some o2 := by simpa using heap_alloc_new (w.alloc o1) o2
theorem number1 (a : Int) (w : World) (g : Nat) (hg : w.heap[g]? = some (.cells #[.int .i64 a] 3 (0, 0))) :
    Calls Try.prog 58 #[.slice (some ⟨g, 0, none⟩) 1 1] w fun e w' => e = .returned (.bool (decide (Rc.num a))) ∧ Below w.heap.size w w' := by
  have h := number_any [a] (by simp) (some ⟨g, 0, none⟩) 1 w (reads_blk (cs := [.int .i64 a]) hg (Nat.le_refl _))
  rw [Rc.allW_one, decide_eq_decide.2 (Rc.num_iff a)] at h
  exact h
theorem paged1 (a : Int) (w : World) (g : Nat) (hg : w.heap[g]? = some (.cells #[.int .i64 a] 3 (0, 0))) :
    Calls Try.prog 59 #[.slice (some ⟨g, 0, none⟩) 1 1] w fun e w' => e = .returned (.bool (decide (Rc.pg a))) ∧ Below w.heap.size w w' := by
  have h := paged_any [a] (by simp) (some ⟨g, 0, none⟩) 1 w (reads_blk (cs := [.int .i64 a]) hg (Nat.le_refl _))
  rw [Rc.allW_one, decide_eq_decide.2 (Rc.pg_iff a)] at h
  exact h
theorem slot1 (a : Int) (w : World) (g : Nat) (hg : w.heap[g]? = some (.cells #[.int .i64 a] 3 (0, 0))) :
    Calls Try.prog 95 #[.slice (some ⟨g, 0, none⟩) 1 1] w fun e w' => e = .returned (.bool (decide (Rc.sl a))) ∧ Below w.heap.size w w' := by
  have h := slot_any [a] (by simp) (some ⟨g, 0, none⟩) 1 w (reads_blk (cs := [.int .i64 a]) hg (Nat.le_refl _))
  rw [Rc.allW_one, decide_eq_decide.2 (Rc.sl_iff a)] at h
  exact h
theorem paged2 (a b : Int) (w : World) (g : Nat) (hg : w.heap[g]? = some (.cells #[.int .i64 a, .int .i64 b] 3 (0, 0))) :
    Calls Try.prog 59 #[.slice (some ⟨g, 0, none⟩) 2 2] w fun e w' => e = .returned (.bool (decide (Rc.pg a ∧ Rc.pg b))) ∧ Below w.heap.size w w' := by
  have h := paged_any [a, b] (by simp) (some ⟨g, 0, none⟩) 2 w (reads_blk (cs := [.int .i64 a, .int .i64 b]) hg (Nat.le_refl _))
  rw [Rc.allW_two, decide_eq_decide.2 (and_congr (Rc.pg_iff a) (Rc.pg_iff b))] at h
  exact h
theorem number3 (a b c : Int) (w : World) (g : Nat) (hg : w.heap[g]? = some (.cells #[.int .i64 a, .int .i64 b, .int .i64 c] 3 (0, 0))) :
    Calls Try.prog 58 #[.slice (some ⟨g, 0, none⟩) 3 3] w fun e w' => e = .returned (.bool (decide (Rc.num a ∧ Rc.num b ∧ Rc.num c))) ∧ Below w.heap.size w w' := by
  have h := number_any [a, b, c] (by simp) (some ⟨g, 0, none⟩) 3 w (reads_blk (cs := [.int .i64 a, .int .i64 b, .int .i64 c]) hg (Nat.le_refl _))
  rw [Rc.allW_three, decide_eq_decide.2 (and_congr (Rc.num_iff a) (and_congr (Rc.num_iff b) (Rc.num_iff c)))] at h
  exact h

abbrev opV (o : Rc.Op) : Value := .agg #[.int .i64 o.kind, .int .i64 o.slot, .string o.old, .string o.new]
abbrev keyV (e : Rc.Key) : Value := .agg #[.string e.key, .int .i64 e.page, .int .i64 e.slot]
abbrev recA (r : Rc.Rec) (T D : Value) : Array Value := #[.int .i64 r.lsn, .int .i64 r.prev, .int .i64 r.txn, .int .i64 r.kind, .int .i64 r.page, .int .i64 r.next, .int .i64 r.num, .int .i64 r.op.kind, .int .i64 r.op.slot, .string r.op.old, .string r.op.new, .int .i64 r.how, .int .i64 r.root, .string r.e.key, .int .i64 r.e.page, .int .i64 r.e.slot, T, D]
abbrev recV (r : Rc.Rec) (T D : Value) : Value := .agg (recA r T D)
theorem bytes_list (a b : ByteArray) : a.toList = b.toList ↔ a = b := by
  rw [ByteArray.toList_eq, ByteArray.toList_eq]
  exact ⟨fun h => ByteArray.ext (Array.toList_inj.1 h), fun h => by rw [h]⟩
theorem key_equal (a b : Rc.Key) (w : World) : (Op.equalIn 10000 45 (keyV a) (keyV b)).run Try.prog w = .ok (decide (a = b)) w := by
  obtain ⟨k1, p1, s1⟩ := a
  obtain ⟨k2, p2, s2⟩ := b
  have hS : Try.prog.underlying 45 = some (.struct (Try.prog.fieldsOf 45)) := by kernel_rfl
  have hp : Try.prog.stoodInHeld 45 = false := by kernel_rfl
  have hS2 : Try.prog.underlying 43 = some (.struct (Try.prog.fieldsOf 43)) := by kernel_rfl
  have hp2 : Try.prog.stoodInHeld 43 = false := by kernel_rfl
  have hin : ∀ W : World, (Op.equalIn 9999 43 (.agg #[.int .i64 p1, .int .i64 s1]) (.agg #[.int .i64 p2, .int .i64 s2])).run Try.prog W = .ok ((p1 == p2) && (s1 == s2)) W := fun W => by
    rw [show (9999 : Nat) = 9998 + 1 from rfl, run_equalIn_agg W 9998 43 _ _ hS2 hp2]
    simp only [Program.fieldsOf, Try.underlying43]
    go_simp
    by_cases h1 : p1 = p2 <;> by_cases h2 : s1 = s2 <;> simp [h1, h2]
  rw [show (10000 : Nat) = 9999 + 1 from rfl, run_equalIn_agg w 9999 45 _ _ hS hp]
  simp only [Program.fieldsOf, Try.underlying45]
  go_simp
  have hk := bytes_list k1 k2
  by_cases h0 : k1 = k2
  · rw [if_pos (hk.2 h0)]
    by_cases h1 : p1 = p2 <;> by_cases h2 : s1 = s2 <;> simp [h0, h1, h2]
  · rw [if_neg (fun h => h0 (hk.1 h))]
    simp [h0]
theorem op_equal (a b : Rc.Op) (w : World) : (Op.equalIn 10000 41 (opV a) (opV b)).run Try.prog w = .ok (decide (a = b)) w := by
  obtain ⟨k1, p1, s1, t1⟩ := a
  obtain ⟨k2, p2, s2, t2⟩ := b
  have hS : Try.prog.underlying 41 = some (.struct (Try.prog.fieldsOf 41)) := by kernel_rfl
  have hp : Try.prog.stoodInHeld 41 = false := by kernel_rfl
  rw [show (10000 : Nat) = 9999 + 1 from rfl, run_equalIn_agg w 9999 41 _ _ hS hp]
  simp only [Program.fieldsOf, Try.underlying41]
  go_simp
  have hs := bytes_list s1 s2
  have ht := bytes_list t1 t2
  by_cases h0 : k1 = k2 <;> by_cases h1 : p1 = p2 <;> by_cases h2 : s1 = s2 <;> by_cases h3 : t1 = t2 <;> simp [h0, h1, h2, h3, hs, ht]
end Go.Proofs.Ytojaagnfjenhoaa
