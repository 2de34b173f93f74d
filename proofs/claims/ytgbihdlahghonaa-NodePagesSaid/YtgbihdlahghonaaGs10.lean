/- The walk over package node: Split. -/
import Derived.Test.YtgbihdlahghonaaGs09
import Derived.Laws.StructEq
namespace Nd
open Pg
/-- How many records the left half has. -/
def splitGo (rs : List ByteArray) (k : Nat) : Nat → Nat
  | 0 => k
  | f + 1 => if k + 1 < rs.length ∧ 2 * sumSizes (rs.take k) < sumSizes rs then splitGo rs (k + 1) f else k
def splitK (rs : List ByteArray) : Nat := splitGo rs 1 (rs.length - 1)
theorem splitGo_in (rs : List ByteArray) : ∀ (f k : Nat), k < rs.length → k ≤ splitGo rs k f ∧ splitGo rs k f < rs.length := by
  intro f
  induction f with
  | zero => intro k h; exact ⟨Nat.le_refl _, h⟩
  | succ f ih =>
    intro k h
    unfold splitGo
    split
    · rename_i h1
      have := ih (k + 1) h1.1
      omega
    · exact ⟨Nat.le_refl _, h⟩
theorem splitK_in {rs : List ByteArray} (h : 2 ≤ rs.length) : 1 ≤ splitK rs ∧ splitK rs < rs.length := splitGo_in rs _ 1 (by omega)
theorem split_go {rs : List ByteArray} {k : Nat} (h : k + 1 < rs.length ∧ 2 * sumSizes (rs.take k) < sumSizes rs) : splitGo rs k (rs.length - k) = splitGo rs (k + 1) (rs.length - (k + 1)) := by
  obtain ⟨f, hf⟩ : ∃ f, rs.length - k = f + 1 := ⟨rs.length - k - 1, by omega⟩
  rw [hf]
  rw [splitGo, if_pos h]
  congr 1; omega
theorem split_end {rs : List ByteArray} {k : Nat} (h : ¬ (k + 1 < rs.length ∧ 2 * sumSizes (rs.take k) < sumSizes rs)) : splitGo rs k (rs.length - k) = k := by
  cases hf : rs.length - k with
  | zero => rfl
  | succ f => rw [splitGo, if_neg h]
end Nd
namespace Go.Proofs.Ytgbihdlahghonaa
open Go.RowKit

/-- What Split returns. -/
def splitV (x : Pg.Leaf) (es : List Nd.Entry) (k : Nat) : ByteArray × ByteArray × Nd.Entry × Bool :=
  (pageB { x with recs := x.recs.take k }, pageB { x with lsn := 0, recs := x.recs.drop k }, (es[k]?).getD Nd.zero, true)
def splitP (p : ByteArray) : ByteArray × ByteArray × Nd.Entry × Bool :=
  if rightP p = false ∨ (viewP p).recs.length < 2 then (⟨#[]⟩, ⟨#[]⟩, Nd.zero, false) else splitV (leafP p) (viewP p).ents (Nd.splitK (viewP p).recs)
abbrev splitT (o : ByteArray × ByteArray × Nd.Entry × Bool) : Value := .tuple #[.string o.1, .string o.2.1, entV o.2.2.1, .bool o.2.2.2]

/-- The records of a page of a tree: the page's own. -/
theorem view_recs {p : ByteArray} (h : rightP p = true) : isPg p = true ∧ (viewP p).recs = (leafP p).recs ∧ (∀ r ∈ (leafP p).recs, r.size ≠ 0) := by
  have key : ∀ lf V, Nd.lookL lf (leafP p).recs = some V → V.recs = (leafP p).recs ∧ (∀ r ∈ (leafP p).recs, r.size ≠ 0) := by
    intro lf V h
    cases hd : Nd.decN lf (leafP p).recs (leafP p).recs.length with
    | none => rw [Nd.lookL_none hd] at h; cases h
    | some l =>
      rw [Nd.lookL_some hd] at h
      split at h
      · cases h
      · split at h
        · injection h with h
          subst h
          refine ⟨rfl, fun r hr h0 => ?_⟩
          obtain ⟨j, hj, rfl⟩ := List.getElem_of_mem hr
          have key2 : ∀ n, n ≤ (leafP p).recs.length → j < n → ∀ l', Nd.decN lf (leafP p).recs n = some l' → False := by
            intro n
            induction n with
            | zero => intro _ h; omega
            | succ n ih =>
              intro hn hjn l' hl'
              by_cases hjn2 : j = n
              · subst hjn2
                simp only [Nd.decN] at hl'
                split at hl'
                · cases hl'
                · rw [List.getElem?_eq_getElem hj] at hl'
                  simp only [Option.getD_some] at hl'
                  rw [Nd.decR_empty lf h0] at hl'
                  cases hl'
              · simp only [Nd.decN] at hl'
                split at hl'
                · cases hl'
                · rename_i l0 hl0
                  exact ih (by omega) (by omega) l0 hl0
          exact key2 _ (Nat.le_refl _) hj _ hd
        · cases h
  unfold rightP at h
  unfold viewP
  cases hl : lookP p with
  | none => rw [hl] at h; cases h
  | some V =>
    unfold lookP at hl
    split at hl
    · rename_i hpg
      refine ⟨hpg, ?_⟩
      unfold Nd.lookR at hl
      split at hl
      · exact key true V hl
      · split at hl
        · exact key false V hl
        · cases hl
    · cases hl
theorem right_sub {p : ByteArray} (h : rightP p = true) : Sub (leafP p) := by
  have hg := leafP_good p
  exact ⟨hg.fine.small, fun r hr => ⟨(view_recs h).2.2 r hr, hg.fine.each r hr⟩, hg.fits⟩
theorem sumSizes_drop (rs : List ByteArray) (k : Nat) : Pg.sumSizes (rs.take k) + Pg.sumSizes (rs.drop k) = Pg.sumSizes rs := by
  rw [← Pg.sumSizes_append, List.take_append_drop]
theorem Sub.drop {x : Pg.Leaf} (h : Sub x) (k : Nat) : Sub { x with lsn := 0, recs := x.recs.drop k } := by
  obtain ⟨h1, h2, h3⟩ := h.small
  refine ⟨⟨by simp, h2, h3⟩, fun r hr => h.each r (List.mem_of_mem_drop hr), ?_⟩
  have h4 := h.fits
  have h5 := sumSizes_drop x.recs k
  unfold Pg.sizeN at h4 ⊢
  simp only [List.length_drop]
  omega
theorem ownT_form {B : Nat} {w : World} {v : Value} {l : List ByteArray} (h : OwnT B w v l) :
    (v = .slice none 0 0 ∧ l = []) ∨ ∃ g cap, v = .slice (some ⟨g, 0, none⟩) l.length cap ∧ B ≤ g ∧ g < w.heap.size ∧ l.length ≤ cap ∧ cap ≤ maxLen ∧ Cells w (some ⟨g, 0, none⟩) cap l := by
  obtain ⟨h1, h2⟩ := h
  rcases h2 with ⟨rfl, h0⟩ | ⟨g, cap, cur, rfl, hg, hh, hn, hm, hs, ht⟩
  · exact .inl ⟨rfl, List.eq_nil_of_length_eq_zero h0⟩
  · refine .inr ⟨g, cap, rfl, hg, heap_lt hh, hn, hm, fun _ => ⟨g, 0, rfl, hn, heap_lt hh, fun j hj => ?_⟩⟩
    have k1 : (l.map Value.string)[j]? = some (.string l[j]) := by rw [List.getElem?_map, List.getElem?_eq_getElem hj]; rfl
    rw [← ht] at k1
    rw [List.getElem?_take, if_pos (by omega), Array.getElem?_toList] at k1
    rw [cell_of_blk hh, Nat.zero_add]; exact k1
theorem Cells.cap {w : World} {A : Option Addr} {c c' : Nat} {rs : List ByteArray} (h : Cells w A c rs) (hc : rs.length ≤ c') : Cells w A c' rs := fun h0 => by
  obtain ⟨b, off, hA, _, hlt, hcell⟩ := h h0
  exact ⟨b, off, hA, hc, hlt, hcell⟩
theorem Cells.drop {w : World} {b off c : Nat} {rs : List ByteArray} (h : Cells w (some ⟨b, off, none⟩) c rs) (k : Nat) : Cells w (some ⟨b, off + k, none⟩) (c - k) (rs.drop k) := fun h0 => by
  rw [List.length_drop] at h0
  obtain ⟨b', off', hA, hc, hlt, hcell⟩ := h (by omega)
  injection hA with hA
  injection hA with hb ho _
  subst hb ho
  refine ⟨b, off + k, rfl, by rw [List.length_drop]; omega, hlt, fun j hj => ?_⟩
  rw [List.length_drop] at hj
  have := hcell (k + j) (by omega)
  rw [show off + k + j = off + (k + j) by omega, this, List.getElem_drop]
/-- What a cell holds. -/
def cellOf (u : World) (a : Addr) : Value := (u.cell? a).getD undef
theorem cellOf_eq {u : World} {a : Addr} {v : Value} (h : u.cell? a = some v) : u.cell? a = some (cellOf u a) := by unfold cellOf; rw [h]; rfl
theorem cell_heap {u u' : World} {b : Nat} (h : u'.heap[b]? = u.heap[b]?) (i : Nat) : u'.cell? ⟨b, i, none⟩ = u.cell? ⟨b, i, none⟩ := by simp [World.cell?, h]
/-- What stands beside the cells that Split's last statement reads and writes. -/
structure HeldT (B X Y g : Nat) (v1 : Value) (rs : List ByteArray) (w0 u : World) : Prop where
  own : OwnT B u v1 rs
  xb : X < B
  bg : B ≤ g
  xy : X < Y
  xs : X < u.heap.size
  ys : Y < u.heap.size
  gs : g < u.heap.size
  low : w0.heap.size ≤ X
  bw : Below w0.heap.size w0 u
abbrev HeldS (B X Y g j : Nat) (v1 v2 : Value) (e : Nd.Entry) (rs : List ByteArray) (w0 u : World) : Prop :=
  u.cell? ⟨Y, 1, none⟩ = some v1 ∧ u.cell? ⟨Y, 2, none⟩ = some v2 ∧ u.cell? ⟨g, j, none⟩ = some (.string e.key) ∧ u.cell? ⟨g, j + 1, none⟩ = some (.int .i64 e.page) ∧ u.cell? ⟨g, j + 2, none⟩ = some (.int .i64 e.slot) ∧
  u.cell? ⟨X, 0, none⟩ = some (cellOf u ⟨X, 0, none⟩) ∧ u.cell? ⟨X, 1, none⟩ = some (cellOf u ⟨X, 1, none⟩) ∧ u.cell? ⟨X, 2, none⟩ = some (cellOf u ⟨X, 2, none⟩) ∧
  u.frozen? ⟨X, 0, none⟩ = false ∧ u.frozen? ⟨X, 1, none⟩ = false ∧ u.frozen? ⟨X, 2, none⟩ = false ∧ HeldT B X Y g v1 rs w0 u
theorem HeldS.step {B X Y g j : Nat} {v1 v2 : Value} {e : Nd.Entry} {rs : List ByteArray} {w0 u u' : World} (h : HeldS B X Y g j v1 v2 e rs w0 u) (hb : Below u.heap.size u u') : HeldS B X Y g j v1 v2 e rs w0 u' := by
  obtain ⟨h0, h1, h2, h3, h4, h5, h6, h7, h8, h9, h10, t⟩ := h
  have hs := hb.size
  refine ⟨?_, ?_, ?_, ?_, ?_, ?_, ?_, ?_, ?_, ?_, ?_, ⟨ownsRow_below t.own hb, t.xb, t.bg, t.xy, Nat.lt_of_lt_of_le t.xs hs, Nat.lt_of_lt_of_le t.ys hs, Nat.lt_of_lt_of_le t.gs hs, t.low, andThen t.bw hb⟩⟩
  · rw [hb.cell (p := ⟨Y, 1, none⟩) t.ys]; exact h0
  · rw [hb.cell (p := ⟨Y, 2, none⟩) t.ys]; exact h1
  · rw [hb.cell (p := ⟨g, j, none⟩) t.gs]; exact h2
  · rw [hb.cell (p := ⟨g, j + 1, none⟩) t.gs]; exact h3
  · rw [hb.cell (p := ⟨g, j + 2, none⟩) t.gs]; exact h4
  · exact cellOf_eq ((hb.cell (p := ⟨X, 0, none⟩) t.xs).trans h5)
  · exact cellOf_eq ((hb.cell (p := ⟨X, 1, none⟩) t.xs).trans h6)
  · exact cellOf_eq ((hb.cell (p := ⟨X, 2, none⟩) t.xs).trans h7)
  · rw [hb.frozen (p := ⟨X, 0, none⟩) t.xs]; exact h8
  · rw [hb.frozen (p := ⟨X, 1, none⟩) t.xs]; exact h9
  · rw [hb.frozen (p := ⟨X, 2, none⟩) t.xs]; exact h10
theorem set_some {u : World} {a q : Addr} {x v : Value} (h : u.cell? q = some v) : (u.setCell a x).cell? q = some (cellOf (u.setCell a x) q) := by
  obtain ⟨v', h'⟩ := cell?_setCell_some (w := u) (p := a) (x := x) (q := q) (v := v) h
  exact cellOf_eq h'
theorem HeldS.set {B X Y g j : Nat} {v1 v2 : Value} {e : Nd.Entry} {rs : List ByteArray} {w0 u : World} (h : HeldS B X Y g j v1 v2 e rs w0 u) (i : Nat) (x : Value) : HeldS B X Y g j v1 v2 e rs w0 (u.setCell ⟨X, i, none⟩ x) := by
  obtain ⟨h0, h1, h2, h3, h4, h5, h6, h7, h8, h9, h10, t⟩ := h
  have hY : (u.setCell ⟨X, i, none⟩ x).heap[Y]? = u.heap[Y]? := Below.heap_setCell u ⟨X, i, none⟩ x Y (by have := t.xy; show Y ≠ X; omega)
  have hg : (u.setCell ⟨X, i, none⟩ x).heap[g]? = u.heap[g]? := Below.heap_setCell u ⟨X, i, none⟩ x g (by have := t.xb; have := t.bg; show g ≠ X; omega)
  refine ⟨?_, ?_, ?_, ?_, ?_, set_some h5, set_some h6, set_some h7, ?_, ?_, ?_, ⟨ownsRow_set t.own _ _ t.xb, t.xb, t.bg, t.xy, by simpa using t.xs, by simpa using t.ys, by simpa using t.gs, t.low, t.bw.setCell t.low _⟩⟩
  · rw [cell_heap hY]; exact h0
  · rw [cell_heap hY]; exact h1
  · rw [cell_heap hg]; exact h2
  · rw [cell_heap hg]; exact h3
  · rw [cell_heap hg]; exact h4
  · simpa using h8
  · simpa using h9
  · simpa using h10
theorem Cells.at0 {w : World} {A : Option Addr} {c : Nat} {rs : List ByteArray} (h : Cells w A c rs) (h0 : 0 < rs.length) : ∃ b off, A = some ⟨b, off, none⟩ ∧ rs.length ≤ c ∧ b < w.heap.size ∧ ∀ j (h : j < rs.length), w.cell? ⟨b, off + j, none⟩ = some (.string rs[j]) := h h0
theorem ownT_cells {B c : Nat} {w : World} {a : Option Addr} {l : List ByteArray} (h : OwnT B w (.slice a l.length c) l) : Cells w a c l ∧ l.length ≤ c ∧ c ≤ maxLen := by
  rcases ownT_form h with ⟨h1, rfl⟩ | ⟨g, cap, h1, _, _, h4, h5, h6⟩
  · injection h1 with _ _ h3
    subst h3
    exact ⟨fun h => absurd h (by simp), Nat.le_refl _, Nat.zero_le _⟩
  · injection h1 with h1 _ h3
    subst h1 h3
    exact ⟨h6, h4, h5⟩
set_option maxRecDepth 100000 in
set_option maxHeartbeats 4000000 in
theorem nsplit_any (p : ByteArray) (hm : p.size ≤ 140737488355328) (w : World) :
    Calls Try.prog 54 #[.string p] w fun e w' => e = .returned (splitT (splitP p)) ∧ Below w.heap.size w w' := by
  have HL := Lib.hid (fun W => look_view p hm W)
  have hbd := look_bound p
  have hvr := @view_recs p
  have hrs := @right_sub p
  have HK := Lib.hid (fun W => kind_any p hm W)
  have HLn := Lib.hid (fun W => link_any p hm W)
  have HLs := Lib.hid (fun W => lsn_any p hm W)
  have HBX := Lib.hid (heap_alloc_new w (.cells #[.string ⟨#[]⟩, .int .i64 0, .int .i64 0] 45))
  unfold splitP
  generalize viewP p = V at HL hbd hvr ⊢
  generalize rightP p = ok at HL hvr hrs ⊢
  obtain ⟨lf, rs, l, is⟩ := V
  simp only at HL hbd hvr ⊢
  obtain ⟨hb1, hb2, hb3⟩ := hbd
  have HVR := Lib.hid hvr
  have HRS := Lib.hid hrs
  clear hvr hrs
  generalize hx : leafP p = x at HK HLn HLs HVR HRS ⊢
  clear hx
  cases ok with
  | false =>
    rw [if_pos (.inl rfl)]
    clear hb2 hb3
    go_enter Try.func54, Try.ntmps54
    go_wp2_with (go_at_call 92; refine (HL.out _).mono ?_; rintro e w1 ⟨a1, c1, a2, c2, a3, c3, rfl, h1, h2, h3, hb1⟩; have HB := Lib.hid (below_past hb1); have HXX := Lib.hid (blk_new hb1); obtain ⟨x0, x1, x2, f0, f1, f2⟩ := blkE (blk_new hb1); have hlt1 : w.heap.size < w1.heap.size := (by have h7 := hb1.size; simp at h7; omega); clear h1 h2 h3 hb1)
    refine bodyPost_ret (v := .tuple #[.string ⟨#[]⟩, .string ⟨#[]⟩, .agg #[.string ⟨#[]⟩, .int .i64 0, .int .i64 0], .bool false]) (by simp [results, Try.results54, go_sem, x0, x1, x2, hlt1]) rfl ?_
    refine ⟨rfl, ?_⟩
    refine below_past_alloc ?_
    exact ((HB.out.setCell (Nat.le_refl _) _).setCell (Nat.le_refl _) _).setCell (Nat.le_refl _) _
  | true =>
    by_cases hn : rs.length < 2
    · rw [if_pos (.inr hn)]
      have hn2 : (rs.length : Int) < 2 := by omega
      clear hb2 hb3 hn
      go_enter Try.func54, Try.ntmps54
      go_wp2_with (go_at_call 92; refine (HL.out _).mono ?_; rintro e w1 ⟨a1, c1, a2, c2, a3, c3, rfl, h1, h2, h3, hb1⟩; have HB := Lib.hid (below_past hb1); have HXX := Lib.hid (blk_new hb1); obtain ⟨x0, x1, x2, f0, f1, f2⟩ := blkE (blk_new hb1); have hlt1 : w.heap.size < w1.heap.size := (by have h7 := hb1.size; simp at h7; omega); clear h1 h2 h3 hb1)
      refine bodyPost_ret (v := .tuple #[.string ⟨#[]⟩, .string ⟨#[]⟩, .agg #[.string ⟨#[]⟩, .int .i64 0, .int .i64 0], .bool false]) (by simp [results, Try.results54, go_sem, x0, x1, x2, hlt1]) rfl ?_
      refine ⟨rfl, ?_⟩
      refine below_past_alloc ?_
      exact ((HB.out.setCell (Nat.le_refl _) _).setCell (Nat.le_refl _) _).setCell (Nat.le_refl _) _
    · rw [if_neg (fun h => h.elim (fun h1 => (by cases h1)) hn)]
      obtain ⟨hpg, hrx, -⟩ := HVR.out rfl
      have hsub := HRS.out rfl
      obtain ⟨lsn, kind, link, recs⟩ := x
      simp only at hrx HK HLn HLs ⊢
      subst hrx
      have hfit := hsub.fits
      have hsm : Pg.sumSizes rs ≤ 512 := by unfold Pg.sizeN at hfit; simp only at hfit; omega
      have hn2 : 2 ≤ rs.length := by omega
      have HSB := Lib.hid hsub
      obtain ⟨K, hKe⟩ : ∃ K, K = Nd.splitK rs := ⟨_, rfl⟩
      have hK := Nd.splitK_in hn2
      rw [← hKe] at hK ⊢
      have HKe := Lib.hid hKe
      clear HVR HRS hpg hsub hfit hKe hn hm
      go_enter Try.func54, Try.ntmps54
      go_upto_region 5 with (go_at_call 92; refine (HL.out _).mono ?_; rintro e w1 ⟨a1, c1, a2, c2, a3, c3, rfl, h1, h2, h3, hb1⟩; have HB := Lib.hid (below_past hb1); have H1 := Lib.hid h1; have H2 := Lib.hid h2; have HXX := Lib.hid (blk_new hb1); have hlt1 : w.heap.size < w1.heap.size := (by have h7 := hb1.size; simp at h7; omega); clear h1 h2 h3 hb1)
      obtain ⟨V, hV⟩ : ∃ V, V = w1.alloc (.cells #[.bool lf, .slice a1 rs.length c1, .slice a2 rs.length c2, .slice a3 rs.length c3] 86) := ⟨_, rfl⟩
      have HBV := Lib.hid (show Below w.heap.size w V by rw [hV]; exact below_past_alloc HB.out)
      have HXV := Lib.hid (show V.heap[w.heap.size]? = some (.cells #[.string ⟨#[]⟩, .int .i64 0, .int .i64 0] 45 (0, 0)) by rw [hV, Below.heap_alloc _ _ _ hlt1]; exact HXX.out)
      have HYV := Lib.hid (show V.heap[w1.heap.size]? = some (.cells #[.bool lf, .slice a1 rs.length c1, .slice a2 rs.length c2, .slice a3 rs.length c3] 86 (0, 0)) by rw [hV]; exact heap_alloc_new w1 _)
      have HTV := Lib.hid (show OwnT (w.heap.size + 1) V (.slice a1 rs.length c1) rs by rw [hV]; have := H1.out.alloc (.cells #[.bool lf, .slice a1 rs.length c1, .slice a2 rs.length c2, .slice a3 rs.length c3] 86); simpa [OwnT] using this)
      have HEV := Lib.hid (show OwnEs (w.heap.size + 1) V (.slice a2 rs.length c2) l by rw [hV]; have := H2.out.alloc (.cells #[.bool lf, .slice a1 rs.length c1, .slice a2 rs.length c2, .slice a3 rs.length c3] 86); simpa [OwnEs, hb2] using this)
      obtain ⟨Y, hY⟩ : ∃ Y, Y = w1.heap.size := ⟨_, rfl⟩
      have hwY : w.heap.size < Y := by omega
      rw [← hV]
      rw [← hY] at HYV ⊢
      clear hV hY HXX H1 H2 HB hlt1 HL hb3
      obtain ⟨y0, y1, y2, y3, -, -, -, -⟩ := blk4v HYV.out
      obtain ⟨b, off, rfl, hcap, hbl, hcell⟩ := (ownT_cells HTV.out).1.at0 (by omega)
      have HCE := Lib.hid hcell
      clear hcell
      go_wp2_with fail
      go_loop [9, 34] (fun s i => ∃ k : Nat, k ≤ rs.length ∧ i = .int .i64 k ∧ s = .int .i64 (Pg.sumSizes (rs.take k) : Nat)) (fun _ i => rs.length - (intOf i).toNat)
      case atStart => exact ⟨0, Nat.zero_le _, rfl, rfl⟩
      case round =>
        obtain ⟨k, hk, rfl, rfl⟩ := hrel
        by_cases hlt : k < rs.length
        · have hck := HCE.out k hlt
          have HSN := Lib.hid (Pg.sumSizes_snoc rs k hlt)
          have hs1 := Pg.sumSizes_take_le rs k
          have hs2 := Pg.sumSizes_take_le rs (k + 1)
          rw [HSN.out] at hs2
          generalize Pg.sumSizes (rs.take k) = s0 at HSN hs1 hs2 ⊢
          generalize rs[k] = r at hck HSN hs2
          go_wp2_with fail
          go_round
          case rel => exact ⟨k + 1, by omega, by go_num, by rw [HSN.out]; go_num⟩
          case measure => simp [intOf]; omega
        · obtain rfl : k = rs.length := by omega
          rw [List.take_length]
          have hs0 : Pg.sumSizes (rs.take 1) = (rs[0]'(by omega)).size := by
            have := Pg.sumSizes_snoc rs 0 (by omega)
            simpa [Pg.sumSizes] using this
          have HS0 := Lib.hid hs0
          have hc0 := HCE.out 0 (by omega)
          rw [Nat.add_zero] at hc0
          generalize rs[0]'(by omega) = r0 at hc0 HS0
          clear hs0
          have hi0 : (0 : Int) < (rs.length : Int) := by omega
          go_upto_region 11 with (fail)
          go_quiet (fail)
          obtain ⟨V2, hV2⟩ : ∃ V2, V2 = V.drewN nq := ⟨_, rfl⟩
          have HV2 := Lib.hid (show Below V.heap.size V V2 by rw [hV2]; exact below_drewN _ _)
          obtain ⟨y0, y1, y2, y3, -, -, -, -⟩ := blk4v (blk_old HYV.out HV2.out)
          rw [← hV2]
          clear hV2 hc0
          obtain ⟨s9, hs9⟩ : ∃ s9, s9 = Pg.sumSizes rs := ⟨_, rfl⟩
          rw [← hs9] at hsm ⊢
          have HS9 := Lib.hid hs9
          clear hs9
          go_upto_block 2 with (fail)
          go_cut [12, 13] (fun s12 s13 we => s12 = .int .i64 (K : Nat) ∧ V2 = we)
          case first =>
            go_wp2_with fail
            go_loop [12, 13] (fun s12 s13 => ∃ k : Nat, 1 ≤ k ∧ k < rs.length ∧ s12 = .int .i64 k ∧ s13 = .int .i64 (Pg.sumSizes (rs.take k) : Nat) ∧ Nd.splitGo rs k (rs.length - k) = K) (fun s12 _ => rs.length - (intOf s12).toNat)
            case atStart => exact ⟨1, Nat.le_refl _, by omega, rfl, by rw [HS0.out], by rw [HKe.out]; rfl⟩
            case round =>
              obtain ⟨k, hk1, hk2, rfl, rfl, hg⟩ := hrel
              have HG := Lib.hid hg
              clear hg
              have hs1 := Pg.sumSizes_take_le rs k
              rw [← HS9.out] at hs1
              by_cases h1 : k + 1 < rs.length
              · have hd1 : decide ((k : Int) < (rs.length : Int) - 1) = true := by simp; omega
                by_cases h2 : 2 * Pg.sumSizes (rs.take k) < s9
                · have HG2 := Lib.hid ((Nd.split_go ⟨h1, by rw [← HS9.out]; exact h2⟩).symm.trans HG.out)
                  have HSN := Lib.hid (Pg.sumSizes_snoc rs k hk2)
                  have hck : V2.cell? ⟨b, off + k, none⟩ = some (.string rs[k]) := by rw [HV2.out.cell (p := ⟨b, off + k, none⟩) hbl]; exact HCE.out k hk2
                  have hs2 := Pg.sumSizes_take_le rs (k + 1)
                  rw [HSN.out, ← HS9.out] at hs2
                  have hd2 : decide (2 * ((Pg.sumSizes (rs.take k) : Nat) : Int) < (s9 : Int)) = true := by simp; omega
                  generalize Pg.sumSizes (rs.take k) = s0 at HSN hs1 hs2 h2 hd2 ⊢
                  generalize rs[k] = r at hck HSN hs2
                  go_wp2_with fail
                  go_round
                  case rel => exact ⟨k + 1, by omega, by omega, by go_num, by rw [HSN.out]; go_num, HG2.out⟩
                  case measure => simp [intOf]; omega
                · have HG2 := Lib.hid ((Nd.split_end (fun h => h2 (by rw [HS9.out]; exact h.2))).symm.trans HG.out)
                  have hd2 : decide (2 * ((Pg.sumSizes (rs.take k) : Nat) : Int) < (s9 : Int)) = false := by simp; omega
                  generalize Pg.sumSizes (rs.take k) = s0 at hs1 h2 hd2 ⊢
                  go_wp2_with fail
                  go_meet
                  case rel => exact ⟨by rw [HG2.out], rfl⟩
              · have HG2 := Lib.hid ((Nd.split_end (fun h => h1 h.1)).symm.trans HG.out)
                have hd1 : decide ((k : Int) < (rs.length : Int) - 1) = false := by simp; omega
                generalize Pg.sumSizes (rs.take k) = s0 at hs1 ⊢
                go_wp2_with fail
                go_meet
                case rel => exact ⟨by rw [HG2.out], rfl⟩
          case rest =>
            obtain ⟨rfl, rfl⟩ := hcut
            clear HS0 HKe HS9 hsm y0 y1 y2 y3
            go_upto_region 16 with (first | (go_at_call 19; refine (HK.out _).mono ?_; rintro e w2 ⟨rfl, hb2⟩) | (go_at_call 23; refine (HLn.out _).mono ?_; rintro e w3 ⟨rfl, hb3⟩))
            obtain ⟨hsl, hsl2⟩ : K < l.length ∧ 0 < rs.length := by omega
            obtain ⟨-, hrc, hrm⟩ := ownT_cells HTV.out
            rcases ownEs_form HEV.out with ⟨-, h0⟩ | ⟨g, cap, hv2, hg1, hg2, hg3, hg4, hE⟩
            · rw [h0] at hsl; simp at hsl
            injection hv2 with hv2 hv3 hv4
            subst hv2 hv4
            clear hv3
            have hb23 := andThen HV2.out (andThen hb2 hb3)
            have hS0 : HeldS (w.heap.size + 1) w.heap.size Y g (K * 3) (.slice (some ⟨b, off, none⟩) rs.length c1) (.slice (some ⟨g, 0, none⟩) rs.length c2) l[K] rs w V :=
              ⟨(blk4v HYV.out).2.1, (blk4v HYV.out).2.2.1, by have := (hE K hsl).1; rwa [Nat.zero_add] at this, by have := (hE K hsl).2.1; rwa [Nat.zero_add] at this, by have := (hE K hsl).2.2; rwa [Nat.zero_add] at this,
                cellOf_eq (blkE HXV.out).1, cellOf_eq (blkE HXV.out).2.1, cellOf_eq (blkE HXV.out).2.2.1, (blkE HXV.out).2.2.2.1, (blkE HXV.out).2.2.2.2.1, (blkE HXV.out).2.2.2.2.2,
                ⟨HTV.out, by omega, hg1, hwY, by have := HBV.out.size; have := heap_lt HXV.out; omega, heap_lt HYV.out, hg2, Nat.le_refl _, HBV.out⟩⟩
            have HS0 := Lib.hid ((hS0.step hb23).step (Below.refl _ _).drew)
            have F1 : ∀ W, HeldS (w.heap.size + 1) w.heap.size Y g (K * 3) (.slice (some ⟨b, off, none⟩) rs.length c1) (.slice (some ⟨g, 0, none⟩) rs.length c2) l[K] rs w W →
                Calls Try.prog 96 #[.int .i64 kind, .int .i64 lsn, .int .i64 link, .slice (some ⟨b, off, none⟩) K K] W fun e w' => e = .returned (.string (pageB ⟨lsn, kind, link, rs.take K⟩)) ∧ Below W.heap.size W w' := fun W hW => by
              have hC := (ownT_cells hW.2.2.2.2.2.2.2.2.2.2.2.own).1
              have hlk : (rs.take K).length = K := by rw [List.length_take]; omega
              have h1 := filled_any ⟨lsn, kind, link, rs.take K⟩ (HSB.out.take K) (some ⟨b, off, none⟩) K W ((hC.take K (by omega)).cap (by omega))
              simp only [hlk] at h1
              exact h1
            have F2 : ∀ W, HeldS (w.heap.size + 1) w.heap.size Y g (K * 3) (.slice (some ⟨b, off, none⟩) rs.length c1) (.slice (some ⟨g, 0, none⟩) rs.length c2) l[K] rs w W →
                Calls Try.prog 96 #[.int .i64 kind, .int .i64 0, .int .i64 link, .slice (some ⟨b, off + K, none⟩) (rs.length - K) (c1 - K)] W fun e w' => e = .returned (.string (pageB ⟨0, kind, link, rs.drop K⟩)) ∧ Below W.heap.size W w' := fun W hW => by
              have hC := (ownT_cells hW.2.2.2.2.2.2.2.2.2.2.2.own).1
              have h1 := filled_any ⟨0, kind, link, rs.drop K⟩ (HSB.out.drop K) (some ⟨b, off + K, none⟩) (c1 - K) W (hC.drop K)
              simp only [List.length_drop] at h1
              exact h1
            have HF1 := Lib.hid F1
            have HF2 := Lib.hid F2
            have HeK : Hid ((l[K]?).getD Nd.zero = l[K]) := by show (l[K]?).getD Nd.zero = l[K]; rw [List.getElem?_eq_getElem hsl]; rfl
            have hi1 : (0 : Int) ≤ (K : Int) := by omega
            have hi2 : (K : Int) ≤ (c1 : Int) := by omega
            have hi3 : (K : Int) ≤ (rs.length : Int) := by omega
            have hi4 : (K : Int) < (rs.length : Int) := by omega
            have hi5 : ¬ c1 - K = 0 := by omega
            clear hE hS0 F1 F2 hb23
            have hsv : splitV ⟨lsn, kind, link, rs⟩ l K = (pageB ⟨lsn, kind, link, rs.take K⟩, pageB ⟨0, kind, link, rs.drop K⟩, l[K], true) := by unfold splitV; rw [HeK.out]
            have HSV := Lib.hid hsv
            generalize pageB ⟨lsn, kind, link, rs.take K⟩ = P1 at HF1 HSV
            generalize pageB ⟨0, kind, link, rs.drop K⟩ = P2 at HF2 HSV
            clear HeK hsv
            generalize l[K] = ee at HS0 HF1 HF2 HSV
            obtain ⟨ek, ep, es⟩ := ee
            clear HEV HTV HXV HYV HSB HCE hb2 hb3 HK HLn hrm HBX hk hlt hg4 hbl hg1 hg2 hsl2 hcap hrc
            clear hb2
            go_region_held3 (fun we => HeldS (w.heap.size + 1) w.heap.size Y g (K * 3) (.slice (some ⟨b, off, none⟩) rs.length c1) (.slice (some ⟨g, 0, none⟩) rs.length c2) ⟨ek, ep, es⟩ rs w we) (first | assumption | exact HS0.out | exact ((hS2.set 0 _).set 1 _).set 2 _ | go_keep) (first
              | (go_at_call 21; refine (HLs.out _).mono ?_; rintro e w4 ⟨rfl, hb4⟩; have hSS := HS0.out.step hb4)
              | (go_at_call 96; ((with_reducible refine (HF1.out _ hSS).mono ?_); rintro e w5 ⟨rfl, hb5⟩; have hS1 := hSS.step hb5))
              | (go_at_call 96; ((with_reducible refine (HF2.out _ hS1).mono ?_); rintro e w6 ⟨rfl, hb6⟩; have hS2 := hS1.step hb6)))
            have hT := hS2.2.2.2.2.2.2.2.2.2.2.2
            have x0 := hS2.2.2.2.2.2.1
            have x1 := hS2.2.2.2.2.2.2.1
            have x2 := hS2.2.2.2.2.2.2.2.1
            have HBW := Lib.hid hT.bw
            clear hT hSS hS1 hS2
            go_wp2_with fail
            refine bodyPost_ret (v := .tuple #[.string P1, .string P2, .agg #[.string ek, .int .i64 ep, .int .i64 es], .bool true]) (by simp [results, Try.results54, go_sem, x0, x1, x2]) rfl ?_
            refine ⟨by rw [HSV.out], ?_⟩
            exact ((HBW.out.setCell (Nat.le_refl _) _).setCell (Nat.le_refl _) _).setCell (Nat.le_refl _) _
end Go.Proofs.Ytgbihdlahghonaa
/- The walk over the laws' leaf of keys. -/
namespace Go.Proofs.Ytgbihdlahghonaa
open Go.RowKit

/-- Keys as entries. -/
def keyE (k : ByteArray) : Nd.Entry := ⟨k, 0, 0⟩
def keysX (ks : List ByteArray) : Pg.Leaf := ⟨0, 3, 0, ks.map fun k => Nd.putE (keyE k)⟩
set_option maxRecDepth 100000 in
set_option maxHeartbeats 2000000 in
theorem leaf_any (ks : List ByteArray) (hx : Sub (keysX ks)) (A : Option Addr) (c : Nat) (w : World) (h : Cells w A c ks) :
    Calls Try.prog 100 #[.slice A ks.length c] w fun e w' => e = .returned (.string (pageB (keysX ks))) ∧ Below w.heap.size w w' := by
  have HC := Lib.hid h
  have HN := Lib.hid (fun W => new_any 3 W)
  have e0 : newB 3 = upTo (keysX ks) 0 := by
    obtain ⟨_, _, e0⟩ := upTo_zero hx
    exact e0
  rw [e0] at HN
  have hrl : (keysX ks).recs.length = ks.length := by simp [keysX]
  have hrk : ∀ k (hk : k < ks.length), (keysX ks).recs[k]'(by omega) = Nd.putE (keyE ks[k]) := fun k hk => by simp [keysX]
  have hp : ∀ k (hk : k < ks.length) W, Calls Try.prog 35 #[.string (upTo (keysX ks) k), .int .i64 k, .string (Nd.putE (keyE ks[k]))] W fun e w' => e = .returned (outV (upTo (keysX ks) (k + 1), 0)) ∧ Below W.heap.size W w' := fun k hk W => by
    have h := pput_any (upTo (keysX ks) k) k ((keysX ks).recs[k]'(by omega)) (by rw [upTo_size hx]; omega) W
    rw [upTo_succ hx (show k < (keysX ks).recs.length by omega), hrk k hk] at h
    exact h
  have HP := Lib.hid hp
  clear hp
  have HE := Lib.hid (fun k W => putentry_any (keyE k) W)
  have hall := upTo_all (keysX ks)
  rw [hrl] at hall
  have HA := Lib.hid hall
  have hlen := hx.len
  rw [hrl] at hlen
  clear h e0 hall hrl hrk
  generalize upTo (keysX ks) = f at HN HP HA
  obtain ⟨P, hP⟩ : ∃ P, P = pageB (keysX ks) := ⟨_, rfl⟩
  rw [← hP] at HA ⊢
  clear hP hx
  unfold keyE at HP HE
  go_enter Try.func100, Try.ntmps100
  go_wp2_with (go_at_call 37; refine (HN.out _).mono ?_; rintro e w1 ⟨rfl, hb1⟩)
  have HB := Lib.hid hb1
  clear hb1
  go_loopw [3, 4] (fun p i wr => ∃ k : Nat, k ≤ ks.length ∧ i = .int .i64 k ∧ p = .string (f k) ∧ Below w.heap.size w wr) (fun _ i _ => ks.length - (intOf i).toNat)
  case atStart => exact ⟨0, Nat.zero_le _, rfl, rfl, HB.out⟩
  case round =>
    obtain ⟨k, hk, rfl, rfl, hb⟩ := hrel
    by_cases hlt : k < ks.length
    · obtain ⟨b, off, rfl, hc, hbl, hcell⟩ := (HC.out.below hb).at_ hlt
      have HPk := Lib.hid (fun W => HP.out k hlt W)
      generalize ks[k] = r at hcell HPk
      have HEk := Lib.hid (fun W => HE.out r W)
      go_wp2_with (first | (go_at_call 71; refine (HEk.out _).mono ?_; rintro e w3 ⟨rfl, hb3⟩) | (go_at_call 35; refine (HPk.out _).mono ?_; rintro e w4 ⟨rfl, hb4⟩; unfold outV))
      go_roundw
      case rel => exact ⟨k + 1, by omega, by go_num, rfl, andThen (andThen hb hb3) hb4⟩
      case measure => simp [intOf]; omega
    · obtain rfl : k = ks.length := by omega
      go_wp2_with fail
      go_ret
      exact ⟨by rw [← HA.out]; rfl, hb⟩
end Go.Proofs.Ytgbihdlahghonaa
/- The plain mathematics of a tree's pages: bytes of entries, back again. -/
namespace Nd
open Oct

theorem word_int {n : Int} (h0 : 0 ≤ n) (h : n < 18446744073709551616) : word n = n.toNat := by unfold word; omega
theorem putB3 (n : Int) : (putB n 3).data.toList = putL (word n) 3 := putB_list n 3 (by omega)
theorem putB2 (n : Int) : (putB n 2).data.toList = putL (word n) 2 := putB_list n 2 (by omega)
theorem putE_list {e : Entry} (h : mayE e = true) : (putE e).data.toList = putL e.page.toNat 3 ++ (putL e.slot.toNat 2 ++ e.key.data.toList) := by
  unfold mayE at h
  have h' := of_decide_eq_true h
  unfold putE
  rw [if_pos (by unfold mayE; exact h)]
  rw [ByteArray.data_append, ByteArray.data_append, Array.toList_append, Array.toList_append, putB3, putB2, word_int (by omega) (by omega), word_int (by omega) (by omega), List.append_assoc]
theorem list_size (p : ByteArray) : p.data.toList.length = p.size := by simp
theorem putE_size {e : Entry} (h : mayE e = true) : (putE e).size = 5 + e.key.size := by
  rw [← list_size, putE_list h, List.length_append, List.length_append, putL_length, putL_length, list_size]; omega
theorem ext_list {a b : ByteArray} (h : a.data.toList = b.data.toList) : a = b := ByteArray.ext (Array.toList_inj.1 h)
theorem extract_drop (p : ByteArray) (k : Nat) : (p.extract k p.size).data.toList = p.data.toList.drop k := by
  rw [ByteArray.data_extract, Array.toList_extract]
  rw [List.extract_eq_take_drop]
  apply List.take_of_length_le
  rw [List.length_drop, list_size]
  exact Nat.le_refl _
theorem getE_putE {e : Entry} (h : mayE e = true) : getE (putE e) = some e := by
  have hs := putE_size h
  have hl := putE_list h
  have h' := of_decide_eq_true (show decide _ = true from h)
  unfold getE
  rw [if_neg (by omega)]
  have h1 : getN (putE e).data.toList 0 3 = e.page.toNat := by
    rw [hl]
    unfold getN
    rw [List.drop_zero, List.take_left' (putL_length _ _), getL_putL]
    exact Nat.mod_eq_of_lt (by omega)
  have h2 : getN (putE e).data.toList 3 2 = e.slot.toNat := by
    rw [hl]
    unfold getN
    rw [List.drop_left' (putL_length _ _), List.take_left' (putL_length _ _), getL_putL]
    exact Nat.mod_eq_of_lt (by omega)
  have h3 : (putE e).extract 5 (putE e).size = e.key := by
    apply ext_list
    rw [extract_drop, hl, ← List.append_assoc, List.drop_left' (by rw [List.length_append, putL_length, putL_length])]
  rw [h1, h2, h3]
  congr 1
  cases e
  simp only [Entry.mk.injEq]
  simp only at h'
  exact ⟨trivial, by omega, by omega⟩
theorem putE_none {e : Entry} (h : mayE e = false) : putE e = ⟨#[]⟩ := by unfold putE; rw [if_neg (by rw [h]; simp)]
theorem putC_yes {e : Entry} {n : Int} (h : mayE e = true) (h0 : 0 ≤ n) (hn : n < 16777216) : putC e n = putB n 3 ++ putE e := by unfold putC; rw [if_pos ⟨h, h0, hn⟩]
theorem getC_putC {e : Entry} {n : Int} (h : mayE e = true) (h0 : 0 ≤ n) (hn : n < 16777216) : getC (putC e n) = some (e, n) := by
  have hl : (putC e n).data.toList = putL n.toNat 3 ++ (putE e).data.toList := by
    rw [putC_yes h h0 hn, ByteArray.data_append, Array.toList_append, putB3, word_int h0 (by omega)]
  have hs : (putC e n).size = 3 + (putE e).size := by
    rw [← list_size, hl, List.length_append, putL_length, list_size]
  unfold getC
  rw [if_neg (by omega)]
  have h1 : getN (putC e n).data.toList 0 3 = n.toNat := by
    rw [hl]
    unfold getN
    rw [List.drop_zero, List.take_left' (putL_length _ _), getL_putL]
    exact Nat.mod_eq_of_lt (by omega)
  have h3 : (putC e n).extract 3 (putC e n).size = putE e := by
    apply ext_list
    rw [extract_drop, hl, List.drop_left' (putL_length _ _)]
  rw [h1, h3, getE_putE h]
  simp only [Option.map_some]
  congr 2
  omega
/-- A leaf's records of entries. -/
theorem decN_leaf (es : List Entry) (h : ∀ e ∈ es, mayE e = true) : ∀ k, k ≤ es.length → decN true (es.map putE) k = some ((es.take k).map fun e => (e, 0)) := by
  intro k
  induction k with
  | zero => intro _; rfl
  | succ k ih =>
    intro hk
    have hk' : k < es.length := by omega
    simp only [decN, ih (by omega)]
    rw [List.getElem?_map, List.getElem?_eq_getElem hk']
    simp only [Option.map_some, Option.getD_some]
    unfold decR
    rw [if_pos rfl, getE_putE (h _ (List.getElem_mem hk'))]
    simp only [Option.map_some]
    rw [List.take_succ_eq_append_getElem hk', List.map_append]
    rfl
theorem lookL_leaf (es : List Entry) (h : ∀ e ∈ es, mayE e = true) (hr : rises es = true) : lookL true (es.map putE) = some ⟨true, es.map putE, es, es.map fun _ => 0⟩ := by
  have hd := decN_leaf es h es.length (Nat.le_refl _)
  rw [List.take_length] at hd
  have hd2 : decN true (es.map putE) (es.map putE).length = some (es.map fun e => (e, 0)) := by rw [List.length_map]; exact hd
  rw [lookL_some hd2, if_neg (by simp)]
  have e1 : riseOf true (es.map fun e => (e, (0 : Int))) = es := by unfold riseOf; simp [List.map_map, Function.comp_def]
  rw [e1, if_pos hr]
  unfold viewOf
  simp [List.map_map, Function.comp_def]
end Nd
/- The walk over the laws' example. -/
namespace Go.Proofs.Ytgbihdlahghonaa
open Go.RowKit

/-- A leaf's page of entries. -/
theorem page_view {x : Pg.Leaf} (h : Sub x) (hk : x.kind = 3) (es : List Nd.Entry) (hr : x.recs = es.map Nd.putE) (hm : ∀ e ∈ es, Nd.mayE e = true) (hs : Nd.rises es = true) :
    rightP (pageB x) = true ∧ viewP (pageB x) = ⟨true, x.recs, es, es.map fun _ => 0⟩ := by
  obtain ⟨h1, h2, _⟩ := h.page
  have hl : lookP (pageB x) = some ⟨true, x.recs, es, es.map fun _ => 0⟩ := by
    unfold lookP
    rw [if_pos h1, h2]
    unfold Nd.lookR
    rw [if_pos hk, hr, Nd.lookL_leaf es hm hs]
  unfold rightP viewP
  rw [hl]
  exact ⟨rfl, rfl⟩
abbrev ka : ByteArray := ⟨#[97]⟩
abbrev kc : ByteArray := ⟨#[99]⟩
abbrev kd : ByteArray := ⟨#[100]⟩
abbrev ke : ByteArray := ⟨#[101]⟩
def K3 : List ByteArray := [ka, kc, ke]
theorem may_key {k : ByteArray} (h : k.size ≤ 100) : Nd.mayE (keyE k) = true := by
  unfold Nd.mayE keyE
  apply decide_eq_true
  exact ⟨h, Int.le_refl 0, (by show (0 : Int) < 16777216; decide), Int.le_refl 0, (by show (0 : Int) < 65536; decide)⟩
theorem k3_small : ∀ k ∈ K3, k.size = 1 := by
  intro k hk
  unfold K3 at hk
  simp only [List.mem_cons, List.not_mem_nil, or_false] at hk
  rcases hk with rfl | rfl | rfl <;> rfl
theorem rec_size {k : ByteArray} (h : k.size = 1) : (Nd.putE (keyE k)).size = 6 := by
  rw [Nd.putE_size (may_key (by omega))]
  show 5 + k.size = 6
  omega
theorem sub3 : Sub (keysX K3) := by
  refine ⟨⟨by decide, by decide, by decide⟩, fun r hr => ?_, ?_⟩
  · unfold keysX at hr
    rw [List.mem_map] at hr
    obtain ⟨k, hk, rfl⟩ := hr
    rw [rec_size (k3_small k hk)]
    decide
  · unfold keysX K3 Pg.sizeN
    simp only [List.map_cons, List.map_nil, Pg.sumSizes, List.length_cons, List.length_nil]
    rw [rec_size rfl, rec_size rfl, rec_size rfl]
    decide
theorem keys_map (ks : List ByteArray) : (keysX ks).recs = (ks.map keyE).map Nd.putE := by
  unfold keysX; rw [List.map_map]; rfl
theorem view3 : rightP (pageB (keysX K3)) = true ∧ viewP (pageB (keysX K3)) = ⟨true, (keysX K3).recs, K3.map keyE, (K3.map keyE).map fun _ => 0⟩ :=
  page_view sub3 rfl (K3.map keyE) (keys_map K3) (fun e he => by
    obtain ⟨k, hk, rfl⟩ := List.mem_map.1 he
    exact may_key (by rw [k3_small k hk]; omega)) (by decide +kernel)
theorem find3 (k : ByteArray) : findP (pageB (keysX K3)) (keyE k) = (((Nd.placeE (K3.map keyE) (keyE k) : Nat) : Int), Nd.foundE (K3.map keyE) (keyE k)) := by
  unfold findP Nd.findV
  rw [view3.1, view3.2]
  rfl
theorem find_c : findP (pageB (keysX K3)) (keyE kc) = (1, true) := by rw [find3]; decide +kernel
theorem find_d : findP (pageB (keysX K3)) (keyE kd) = (2, false) := by rw [find3]; decide +kernel
theorem split_k3 : Nd.splitK (keysX K3).recs = 2 := by
  have h1 : (keysX K3).recs.length = 3 := rfl
  have e : (keysX K3).recs = [Nd.putE (keyE ka), Nd.putE (keyE kc), Nd.putE (keyE ke)] := rfl
  have s1 : Pg.sumSizes ((keysX K3).recs.take 1) = 6 := by
    rw [e]; show (Nd.putE (keyE ka)).size + 0 = 6; rw [rec_size rfl]
  have s3 : Pg.sumSizes (keysX K3).recs = 18 := by
    rw [e]; show (Nd.putE (keyE ka)).size + ((Nd.putE (keyE kc)).size + ((Nd.putE (keyE ke)).size + 0)) = 18; rw [rec_size rfl, rec_size rfl, rec_size rfl]
  unfold Nd.splitK
  rw [h1]
  show Nd.splitGo _ 1 2 = 2
  rw [Nd.splitGo, if_pos ⟨by rw [h1]; omega, by rw [s1, s3]; omega⟩, Nd.splitGo, if_neg (by rw [h1]; omega)]
theorem split3 : splitP (pageB (keysX K3)) = (pageB { keysX K3 with recs := (keysX K3).recs.take 2 }, pageB { keysX K3 with lsn := 0, recs := (keysX K3).recs.drop 2 }, keyE ke, true) := by
  unfold splitP
  rw [view3.1, view3.2, if_neg (by rw [show (keysX K3).recs.length = 3 from rfl]; simp)]
  simp only
  rw [split_k3, sub3.page.2.1]
  rfl
theorem view_take : (viewP (pageB { keysX K3 with recs := (keysX K3).recs.take 2 })).ents.length = 2 := by
  rw [(page_view (sub3.take 2) rfl ((K3.map keyE).take 2) (by simp only [keys_map, List.map_take]) (fun e he => by
    obtain ⟨k, hk, rfl⟩ := List.mem_map.1 (List.mem_of_mem_take he)
    exact may_key (by rw [k3_small k hk]; omega)) (by decide +kernel)).2]
  rfl
theorem view_drop : (viewP (pageB { keysX K3 with lsn := 0, recs := (keysX K3).recs.drop 2 })).ents.length = 1 := by
  rw [(page_view (sub3.drop 2) rfl ((K3.map keyE).drop 2) (by simp only [keys_map, List.map_drop]) (fun e he => by
    obtain ⟨k, hk, rfl⟩ := List.mem_map.1 (List.mem_of_mem_drop he)
    exact may_key (by rw [k3_small k hk]; omega)) (by decide +kernel)).2]
  rfl
theorem kids3 : kidsP (pageB (keysX K3)) = [] := by
  unfold kidsP
  rw [view3.1, view3.2, if_neg (by simp)]
theorem put_k : Nd.putE ⟨⟨#[107]⟩, 9, 2⟩ = ⟨#[0, 0, 9, 0, 2, 107]⟩ := by
  apply Nd.ext_list
  rw [Nd.putE_list (by decide +kernel)]
  decide +kernel
theorem entries_len {l : List Nd.Entry} {n : Nat} (h : l.length = n) {f : Nat} {args : Array Value} {W : World} (k : Calls Try.prog f args W fun e w' => ∃ v, e = .returned v ∧ OwnEs W.heap.size w' v l ∧ Below W.heap.size W w') :
    Calls Try.prog f args W fun e w' => ∃ a c, e = .returned (.slice a n c) ∧ Below W.heap.size W w' :=
  k.mono fun e w' ⟨v, he, ho, hb⟩ => by
    obtain ⟨a, c, hv⟩ := own_len ho
    exact ⟨a, c, by rw [he, hv, h], hb⟩
theorem kids_len {l : List Int} {n : Nat} (h : l.length = n) {f : Nat} {args : Array Value} {W : World} (k : Calls Try.prog f args W fun e w' => ∃ v, e = .returned v ∧ OwnIs W.heap.size w' v l ∧ Below W.heap.size W w') :
    Calls Try.prog f args W fun e w' => ∃ a c, e = .returned (.slice a n c) ∧ Below W.heap.size W w' :=
  k.mono fun e w' ⟨v, he, ho, hb⟩ => by
    obtain ⟨a, c, hv⟩ := own_len ho
    exact ⟨a, c, by rw [he, hv, h], hb⟩
set_option maxRecDepth 100000 in
set_option maxHeartbeats 4000000 in
theorem nawake_any (w : World) :
    Calls Try.prog 56 #[] w fun e w' => e = .returned (.bool true) ∧ Below w.heap.size w w' := by
  have z3 : (pageB (keysX K3)).size = 512 := sub3.page.2.2
  have HLf := Lib.hid (fun A c W h => leaf_any K3 sub3 A c W h)
  have HF1 := Lib.hid (fun W => find_c ▸ nfind_any (pageB (keysX K3)) (keyE kc) (by omega) W)
  have HF2 := Lib.hid (fun W => find_d ▸ nfind_any (pageB (keysX K3)) (keyE kd) (by omega) W)
  have HSp := Lib.hid (fun W => split3 ▸ nsplit_any (pageB (keysX K3)) (by omega) W)
  have HR := Lib.hid (fun W => view3.1 ▸ nright_any (pageB (keysX K3)) (by omega) W)
  have HC := Lib.hid (fun W => kids_len (congrArg List.length kids3) (nchildren_any (pageB (keysX K3)) (by omega) W))
  have HPE := Lib.hid (fun W => put_k ▸ putentry_any ⟨⟨#[107]⟩, 9, 2⟩ W)
  have h4 := view_take
  have h5 := view_drop
  have z4 : (pageB { keysX K3 with recs := (keysX K3).recs.take 2 }).size = 512 := (sub3.take 2).page.2.2
  have z5 : (pageB { keysX K3 with lsn := 0, recs := (keysX K3).recs.drop 2 }).size = 512 := (sub3.drop 2).page.2.2
  have HE4 := Lib.hid (fun W => entries_len h4 (nentries_any (pageB { keysX K3 with recs := (keysX K3).recs.take 2 }) (by omega) W))
  have HE5 := Lib.hid (fun W => entries_len h5 (nentries_any (pageB { keysX K3 with lsn := 0, recs := (keysX K3).recs.drop 2 }) (by omega) W))
  generalize pageB { keysX K3 with recs := (keysX K3).recs.take 2 } = P4 at HE4 HSp
  generalize pageB { keysX K3 with lsn := 0, recs := (keysX K3).recs.drop 2 } = P5 at HE5 HSp
  generalize pageB (keysX K3) = P3 at HLf HF1 HF2 HSp HR HC
  have HCl := Lib.hid (show Cells (w.alloc (.cells #[.string ⟨#[97]⟩, .string ⟨#[99]⟩, .string ⟨#[101]⟩] 9)) (some ⟨w.heap.size, 0, none⟩) 3 K3 from fun _ => ⟨w.heap.size, 0, rfl, Nat.le_refl _, by simp, fun j hj => by
    rw [cell_of_blk (heap_alloc_new w _), Nat.zero_add]
    have hj3 : j = 0 ∨ j = 1 ∨ j = 2 := by have : K3.length = 3 := rfl; omega
    rcases hj3 with rfl | rfl | rfl <;> rfl⟩)
  have HL3 := Lib.hid (HLf.out _ _ _ HCl.out)
  clear HLf HCl z3 z4 z5
  unfold keyE at HF1 HF2 HSp
  unfold splitT entV at HSp
  simp only at HSp
  clear h4 h5
  go_enter Try.func56, Try.ntmps56
  go_wp2_with (first
    | (go_at_call 100; refine HL3.out.mono ?_; rintro e w1 ⟨rfl, hb1⟩; have HB1 := Lib.hid (below_past hb1); clear hb1)
    | (go_at_call 52; ((with_reducible refine (HF1.out _).mono ?_); rintro e w2 ⟨rfl, hb2⟩; have HB2 := Lib.hid (andThen HB1.out hb2); clear hb2))
    | (go_at_call 52; ((with_reducible refine (HF2.out _).mono ?_); rintro e w3 ⟨rfl, hb3⟩; have HB3 := Lib.hid (andThen HB2.out hb3); clear hb3))
    | (go_at_call 54; refine (HSp.out _).mono ?_; rintro e w4 ⟨rfl, hb4⟩; have HB4 := Lib.hid (andThen HB3.out hb4); clear hb4)
    | (go_at_call 71; refine (HPE.out _).mono ?_; rintro e w5 ⟨rfl, hb5⟩; have HB5 := Lib.hid (below_past hb5); have HX5 := Lib.hid (blk_new hb5); clear hb5)
    | (go_at_call 57; refine (HR.out _).mono ?_; rintro e w6 ⟨rfl, hb6⟩; have HB6 := Lib.hid (andThen (andThen HB4.out HB5.out) hb6); obtain ⟨x0, x1, x2, -, -, -⟩ := blkE (blk_old HX5.out hb6); clear hb6)
    | (go_at_call 60; ((with_reducible refine (HE4.out _).mono ?_); rintro e w7 ⟨a7, c7, rfl, hb7⟩))
    | (go_at_call 60; ((with_reducible refine (HE5.out _).mono ?_); rintro e w8 ⟨a8, c8, rfl, hb8⟩))
    | (go_at_call 63; refine (HC.out _).mono ?_; rintro e w9 ⟨a9, c9, rfl, hb9⟩))
  go_ret
  exact ⟨rfl, andThen (andThen (andThen HB6.out hb7) hb8) hb9⟩
end Go.Proofs.Ytgbihdlahghonaa
/- Two entries, level or not, as the model compares structs. -/
namespace Nd
/-- Are two entries the same? -/
def eqE (a b : Entry) : Bool := decide (a.key = b.key) && ((a.page == b.page) && (a.slot == b.slot))
theorem eqE_iff (a b : Entry) : eqE a b = true ↔ a = b := by
  unfold eqE
  rw [Bool.and_eq_true, Bool.and_eq_true, decide_eq_true_iff, beq_iff_eq, beq_iff_eq]
  constructor
  · rintro ⟨h1, h2, h3⟩; exact Entry.ext' h1 h2 h3
  · rintro rfl; exact ⟨rfl, rfl, rfl⟩
theorem eqE_self (a : Entry) : eqE a a = true := (eqE_iff a a).2 rfl
theorem eqE_ord (a b : Entry) : eqE a b = (ordE a b == 0) := by
  rw [Bool.eq_iff_iff, eqE_iff, beq_iff_eq, ord_eq]
end Nd
namespace Go.Proofs.Ytgbihdlahghonaa
open Go.RowKit

theorem entry_equal (a b : Nd.Entry) (w : World) : (Op.equalIn 10000 45 (entV a) (entV b)).run Try.prog w = .ok (Nd.eqE a b) w := by
  obtain ⟨k1, p1, s1⟩ := a
  obtain ⟨k2, p2, s2⟩ := b
  have hS : Try.prog.underlying 45 = some (.struct (Try.prog.fieldsOf 45)) := by kernel_rfl
  have hp : Try.prog.stoodInHeld 45 = false := by kernel_rfl
  have hS2 : Try.prog.underlying 43 = some (.struct (Try.prog.fieldsOf 43)) := by kernel_rfl
  have hp2 : Try.prog.stoodInHeld 43 = false := by kernel_rfl
  have hin : ∀ W : World, (Op.equalIn 9999 43 (.agg #[.int .i64 p1, .int .i64 s1]) (.agg #[.int .i64 p2, .int .i64 s2])).run Try.prog W = .ok ((p1 == p2) && (s1 == s2)) W := fun W => by
    rw [show (9999 : Nat) = 9998 + 1 from rfl, run_equalIn_agg W 9998 43 _ _ hS2 hp2]
    simp only [Program.fieldsOf, Try.underlying43]
    go_simp
    by_cases h1 : p1 = p2 <;> by_cases h2 : s1 = s2 <;> simp [h1, h2]
  rw [show (10000 : Nat) = 9999 + 1 from rfl, run_equalIn_agg w 9999 45 _ _ hS hp]
  simp only [Program.fieldsOf, Try.underlying45]
  go_simp
  have hk : k1.toList = k2.toList ↔ k1 = k2 := by
    rw [ByteArray.toList_eq, ByteArray.toList_eq]
    exact ⟨fun h => ByteArray.ext (Array.toList_inj.1 h), fun h => by rw [h]⟩
  unfold Nd.eqE
  simp only
  by_cases h0 : k1 = k2
  · rw [if_pos (hk.2 h0)]
    by_cases h1 : p1 = p2 <;> by_cases h2 : s1 = s2 <;> simp [h0, h1, h2]
  · rw [if_neg (fun h => h0 (hk.1 h))]
    simp [h0]
end Go.Proofs.Ytgbihdlahghonaa
/- The walk of NodeSays. -/
namespace Nd
/-- What reading bytes gives. -/
def gE (s : ByteArray) : Entry × Bool := match getE s with
  | some e => (e, true)
  | none => (zero, false)
def gC (s : ByteArray) : Entry × Int × Bool := match getC s with
  | some (e, n) => (e, n, true)
  | none => (zero, 0, false)
end Nd
namespace Go.Proofs.Ytgbihdlahghonaa
open Go.RowKit

theorem getEV_eq (s : ByteArray) : getEV (Nd.getE s) = .tuple #[entV (Nd.gE s).1, .bool (Nd.gE s).2] := by
  unfold getEV Nd.gE
  cases Nd.getE s <;> rfl
theorem getCV_eq (s : ByteArray) : getCV (Nd.getC s) = .tuple #[entV (Nd.gC s).1, .int .i64 (Nd.gC s).2.1, .bool (Nd.gC s).2.2] := by
  unfold getCV Nd.gC
  cases Nd.getC s <;> rfl
/-- A box with an entry. -/
abbrev EntAt (u : World) (X : Nat) (e : Nd.Entry) : Prop := u.cell? ⟨X, 0, none⟩ = some (.string e.key) ∧ u.cell? ⟨X, 1, none⟩ = some (.int .i64 e.page) ∧ u.cell? ⟨X, 2, none⟩ = some (.int .i64 e.slot)
theorem EntAt.step {u v : World} {X : Nat} {e : Nd.Entry} (h : EntAt u X e) (hX : X < u.heap.size) (hb : Below u.heap.size u v) : EntAt v X e :=
  ⟨(hb.cell (p := ⟨X, 0, none⟩) hX).trans h.1, (hb.cell (p := ⟨X, 1, none⟩) hX).trans h.2.1, (hb.cell (p := ⟨X, 2, none⟩) hX).trans h.2.2⟩
theorem entAt_blk {u : World} {X : Nat} {e : Nd.Entry} {T : TypeId} (h : u.heap[X]? = some (.cells #[.string e.key, .int .i64 e.page, .int .i64 e.slot] T (0, 0))) : EntAt u X e :=
  ⟨(blkE h).1, (blkE h).2.1, (blkE h).2.2.1⟩
structure Side6 (A B C D E F : Nat) (w0 u : World) : Prop where
  a : A < u.heap.size
  b : B < u.heap.size
  c : C < u.heap.size
  d : D < u.heap.size
  e : E < u.heap.size
  f : F < u.heap.size
  bw : Below w0.heap.size w0 u
abbrev Held6 (A B C D E F : Nat) (a b x y : Nd.Entry) (w0 u : World) : Prop := EntAt u A a ∧ EntAt u B b ∧ EntAt u C x ∧ EntAt u D x ∧ EntAt u E y ∧ EntAt u F y ∧ Side6 A B C D E F w0 u
theorem Held6.step {A B C D E F : Nat} {a b x y : Nd.Entry} {w0 u v : World} (h : Held6 A B C D E F a b x y w0 u) (hb : Below u.heap.size u v) : Held6 A B C D E F a b x y w0 v := by
  obtain ⟨h1, h2, h3, h4, h5, h6, t⟩ := h
  have hs := hb.size
  exact ⟨h1.step t.a hb, h2.step t.b hb, h3.step t.c hb, h4.step t.d hb, h5.step t.e hb, h6.step t.f hb, ⟨Nat.lt_of_lt_of_le t.a hs, Nat.lt_of_lt_of_le t.b hs, Nat.lt_of_lt_of_le t.c hs, Nat.lt_of_lt_of_le t.d hs, Nat.lt_of_lt_of_le t.e hs, Nat.lt_of_lt_of_le t.f hs, andThen t.bw hb⟩⟩
theorem below_of {w w1 w2 : World} (h : Below w.heap.size w w1) (h2 : Below w1.heap.size w1 w2) : Below w.heap.size w w2 := andThen h h2

set_option maxRecDepth 100000 in
set_option maxHeartbeats 8000000 in
theorem says_any (a b : Nd.Entry) (child : Int) (s : ByteArray) (ha : a.key.size ≤ 140737488355328) (hb : b.key.size ≤ 140737488355328) (hs : s.size ≤ 140737488355328) (w : World) :
    Calls Try.prog 12 #[entV a, entV b, .int .i64 child, .string s] w fun e w' => e = .returned (.bool true) ∧ Below w.heap.size w w' := by
  have HW := Lib.hid (fun W => nawake_any W)
  have HL := Lib.hid (fun W => less_any a b W)
  have HRL := Lib.hid (fun W => rless_any a b ha hb W)
  have HP := Lib.hid (fun W => putentry_any a W)
  have HRP := Lib.hid (fun W => rputentry_any a W)
  have HC := Lib.hid (fun W => putchild_any a child W)
  have HRC := Lib.hid (fun W => rputchild_any a child W)
  have HG := Lib.hid (fun W => getEV_eq s ▸ getentry_any s hs W)
  have HRG := Lib.hid (fun W => getEV_eq s ▸ rgetentry_any s hs W)
  have HK := Lib.hid (fun W => getCV_eq s ▸ getchild_any s hs W)
  have HRK := Lib.hid (fun W => getCV_eq s ▸ rgetchild_any s hs W)
  have HAB := Lib.hid (held2_of w a b 45)
  generalize Nd.lessE a b = l at HL HRL
  generalize Nd.putE a = P at HP HRP
  generalize Nd.putC a child = Q at HC HRC
  generalize Nd.gE s = gx at HG HRG
  generalize Nd.gC s = gy at HK HRK
  obtain ⟨x, xo⟩ := gx
  obtain ⟨y, yn, yo⟩ := gy
  have hex := fun W => (entry_equal x x W).trans (by rw [Nd.eqE_self])
  have hey := fun W => (entry_equal y y W).trans (by rw [Nd.eqE_self])
  simp only at HG HRG HK HRK
  obtain ⟨ak, ap, as_⟩ := a
  obtain ⟨bk, bp, bs⟩ := b
  obtain ⟨xk, xp, xs⟩ := x
  obtain ⟨yk, yp, ys⟩ := y
  go_enter Try.func12, Try.ntmps12
  go_upto_region 5 with (first
    | (go_at_call 66; refine (HG.out _).mono ?_; rintro e w1 ⟨rfl, hb1⟩; have HB1 := Lib.hid hb1; clear hb1)
    | (go_at_call 67; refine (HRG.out _).mono ?_; rintro e w2 ⟨rfl, hb2⟩; have HB2 := Lib.hid hb2; clear hb2)
    | (go_at_call 68; refine (HK.out _).mono ?_; rintro e w3 ⟨rfl, hb3⟩; have HB3 := Lib.hid hb3; clear hb3)
    | (go_at_call 69; refine (HRK.out _).mono ?_; rintro e w4 ⟨rfl, hb4⟩; have HB4 := Lib.hid hb4; clear hb4))
  have hA4 := (((HAB.out.step HB1.out).step ((below_past_alloc (Below.refl _ _)).trans (HB2.out.mono (by simp)))).step ((below_past_alloc (Below.refl _ _)).trans (HB3.out.mono (by simp)))).step ((below_past_alloc (Below.refl _ _)).trans (HB4.out.mono (by simp)))
  have c4 := blk_past (blk_past (blk_new HB2.out) HB3.out) HB4.out
  have d4 := blk_past (blk_new HB3.out) HB4.out
  have e4 := blk_new HB4.out
  obtain ⟨V, hV⟩ : ∃ V, V = w4.alloc (.cells #[.string yk, .int .i64 yp, .int .i64 ys] 45) := ⟨_, rfl⟩
  have hbV : Below w4.heap.size w4 V := by rw [hV]; exact below_past_alloc (Below.refl _ _)
  have fV : V.heap[w4.heap.size]? = some (.cells #[.string yk, .int .i64 yp, .int .i64 ys] 45 (0, 0)) := by rw [hV]; exact heap_alloc_new w4 _
  have hwV : Below w.heap.size w V := andThen (below_past_alloc (below_past_alloc (Below.refl _ _))) (hA4.step hbV).2.2.2.2.2.2.2
  have hS0 : Held6 w.heap.size (w.heap.size + 1) w1.heap.size w2.heap.size w3.heap.size w4.heap.size ⟨ak, ap, as_⟩ ⟨bk, bp, bs⟩ ⟨xk, xp, xs⟩ ⟨yk, yp, ys⟩ w V := by
    have hAV := hA4.step hbV
    exact ⟨⟨hAV.1, hAV.2.1, hAV.2.2.1⟩, ⟨hAV.2.2.2.1, hAV.2.2.2.2.1, hAV.2.2.2.2.2.1⟩, entAt_blk (e := ⟨xk, xp, xs⟩) (blk_old c4 hbV), entAt_blk (e := ⟨xk, xp, xs⟩) (blk_old d4 hbV), entAt_blk (e := ⟨yk, yp, ys⟩) (blk_old e4 hbV), entAt_blk (e := ⟨yk, yp, ys⟩) fV,
      ⟨by have := hAV.2.2.2.2.2.2.1; omega, hAV.2.2.2.2.2.2.1, heap_lt (blk_old c4 hbV), heap_lt (blk_old d4 hbV), heap_lt (blk_old e4 hbV), heap_lt fV, hwV⟩⟩
  have HS0 := Lib.hid (hS0.step (Below.refl _ _).drew)
  rw [← hV]
  clear hA4 c4 d4 e4 hV hbV fV hwV hS0 HB1 HB2 HB3 HB4 HAB HG HRG HK HRK
  go_region_held3 (fun we => Held6 w.heap.size (w.heap.size + 1) w1.heap.size w2.heap.size w3.heap.size w4.heap.size ⟨ak, ap, as_⟩ ⟨bk, bp, bs⟩ ⟨xk, xp, xs⟩ ⟨yk, yp, ys⟩ w we) (first | assumption | exact HS0.out | go_keep) (first
    | (go_at_call 56; refine (HW.out _).mono ?_; rintro e w5 ⟨rfl, hb5⟩; have hS1 := HS0.out.step hb5)
    | (go_at_call 65; refine (HL.out _).mono ?_; rintro e w6 ⟨rfl, hb6⟩; have hS2 := hS1.step hb6)
    | (go_at_call 70; refine (HRL.out _).mono ?_; rintro e w7 ⟨rfl, hb7⟩; have hS3 := hS2.step hb7)
    | (go_at_call 71; refine (HP.out _).mono ?_; rintro e w8 ⟨rfl, hb8⟩; have hS4 := hS3.step hb8)
    | (go_at_call 72; refine (HRP.out _).mono ?_; rintro e w9 ⟨rfl, hb9⟩; have hS5 := hS4.step hb9)
    | (go_at_call 73; refine (HC.out _).mono ?_; rintro e w10 ⟨rfl, hb10⟩; have hS6 := hS5.step hb10)
    | (go_at_call 74; refine (HRC.out _).mono ?_; rintro e w11 ⟨rfl, hb11⟩; have hS7 := hS6.step hb11))
  go_wp2_with fail
  go_ret
  exact ⟨rfl, hS7.2.2.2.2.2.2.bw⟩
end Go.Proofs.Ytgbihdlahghonaa
